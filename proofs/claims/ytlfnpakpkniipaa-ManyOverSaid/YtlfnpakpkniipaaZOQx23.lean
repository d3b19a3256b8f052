/- Words for the claim. -/
import Derived.Test.YtlfnpakpkniipaaZOWords
import Derived.Test.YtlfnpakpkniipaaZOQx0
import Derived.Test.YtlfnpakpkniipaaZOQx2
import Derived.Test.YtlfnpakpkniipaaZOQx10
import Derived.Test.YtlfnpakpkniipaaZOQx21
import Derived.Test.YtlfnpakpkniipaaZOQx22
namespace Go.Proofs.Ytlfnpakpkniipaa.Q
open Go.RowKit Go.Proofs.YtlfnpakpkniipaaW.PrintWords Go.Proofs.YtlfnpakpkniipaaW.PrintLast Go.Proofs.YtlfnpakpkniipaaW.PrintMore
attribute [local go_sem] max2_int min2_int max_two min_two max_three min_three max_four min_four
set_option linter.unusedVariables false
set_option linter.unusedSimpArgs false
def horariumlaw16_ManyOver.f (k : Nat) (a0_0 : Int) (a0_1 : Int) (a0_2 : Int) (a1 : Int) (a2_0 : Int) (a2_1 : Int) (l3 : List (S49)) (a4 : Bool) : Option (Bool) := (horariumlaw16_few.f l3).bind fun t377 => (if t377 = true then ((many_Over.f k a0_0 a0_1 a0_2 a1 a2_0 a2_1 l3).bind fun t379 => ((horariumref16_Over.f k a0_0 a0_1 a0_2 a1 a2_0 a2_1 l3).bind fun t380 => (if t379 = t380 then ((many_Broken.f k a0_0 a0_1 a0_2 a1 a2_0 a2_1 l3 a4).bind fun t381 => ((horariumref16_Broken.f k a0_0 a0_1 a0_2 a1 a2_0 a2_1 l3 a4).bind fun t382 => (if (t381 == t382) = true then ((many_Least.f k a0_0 a0_1 a0_2 a1 a2_0 a2_1 l3 a4).bind fun t383 => ((horariumref16_Least.f k a0_0 a0_1 a0_2 a1 a2_0 a2_1 l3 a4).bind fun t384 => (if t383 = t384 then ((horariumlaw16_heads.f k).bind fun t385 => (some t385)) else (some false)))) else (some false)))) else (some false)))) else ((horariumlaw16_heads.f k).bind fun t378 => (some t378)))
def horariumlaw16_ManyOver.T3 : Bool × List (List Nat × List Nat) := (true, [([], []), ([], []), ([], []), ([2], [2]), ([], []), ([4], [4]), ([], []), ([0, 1, 3, 5, 6], [0, 1, 3, 5, 6]), ([], []), ([], []), ([], []), ([10], [10]), ([], []), ([12], [12]), ([], []), ([8, 9, 11, 13, 14, 7], [8, 9, 11, 13, 14]), ([7, 15], [7, 15]), ([16, 15], [16]), ([17], [17]), ([17], [17]), ([17], [17]), ([20, 17], [17, 20]), ([17], [17]), ([22, 17], [17, 22]), ([17], [17]), ([17], [17]), ([18, 19, 21, 23, 24, 25, 17, 17], [17, 18, 19, 21, 23, 24, 25]), ([17], [17]), ([17], [17]), ([17], [17]), ([29, 17], [17, 29]), ([17], [17]), ([31, 17], [17, 31]), ([17], [17]), ([17], [17]), ([27, 28, 30, 32, 33, 34, 26, 17], [17, 27, 28, 30, 32, 33, 34]), ([26, 35, 17], [17, 26, 35]), ([17, 36], [17, 36]), ([37, 35], [37]), ([38], [38]), ([38], [38]), ([38], [38]), ([41, 38], [38, 41]), ([38], [38]), ([43, 38], [38, 43]), ([38], [38]), ([38], [38]), ([39, 40, 42, 44, 45, 46, 38, 38], [38, 39, 40, 42, 44, 45, 46]), ([38], [38]), ([38], [38]), ([38], [38]), ([50, 38], [38, 50]), ([38], [38]), ([52, 38], [38, 52]), ([38], [38]), ([38], [38]), ([48, 49, 51, 53, 54, 55, 47, 38], [38, 48, 49, 51, 53, 54, 55]), ([47, 56, 38], [38, 47, 56]), ([38, 57], [38, 57]), ([58, 56], [58]), ([59, 59], [59]), ([59, 60], [59, 60]), ([61, 60, 0, 1, 2, 3, 4, 5, 6, 7, 8, 9, 10, 11, 12, 13, 14, 15, 16, 17, 18, 19, 20, 21, 22, 23, 24, 25, 26, 27, 28, 29, 30, 31, 32, 33, 34, 35, 36, 37, 38, 39, 40, 41, 42, 43, 44, 45, 46, 47, 48, 49, 50, 51, 52, 53, 54, 55, 56, 57, 58, 59, 60, 61], [61])])
def horariumlaw16_ManyOver.B3 : List Nat := [0, 0, 0, 4, 0, 16, 0, 127, 0, 0, 0, 1024, 0, 4096, 0, 32767, 65535, 131071, 262143, 262143, 262143, 1310719, 262143, 4456447, 262143, 262143, 67108863, 262143, 262143, 262143, 537133055, 262143, 2147745791, 262143, 262143, 34359738367, 68719476735, 137438953471, 274877906943, 549755813887, 549755813887, 549755813887, 2748779069439, 549755813887, 9345848836095, 549755813887, 549755813887, 140737488355327, 549755813887, 549755813887, 549755813887, 1126449662656511, 549755813887, 4504149383184383, 549755813887, 549755813887, 72057594037927935, 144115188075855871, 288230376151711743, 576460752303423487, 1152921504606846975, 2305843009213693951, 4611686018427387903]
theorem horariumlaw16_ManyOver.tab3 : rtab .any (opsOf Try.f6 3) = horariumlaw16_ManyOver.T3 := by kernel_rfl
theorem horariumlaw16_ManyOver.bits3 : waitsOk horariumlaw16_ManyOver.T3.2 horariumlaw16_ManyOver.B3 = true := by kernel_rfl
set_option maxHeartbeats 8000000 in
set_option maxRecDepth 100000 in
theorem horariumlaw16_ManyOver.calls (k : Nat) (a0_0 : Int) (a0_1 : Int) (a0_2 : Int) (a1 : Int) (a2_0 : Int) (a2_1 : Int) (A3 : Option Addr) (c3 : Nat) (l3 : List (S49)) (a4 : Bool) (r : Bool) (hrt : Aside0 (r = true)) (w : World) (hr3 : Kd.C k49 w A3 l3.length l3) (hc3 : l3.length ≤ c3) (h : horariumlaw16_ManyOver.f k a0_0 a0_1 a0_2 a1 a2_0 a2_1 l3 a4 = some r) :
  Calls Try.prog 6 #[.agg #[.int .i64 a0_0, .int .i64 a0_1, .int .i64 a0_2], .int .i64 a1, .agg #[.int .i64 a2_0, .int .i64 a2_1], .slice A3 l3.length c3, .bool a4] w fun e w' => e = .returned (.bool r) ∧ Below w.heap.size w w' := by
 have hu23 := Try.underlying23
 have hu25 := Try.underlying25
 have HR3 := zm hr3
 have HC3 := zm hc3
 clear hr3 hc3
 have HB := zm (Below.refl w.heap.size w)
 have H : ((horariumlaw16_few.f l3).bind fun t377 => (if t377 = true then ((many_Over.f k a0_0 a0_1 a0_2 a1 a2_0 a2_1 l3).bind fun t379 => ((horariumref16_Over.f k a0_0 a0_1 a0_2 a1 a2_0 a2_1 l3).bind fun t380 => (if t379 = t380 then ((many_Broken.f k a0_0 a0_1 a0_2 a1 a2_0 a2_1 l3 a4).bind fun t381 => ((horariumref16_Broken.f k a0_0 a0_1 a0_2 a1 a2_0 a2_1 l3 a4).bind fun t382 => (if (t381 == t382) = true then ((many_Least.f k a0_0 a0_1 a0_2 a1 a2_0 a2_1 l3 a4).bind fun t383 => ((horariumref16_Least.f k a0_0 a0_1 a0_2 a1 a2_0 a2_1 l3 a4).bind fun t384 => (if t383 = t384 then ((horariumlaw16_heads.f k).bind fun t385 => (some t385)) else (some false)))) else (some false)))) else (some false)))) else ((horariumlaw16_heads.f k).bind fun t378 => (some t378)))) = some r := h
 clear h
 replace H := zo H
 obtain ⟨t377, A60, H⟩ := H
 have A6 := zm A60
 clear A60
 by_cases c7 : t377 = true
 ·subst c7
  have H1 : ((many_Over.f k a0_0 a0_1 a0_2 a1 a2_0 a2_1 l3).bind fun t379 => ((horariumref16_Over.f k a0_0 a0_1 a0_2 a1 a2_0 a2_1 l3).bind fun t380 => (if t379 = t380 then ((many_Broken.f k a0_0 a0_1 a0_2 a1 a2_0 a2_1 l3 a4).bind fun t381 => ((horariumref16_Broken.f k a0_0 a0_1 a0_2 a1 a2_0 a2_1 l3 a4).bind fun t382 => (if (t381 == t382) = true then ((many_Least.f k a0_0 a0_1 a0_2 a1 a2_0 a2_1 l3 a4).bind fun t383 => ((horariumref16_Least.f k a0_0 a0_1 a0_2 a1 a2_0 a2_1 l3 a4).bind fun t384 => (if t383 = t384 then ((horariumlaw16_heads.f k).bind fun t385 => (some t385)) else (some false)))) else (some false)))) else (some false)))) = some r := by rw [if_pos rfl] at H; exact H
  clear H
  have H := H1
  clear H1
  replace H := zo H
  obtain ⟨t379, A80, H⟩ := H
  have A8 := zm A80
  clear A80
  replace H := zo H
  obtain ⟨t380, A90, H⟩ := H
  have A9 := zm A90
  clear A90
  by_cases c10 : t379 = t380
  ·rw [if_pos c10] at H
   have c10b0 : (t379 == t380) = true := beq_iff_eq.mpr c10
   have c10b1 : (t379 != t380) = false := bne_eq_false_iff_eq.mpr c10
   clear c10
   replace H := zo H
   obtain ⟨t381, A110, H⟩ := H
   have A11 := zm A110
   clear A110
   replace H := zo H
   obtain ⟨t382, A120, H⟩ := H
   have A12 := zm A120
   clear A120
   by_cases c13 : (t381 == t382) = true
   ·rw [if_pos c13] at H
    have c13b0 : (t381 == t382) = true := c13
    (try (have c13b1 : decide (t381 = t382) = true := by simpa using c13))
    (try (have c13b2 : (t381 == t382) = true := by simpa using c13))
    clear c13
    replace H := zo H
    obtain ⟨t383, A140, H⟩ := H
    have A14 := zm A140
    clear A140
    replace H := zo H
    obtain ⟨t384, A150, H⟩ := H
    have A15 := zm A150
    clear A150
    by_cases c16 : t383 = t384
    ·rw [if_pos c16] at H
     have c16b0 : (t383 == t384) = true := beq_iff_eq.mpr c16
     have c16b1 : (t383 != t384) = false := bne_eq_false_iff_eq.mpr c16
     clear c16
     replace H := zo H
     obtain ⟨t385, A170, H⟩ := H
     have A17 := zm A170
     clear A170
     obtain rfl := Option.some.inj H
     go_enter Try.func6, Try.ntmps6
     try go_wp2_with (first | ((with_reducible refine gate_dst (N := 5) rfl ?_); refine box_event ?hg (N := 5) ?hd (cs := #[.int .i64 a0_0, .int .i64 a0_1, .int .i64 a0_2]) (t := 23) ?hr ?_; (case hd => rfl); (case hg => rfl); (case hr => go_simp; try rfl); intro gb375 hg w18 hbox hb; have BK375 := zm (hbox); have GW375 := zm ((by rw [hg]; exact (below_size (by apply_rules [HB.out, zb1, zb2, zb3])) : w.heap.size ≤ gb375)); have GE375 := GW375; replace HB := zm (below_step (by apply_rules [HB.out, zb1, zb2, zb3]) hb); clear hb hbox hg) | ((with_reducible refine gate_dst (N := 7) rfl ?_); refine box_event ?hg (N := 7) ?hd (cs := #[.int .i64 a2_0, .int .i64 a2_1]) (t := 25) ?hr ?_; (case hd => rfl); (case hg => rfl); (case hr => go_simp; try rfl); intro gb376 hg w19 hbox hb; have n0_ := zm (blk_below (by apply_rules [BK375.out, zk1, zk2, zk3]) hb); have n1_ := zm (below_step (by apply_rules [HB.out, zb1, zb2, zb3, zb4, GE375.out]) hb); have n2_ := zm (hbox); have n3_ := zm ((by rw [hg]; exact (below_size (by apply_rules [HB.out, zb1, zb2, zb3, zb4, GE375.out])) : w.heap.size ≤ gb376)); have n4_ := n3_; have n5_ := zm ((by rw [hg]; exact Nat.ne_of_lt (blk_lt (by apply_rules [BK375.out, zk1, zk2, zk3])) : gb375 ≠ gb376)); have n6_ := zm ((by rw [hg]; exact Nat.ne_of_gt (blk_lt (by apply_rules [BK375.out, zk1, zk2, zk3])) : gb376 ≠ gb375)); clear BK375; clear HB; have BK375 := n0_; have HB := n1_; have BK376 := n2_; have GW376 := n3_; have GE376 := n4_; have NB375_376 := n5_; have NB376_375 := n6_; clear n0_ n1_ n2_ n3_ n4_ n5_ n6_; clear hb hbox hg) | ((with_reducible refine gate_callee (f := 9) rfl ?_); refine goesL_ (some 12) rfl rfl Try.func9 (by kernel_rfl) rfl #[.slice A3 l3.length c3] rfl (by (try simp only [zt1, zt2, zt3]) <;> rfl) ?_; (with_reducible refine (horariumlaw16_few.calls _ _ l3 true _ ?side1 ?side2 A6.out).mono ?_); (case side1 => apply_rules [Kd.C_below HR3.out HB.out, Kd.C_alloc, Kd.C_drewN, Kd.C_drew]); (case side2 => exact HC3.out); rintro e w' ⟨rfl, ⟨nd, rfl⟩⟩; refine ⟨_, rfl, ?_⟩))
     (try (rw [drewN_self w19]; generalize hq_ : World.drewN w19 _ = w19; have n0_ : Aside0 (w19.heap[gb375]? = some (.cells #[.int .i64 a0_0, .int .i64 a0_1, .int .i64 a0_2] 23 (0, 0))) := ⟨by rw [← hq_]; exact (by apply_rules [BK375.out, zk1, zk2, zk3])⟩; have n1_ : Aside0 (w19.heap[gb376]? = some (.cells #[.int .i64 a2_0, .int .i64 a2_1] 25 (0, 0))) := ⟨by rw [← hq_]; exact (by apply_rules [BK376.out, zk1, zk2, zk3])⟩; have n2_ : Aside0 (Below w.heap.size w w19) := ⟨by rw [← hq_]; exact (by apply_rules [HB.out, zb1, zb2, zb3, zb4, GE375.out, zb4, GE376.out])⟩; clear BK375 BK376 HB hq_; have BK375 := n0_; have BK376 := n1_; have HB := n2_; clear n0_ n1_ n2_))
     have n0_ := zm (blk_drew BK375.out)
     have n1_ := zm (blk_drew BK376.out)
     have n2_ := zm (below_drew1 HB.out)
     clear BK375
     clear BK376
     clear HB
     have BK375 := n0_
     have BK376 := n1_
     have HB := n2_
     clear n0_ n1_ n2_
     refine start_ (n := 63) (S := fun w' => w'.cell? ⟨gb375, 0, none⟩ = some (.int .i64 a0_0) ∧ w'.cell? ⟨gb375, 1, none⟩ = some (.int .i64 a0_1) ∧ w'.cell? ⟨gb375, 2, none⟩ = some (.int .i64 a0_2) ∧ w'.cell? ⟨gb376, 0, none⟩ = some (.int .i64 a2_0) ∧ w'.cell? ⟨gb376, 1, none⟩ = some (.int .i64 a2_1)) (ds := []) #[false, false, false, false, false, false, false, false, false, false, false, false, false, false, false, false, false, false, false, false, false, false, false, false, false, false, false, false, false, false, false, false, false, false, false, false, false, false, false, false, false, false, false, false, false, false, false, false, false, false, false, false, false, false, false, false, false, false, false, false, false, false, false] (by kernel_rfl) rfl rfl ⟨(blk_cell BK375.out 0).trans rfl, (blk_cell BK375.out 1).trans rfl, (blk_cell BK375.out 2).trans rfl, (blk_cell BK376.out 0).trans rfl, (blk_cell BK376.out 1).trans rfl⟩ (fun hHeld => ?_); refine with_tabW horariumlaw16_ManyOver.tab3 horariumlaw16_ManyOver.bits3 (fun HT_ HW_ => ?_)
     generalize w19.drew = w20 at BK375 BK376 HB hHeld ⊢
     refine zp 1 16 (v := ?_) (a' := ?_) (bm 63 2) HT_.out (by kernel_rfl) ?_ ?_ ?_; rotate_left; (focus intro w'; go_simp; with_reducible rfl); rotate_left; (focus simp only [Act.put, zs1, zs2, zs3, i64_w, i32_w]; rfl)
     refine zp 2 17 (v := ?_) (a' := ?_) (bm 63 6) HT_.out (by kernel_rfl) ?_ ?_ ?_; rotate_left; (focus intro w'; go_simp; with_reducible rfl); rotate_left; (focus simp only [Act.put, zs1, zs2, zs3, i64_w, i32_w]; rfl)
     refine zp 4 19 (v := ?_) (a' := ?_) (bm 63 22) HT_.out (by kernel_rfl) ?_ ?_ ?_; rotate_left; (focus intro w'; go_simp; with_reducible rfl); rotate_left; (focus simp only [Act.put, zs1, zs2, zs3, i64_w, i32_w]; rfl)
     refine zp 6 21 (v := ?_) (a' := ?_) (bm 63 86) HT_.out (by kernel_rfl) ?_ ?_ ?_; rotate_left; (focus intro w'; go_simp; with_reducible rfl); rotate_left; (focus simp only [Act.put, zs1, zs2, zs3, i64_w, i32_w]; rfl)
     refine zp 9 24 (v := ?_) (a' := ?_) (bm 63 598) HT_.out (by kernel_rfl) ?_ ?_ ?_; rotate_left; (focus intro w'; go_simp; with_reducible rfl); rotate_left; (focus simp only [Act.put, zs1, zs2, zs3, i64_w, i32_w]; rfl)
     refine zp 10 25 (v := ?_) (a' := ?_) (bm 63 1622) HT_.out (by kernel_rfl) ?_ ?_ ?_; rotate_left; (focus intro w'; go_simp; with_reducible rfl); rotate_left; (focus simp only [Act.put, zs1, zs2, zs3, i64_w, i32_w]; rfl)
     refine zp 12 27 (v := ?_) (a' := ?_) (bm 63 5718) HT_.out (by kernel_rfl) ?_ ?_ ?_; rotate_left; (focus intro w'; go_simp; with_reducible rfl); rotate_left; (focus simp only [Act.put, zs1, zs2, zs3, i64_w, i32_w]; rfl)
     refine zp 14 29 (v := ?_) (a' := ?_) (bm 63 22102) HT_.out (by kernel_rfl) ?_ ?_ ?_; rotate_left; (focus intro w'; go_simp; with_reducible rfl); rotate_left; (focus simp only [Act.put, zs1, zs2, zs3, i64_w, i32_w]; rfl)
     refine take_ (i := 0) (N := some 15) (v := ?_) (a' := ?_) (bm 63 22103) rfl rfl (take_ofW HT_.out HW_.out (by kernel_rfl)) (fun _ _ _ h => h) (Or.inl ⟨by rfl, ?_⟩) hHeld ?_ ?_; rotate_left; (focus rintro w' ⟨s0, s1, s2, s3, s4⟩; go_simp; with_reducible rfl); rotate_left; (focus simp only [Act.put, zs1, zs2, zs3, i64_w, i32_w]; rfl)
     refine take_ (i := 3) (N := some 18) (v := ?_) (a' := ?_) (bm 63 22111) rfl rfl (take_ofW HT_.out HW_.out (by kernel_rfl)) (fun _ _ _ h => h) (Or.inl ⟨by rfl, ?_⟩) hHeld ?_ ?_; rotate_left; (focus rintro w' ⟨s0, s1, s2, s3, s4⟩; go_simp; with_reducible rfl); rotate_left; (focus simp only [Act.put, zs1, zs2, zs3, i64_w, i32_w]; rfl)
     refine take_ (i := 5) (N := some 20) (v := ?_) (a' := ?_) (bm 63 22143) rfl rfl (take_ofW HT_.out HW_.out (by kernel_rfl)) (fun _ _ _ h => h) (Or.inl ⟨by rfl, ?_⟩) hHeld ?_ ?_; rotate_left; (focus rintro w' ⟨s0, s1, s2, s3, s4⟩; go_simp; with_reducible rfl); rotate_left; (focus simp only [Act.put, zs1, zs2, zs3, i64_w, i32_w]; rfl)
     refine take_ (i := 8) (N := some 23) (v := ?_) (a' := ?_) (bm 63 22399) rfl rfl (take_ofW HT_.out HW_.out (by kernel_rfl)) (fun _ _ _ h => h) (Or.inl ⟨by rfl, ?_⟩) hHeld ?_ ?_; rotate_left; (focus rintro w' ⟨s0, s1, s2, s3, s4⟩; go_simp; with_reducible rfl); rotate_left; (focus simp only [Act.put, zs1, zs2, zs3, i64_w, i32_w]; rfl)
     refine take_ (i := 11) (N := some 26) (v := ?_) (a' := ?_) (bm 63 24447) rfl rfl (take_ofW HT_.out HW_.out (by kernel_rfl)) (fun _ _ _ h => h) (Or.inl ⟨by rfl, ?_⟩) hHeld ?_ ?_; rotate_left; (focus rintro w' ⟨s0, s1, s2, s3, s4⟩; go_simp; with_reducible rfl); rotate_left; (focus simp only [Act.put, zs1, zs2, zs3, i64_w, i32_w]; rfl)
     refine take_ (i := 13) (N := some 28) (v := ?_) (a' := ?_) (bm 63 32639) rfl rfl (take_ofW HT_.out HW_.out (by kernel_rfl)) (fun _ _ _ h => h) (Or.inl ⟨by rfl, ?_⟩) hHeld ?_ ?_; rotate_left; (focus rintro w' ⟨s0, s1, s2, s3, s4⟩; go_simp; with_reducible rfl); rotate_left; (focus simp only [Act.put, zs1, zs2, zs3, i64_w, i32_w]; rfl)
     refine one_ (i := 7) (N := some 22) (bm 63 32767) rfl rfl (one_of HT_.out (by kernel_rfl)) (by decide) (fun K hK => ?_)
     refine goes_ Try.func21 (by kernel_rfl) rfl #[.agg #[.int .i64 a0_0, .int .i64 a0_1, .int .i64 a0_2], .int .i64 a1, .int .i64 a2_0, .int .i64 a2_1, .slice A3 l3.length c3] (by rfl) rfl rfl (by (try simp only [zt1, zt2, zt3]) <;> rfl) ?_
     with_reducible refine (many_Over.calls k a0_0 a0_1 a0_2 a1 a2_0 a2_1 _ _ l3 t379 _ ?side1 ?side2 A8.out).mono ?_
     (case side1 => apply_rules [Kd.C_below HR3.out HB.out, Kd.C_alloc, Kd.C_drewN, Kd.C_drew])
     (case side2 => exact HC3.out)
     rintro e w21 ⟨rfl, hb⟩
     refine ⟨_, rfl, ?_⟩
     have n0_ := zm (blk_below (by apply_rules [BK375.out, zk1, zk2, zk3]) hb)
     have n1_ := zm (blk_below (by apply_rules [BK376.out, zk1, zk2, zk3]) hb)
     have n2_ := zm (below_step (by apply_rules [HB.out, zb1, zb2, zb3, zb4, GE375.out, zb4, GE376.out]) hb)
     clear BK375
     clear BK376
     clear HB
     have BK375 := n0_
     have BK376 := n1_
     have HB := n2_
     clear n0_ n1_ n2_
     (try clear hb)
     (try clear hb2)
     (try clear hk)
     (try clear hi)
     refine hK.out _ _ ⟨(blk_cell BK375.out 0).trans rfl, (blk_cell BK375.out 1).trans rfl, (blk_cell BK375.out 2).trans rfl, (blk_cell BK376.out 0).trans rfl, (blk_cell BK376.out 1).trans rfl⟩ (fun hHeld => ?_)
     clear hK K
     refine norm_ (a' := ?_) ?_ ?_
     rotate_left
     ·show Act.put _ (some 22) _ = _
      simp only [Act.put, zs1, zs2, zs3, i64_w, i32_w]
      rfl
     refine one_ (i := 15) (N := some 30) (bm 63 65535) rfl rfl (one_of HT_.out (by kernel_rfl)) (by decide) (fun K hK => ?_)
     refine goes_ Try.func22 (by kernel_rfl) rfl #[.agg #[.int .i64 a0_0, .int .i64 a0_1, .int .i64 a0_2], .int .i64 a1, .int .i64 a2_0, .int .i64 a2_1, .slice A3 l3.length c3] (by rfl) rfl rfl (by (try simp only [zt1, zt2, zt3]) <;> rfl) ?_
     with_reducible refine (horariumref16_Over.calls k a0_0 a0_1 a0_2 a1 a2_0 a2_1 _ _ l3 t380 _ ?side1 ?side2 A9.out).mono ?_
     (case side1 => apply_rules [Kd.C_below HR3.out HB.out, Kd.C_alloc, Kd.C_drewN, Kd.C_drew])
     (case side2 => exact HC3.out)
     rintro e w22 ⟨rfl, hb⟩
     refine ⟨_, rfl, ?_⟩
     have n0_ := zm (blk_below (by apply_rules [BK375.out, zk1, zk2, zk3]) hb)
     have n1_ := zm (blk_below (by apply_rules [BK376.out, zk1, zk2, zk3]) hb)
     have n2_ := zm (below_step (by apply_rules [HB.out, zb1, zb2, zb3, zb4, GE375.out, zb4, GE376.out]) hb)
     clear BK375
     clear BK376
     clear HB
     have BK375 := n0_
     have BK376 := n1_
     have HB := n2_
     clear n0_ n1_ n2_
     (try clear hb)
     (try clear hb2)
     (try clear hk)
     (try clear hi)
     refine hK.out _ _ ⟨(blk_cell BK375.out 0).trans rfl, (blk_cell BK375.out 1).trans rfl, (blk_cell BK375.out 2).trans rfl, (blk_cell BK376.out 0).trans rfl, (blk_cell BK376.out 1).trans rfl⟩ (fun hHeld => ?_)
     clear hK K
     refine norm_ (a' := ?_) ?_ ?_
     rotate_left
     ·show Act.put _ (some 30) _ = _
      simp only [Act.put, zs1, zs2, zs3, i64_w, i32_w]
      rfl
     refine zp 16 31 (v := ?_) (a' := ?_) (bm 63 131071) HT_.out (by kernel_rfl) ?_ ?_ ?_; rotate_left; (focus intro w'; go_simp; with_reducible rfl); rotate_left; (focus simp only [Act.put, zs1, zs2, zs3, i64_w, i32_w]; rfl)
     refine zp 17 32 (v := ?_) (a' := ?_) (bm 63 262143) HT_.out (by kernel_rfl) ?_ ?_ ?_; rotate_left; (focus intro w'; go_simp; with_reducible rfl); rotate_left; (focus simp only [Act.put, zs1, zs2, zs3, i64_w, i32_w]; rfl)
     refine zp 19 34 (v := ?_) (a' := ?_) (bm 63 786431) HT_.out (by kernel_rfl) ?_ ?_ ?_; rotate_left; (focus intro w'; go_simp; with_reducible rfl); rotate_left; (focus simp only [Act.put, zs1, zs2, zs3, i64_w, i32_w]; rfl)
     refine zp 20 35 (v := ?_) (a' := ?_) (bm 63 1835007) HT_.out (by kernel_rfl) ?_ ?_ ?_; rotate_left; (focus intro w'; go_simp; with_reducible rfl); rotate_left; (focus simp only [Act.put, zs1, zs2, zs3, i64_w, i32_w]; rfl)
     refine zp 22 37 (v := ?_) (a' := ?_) (bm 63 6029311) HT_.out (by kernel_rfl) ?_ ?_ ?_; rotate_left; (focus intro w'; go_simp; with_reducible rfl); rotate_left; (focus simp only [Act.put, zs1, zs2, zs3, i64_w, i32_w]; rfl)
     refine zp 24 39 (v := ?_) (a' := ?_) (bm 63 22806527) HT_.out (by kernel_rfl) ?_ ?_ ?_; rotate_left; (focus intro w'; go_simp; with_reducible rfl); rotate_left; (focus simp only [Act.put, zs1, zs2, zs3, i64_w, i32_w]; rfl)
     refine zp 25 40 (v := ?_) (a' := ?_) (bm 63 56360959) HT_.out (by kernel_rfl) ?_ ?_ ?_; rotate_left; (focus intro w'; go_simp; with_reducible rfl); rotate_left; (focus simp only [Act.put, zs1, zs2, zs3, i64_w, i32_w]; rfl)
     refine zp 28 43 (v := ?_) (a' := ?_) (bm 63 324796415) HT_.out (by kernel_rfl) ?_ ?_ ?_; rotate_left; (focus intro w'; go_simp; with_reducible rfl); rotate_left; (focus simp only [Act.put, zs1, zs2, zs3, i64_w, i32_w]; rfl)
     refine zp 29 44 (v := ?_) (a' := ?_) (bm 63 861667327) HT_.out (by kernel_rfl) ?_ ?_ ?_; rotate_left; (focus intro w'; go_simp; with_reducible rfl); rotate_left; (focus simp only [Act.put, zs1, zs2, zs3, i64_w, i32_w]; rfl)
     refine zp 31 46 (v := ?_) (a' := ?_) (bm 63 3009150975) HT_.out (by kernel_rfl) ?_ ?_ ?_; rotate_left; (focus intro w'; go_simp; with_reducible rfl); rotate_left; (focus simp only [Act.put, zs1, zs2, zs3, i64_w, i32_w]; rfl)
     refine zp 33 48 (v := ?_) (a' := ?_) (bm 63 11599085567) HT_.out (by kernel_rfl) ?_ ?_ ?_; rotate_left; (focus intro w'; go_simp; with_reducible rfl); rotate_left; (focus simp only [Act.put, zs1, zs2, zs3, i64_w, i32_w]; rfl)
     refine zp 34 49 (v := ?_) (a' := ?_) (bm 63 28778954751) HT_.out (by kernel_rfl) ?_ ?_ ?_; rotate_left; (focus intro w'; go_simp; with_reducible rfl); rotate_left; (focus simp only [Act.put, zs1, zs2, zs3, i64_w, i32_w]; rfl)
     refine take_ (i := 18) (N := some 33) (v := ?_) (a' := ?_) (bm 63 28779216895) rfl rfl (take_ofW HT_.out HW_.out (by kernel_rfl)) (fun _ _ _ h => h) (Or.inl ⟨by rfl, ?_⟩) hHeld ?_ ?_; rotate_left; (focus rintro w' ⟨s0, s1, s2, s3, s4⟩; go_simp; with_reducible rfl); rotate_left; (focus simp only [Act.put, zs1, zs2, zs3, i64_w, i32_w]; rfl)
     refine take_ (i := 21) (N := some 36) (v := ?_) (a' := ?_) (bm 63 28781314047) rfl rfl (take_ofW HT_.out HW_.out (by kernel_rfl)) (fun _ _ _ h => h) (Or.inl ⟨by rfl, ?_⟩) hHeld ?_ ?_; rotate_left; (focus rintro w' ⟨s0, s1, s2, s3, s4⟩; go_simp; with_reducible rfl); rotate_left; (focus simp only [Act.put, zs1, zs2, zs3, i64_w, i32_w]; rfl)
     refine take_ (i := 23) (N := some 38) (v := ?_) (a' := ?_) (bm 63 28789702655) rfl rfl (take_ofW HT_.out HW_.out (by kernel_rfl)) (fun _ _ _ h => h) (Or.inl ⟨by rfl, ?_⟩) hHeld ?_ ?_; rotate_left; (focus rintro w' ⟨s0, s1, s2, s3, s4⟩; go_simp; with_reducible rfl); rotate_left; (focus simp only [Act.put, zs1, zs2, zs3, i64_w, i32_w]; rfl)
     refine take_ (i := 27) (N := some 42) (v := ?_) (a' := ?_) (bm 63 28923920383) rfl rfl (take_ofW HT_.out HW_.out (by kernel_rfl)) (fun _ _ _ h => h) (Or.inl ⟨by rfl, ?_⟩) hHeld ?_ ?_; rotate_left; (focus rintro w' ⟨s0, s1, s2, s3, s4⟩; go_simp; with_reducible rfl); rotate_left; (focus simp only [Act.put, zs1, zs2, zs3, i64_w, i32_w]; rfl)
     refine take_ (i := 30) (N := some 45) (v := ?_) (a' := ?_) (bm 63 29997662207) rfl rfl (take_ofW HT_.out HW_.out (by kernel_rfl)) (fun _ _ _ h => h) (Or.inl ⟨by rfl, ?_⟩) hHeld ?_ ?_; rotate_left; (focus rintro w' ⟨s0, s1, s2, s3, s4⟩; go_simp; with_reducible rfl); rotate_left; (focus simp only [Act.put, zs1, zs2, zs3, i64_w, i32_w]; rfl)
     refine take_ (i := 32) (N := some 47) (v := ?_) (a' := ?_) (bm 63 34292629503) rfl rfl (take_ofW HT_.out HW_.out (by kernel_rfl)) (fun _ _ _ h => h) (Or.inl ⟨by rfl, ?_⟩) hHeld ?_ ?_; rotate_left; (focus rintro w' ⟨s0, s1, s2, s3, s4⟩; go_simp; with_reducible rfl); rotate_left; (focus simp only [Act.put, zs1, zs2, zs3, i64_w, i32_w]; rfl)
     refine one_ (i := 26) (N := some 41) (bm 63 34359738367) rfl rfl (one_of HT_.out (by kernel_rfl)) (by decide) (fun K hK => ?_)
     refine goes_ Try.func23 (by kernel_rfl) rfl #[.agg #[.int .i64 a0_0, .int .i64 a0_1, .int .i64 a0_2], .int .i64 a1, .int .i64 a2_0, .int .i64 a2_1, .slice A3 l3.length c3, .bool a4] (by rfl) rfl rfl (by (try simp only [zt1, zt2, zt3]) <;> rfl) ?_
     with_reducible refine (many_Broken.calls k a0_0 a0_1 a0_2 a1 a2_0 a2_1 _ _ l3 a4 t381 _ ?side1 ?side2 A11.out).mono ?_
     (case side1 => apply_rules [Kd.C_below HR3.out HB.out, Kd.C_alloc, Kd.C_drewN, Kd.C_drew])
     (case side2 => exact HC3.out)
     rintro e w23 ⟨rfl, hb⟩
     refine ⟨_, rfl, ?_⟩
     have n0_ := zm (blk_below (by apply_rules [BK375.out, zk1, zk2, zk3]) hb)
     have n1_ := zm (blk_below (by apply_rules [BK376.out, zk1, zk2, zk3]) hb)
     have n2_ := zm (below_step (by apply_rules [HB.out, zb1, zb2, zb3, zb4, GE375.out, zb4, GE376.out]) hb)
     clear BK375
     clear BK376
     clear HB
     have BK375 := n0_
     have BK376 := n1_
     have HB := n2_
     clear n0_ n1_ n2_
     (try clear hb)
     (try clear hb2)
     (try clear hk)
     (try clear hi)
     refine hK.out _ _ ⟨(blk_cell BK375.out 0).trans rfl, (blk_cell BK375.out 1).trans rfl, (blk_cell BK375.out 2).trans rfl, (blk_cell BK376.out 0).trans rfl, (blk_cell BK376.out 1).trans rfl⟩ (fun hHeld => ?_)
     clear hK K
     refine norm_ (a' := ?_) ?_ ?_
     rotate_left
     ·show Act.put _ (some 41) _ = _
      simp only [Act.put, zs1, zs2, zs3, i64_w, i32_w]
      rfl
     refine one_ (i := 35) (N := some 50) (bm 63 68719476735) rfl rfl (one_of HT_.out (by kernel_rfl)) (by decide) (fun K hK => ?_)
     refine goes_ Try.func24 (by kernel_rfl) rfl #[.agg #[.int .i64 a0_0, .int .i64 a0_1, .int .i64 a0_2], .int .i64 a1, .int .i64 a2_0, .int .i64 a2_1, .slice A3 l3.length c3, .bool a4] (by rfl) rfl rfl (by (try simp only [zt1, zt2, zt3]) <;> rfl) ?_
     with_reducible refine (horariumref16_Broken.calls k a0_0 a0_1 a0_2 a1 a2_0 a2_1 _ _ l3 a4 t382 _ ?side1 ?side2 A12.out).mono ?_
     (case side1 => apply_rules [Kd.C_below HR3.out HB.out, Kd.C_alloc, Kd.C_drewN, Kd.C_drew])
     (case side2 => exact HC3.out)
     rintro e w24 ⟨rfl, hb⟩
     refine ⟨_, rfl, ?_⟩
     have n0_ := zm (blk_below (by apply_rules [BK375.out, zk1, zk2, zk3]) hb)
     have n1_ := zm (blk_below (by apply_rules [BK376.out, zk1, zk2, zk3]) hb)
     have n2_ := zm (below_step (by apply_rules [HB.out, zb1, zb2, zb3, zb4, GE375.out, zb4, GE376.out]) hb)
     clear BK375
     clear BK376
     clear HB
     have BK375 := n0_
     have BK376 := n1_
     have HB := n2_
     clear n0_ n1_ n2_
     (try clear hb)
     (try clear hb2)
     (try clear hk)
     (try clear hi)
     refine hK.out _ _ ⟨(blk_cell BK375.out 0).trans rfl, (blk_cell BK375.out 1).trans rfl, (blk_cell BK375.out 2).trans rfl, (blk_cell BK376.out 0).trans rfl, (blk_cell BK376.out 1).trans rfl⟩ (fun hHeld => ?_)
     clear hK K
     refine norm_ (a' := ?_) ?_ ?_
     rotate_left
     ·show Act.put _ (some 50) _ = _
      simp only [Act.put, zs1, zs2, zs3, i64_w, i32_w]
      rfl
     refine zp 36 51 (v := ?_) (a' := ?_) (bm 63 137438953471) HT_.out (by kernel_rfl) ?_ ?_ ?_; rotate_left; (focus intro w'; go_simp; with_reducible rfl); rotate_left; (focus simp only [Act.put, zs1, zs2, zs3, i64_w, i32_w]; rfl)
     refine zp 37 52 (v := ?_) (a' := ?_) (bm 63 274877906943) HT_.out (by kernel_rfl) ?_ ?_ ?_; rotate_left; (focus intro w'; go_simp; with_reducible rfl); rotate_left; (focus simp only [Act.put, zs1, zs2, zs3, i64_w, i32_w]; rfl)
     refine zp 38 53 (v := ?_) (a' := ?_) (bm 63 549755813887) HT_.out (by kernel_rfl) ?_ ?_ ?_; rotate_left; (focus intro w'; go_simp; with_reducible rfl); rotate_left; (focus simp only [Act.put, zs1, zs2, zs3, i64_w, i32_w]; rfl)
     refine zp 40 55 (v := ?_) (a' := ?_) (bm 63 1649267441663) HT_.out (by kernel_rfl) ?_ ?_ ?_; rotate_left; (focus intro w'; go_simp; with_reducible rfl); rotate_left; (focus simp only [Act.put, zs1, zs2, zs3, i64_w, i32_w]; rfl)
     refine zp 41 56 (v := ?_) (a' := ?_) (bm 63 3848290697215) HT_.out (by kernel_rfl) ?_ ?_ ?_; rotate_left; (focus intro w'; go_simp; with_reducible rfl); rotate_left; (focus simp only [Act.put, zs1, zs2, zs3, i64_w, i32_w]; rfl)
     refine zp 43 58 (v := ?_) (a' := ?_) (bm 63 12644383719423) HT_.out (by kernel_rfl) ?_ ?_ ?_; rotate_left; (focus intro w'; go_simp; with_reducible rfl); rotate_left; (focus simp only [Act.put, zs1, zs2, zs3, i64_w, i32_w]; rfl)
     refine zp 45 60 (v := ?_) (a' := ?_) (bm 63 47828755808255) HT_.out (by kernel_rfl) ?_ ?_ ?_; rotate_left; (focus intro w'; go_simp; with_reducible rfl); rotate_left; (focus simp only [Act.put, zs1, zs2, zs3, i64_w, i32_w]; rfl)
     refine zp 46 61 (v := ?_) (a' := ?_) (bm 63 118197499985919) HT_.out (by kernel_rfl) ?_ ?_ ?_; rotate_left; (focus intro w'; go_simp; with_reducible rfl); rotate_left; (focus simp only [Act.put, zs1, zs2, zs3, i64_w, i32_w]; rfl)
     refine zp 49 64 (v := ?_) (a' := ?_) (bm 63 681147453407231) HT_.out (by kernel_rfl) ?_ ?_ ?_; rotate_left; (focus intro w'; go_simp; with_reducible rfl); rotate_left; (focus simp only [Act.put, zs1, zs2, zs3, i64_w, i32_w]; rfl)
     refine zp 50 65 (v := ?_) (a' := ?_) (bm 63 1807047360249855) HT_.out (by kernel_rfl) ?_ ?_ ?_; rotate_left; (focus intro w'; go_simp; with_reducible rfl); rotate_left; (focus simp only [Act.put, zs1, zs2, zs3, i64_w, i32_w]; rfl)
     refine zp 52 67 (v := ?_) (a' := ?_) (bm 63 6310646987620351) HT_.out (by kernel_rfl) ?_ ?_ ?_; rotate_left; (focus intro w'; go_simp; with_reducible rfl); rotate_left; (focus simp only [Act.put, zs1, zs2, zs3, i64_w, i32_w]; rfl)
     refine zp 54 69 (v := ?_) (a' := ?_) (bm 63 24325045497102335) HT_.out (by kernel_rfl) ?_ ?_ ?_; rotate_left; (focus intro w'; go_simp; with_reducible rfl); rotate_left; (focus simp only [Act.put, zs1, zs2, zs3, i64_w, i32_w]; rfl)
     refine zp 55 70 (v := ?_) (a' := ?_) (bm 63 60353842516066303) HT_.out (by kernel_rfl) ?_ ?_ ?_; rotate_left; (focus intro w'; go_simp; with_reducible rfl); rotate_left; (focus simp only [Act.put, zs1, zs2, zs3, i64_w, i32_w]; rfl)
     refine take_ (i := 39) (N := some 54) (v := ?_) (a' := ?_) (bm 63 60354392271880191) rfl rfl (take_ofW HT_.out HW_.out (by kernel_rfl)) (fun _ _ _ h => h) (Or.inl ⟨by rfl, ?_⟩) hHeld ?_ ?_; rotate_left; (focus rintro w' ⟨s0, s1, s2, s3, s4⟩; go_simp; with_reducible rfl); rotate_left; (focus simp only [Act.put, zs1, zs2, zs3, i64_w, i32_w]; rfl)
     refine take_ (i := 42) (N := some 57) (v := ?_) (a' := ?_) (bm 63 60358790318391295) rfl rfl (take_ofW HT_.out HW_.out (by kernel_rfl)) (fun _ _ _ h => h) (Or.inl ⟨by rfl, ?_⟩) hHeld ?_ ?_; rotate_left; (focus rintro w' ⟨s0, s1, s2, s3, s4⟩; go_simp; with_reducible rfl); rotate_left; (focus simp only [Act.put, zs1, zs2, zs3, i64_w, i32_w]; rfl)
     refine take_ (i := 44) (N := some 59) (v := ?_) (a' := ?_) (bm 63 60376382504435711) rfl rfl (take_ofW HT_.out HW_.out (by kernel_rfl)) (fun _ _ _ h => h) (Or.inl ⟨by rfl, ?_⟩) hHeld ?_ ?_; rotate_left; (focus rintro w' ⟨s0, s1, s2, s3, s4⟩; go_simp; with_reducible rfl); rotate_left; (focus simp only [Act.put, zs1, zs2, zs3, i64_w, i32_w]; rfl)
     refine take_ (i := 48) (N := some 63) (v := ?_) (a' := ?_) (bm 63 60657857481146367) rfl rfl (take_ofW HT_.out HW_.out (by kernel_rfl)) (fun _ _ _ h => h) (Or.inl ⟨by rfl, ?_⟩) hHeld ?_ ?_; rotate_left; (focus rintro w' ⟨s0, s1, s2, s3, s4⟩; go_simp; with_reducible rfl); rotate_left; (focus simp only [Act.put, zs1, zs2, zs3, i64_w, i32_w]; rfl)
     refine take_ (i := 51) (N := some 66) (v := ?_) (a' := ?_) (bm 63 62909657294831615) rfl rfl (take_ofW HT_.out HW_.out (by kernel_rfl)) (fun _ _ _ h => h) (Or.inl ⟨by rfl, ?_⟩) hHeld ?_ ?_; rotate_left; (focus rintro w' ⟨s0, s1, s2, s3, s4⟩; go_simp; with_reducible rfl); rotate_left; (focus simp only [Act.put, zs1, zs2, zs3, i64_w, i32_w]; rfl)
     refine take_ (i := 53) (N := some 68) (v := ?_) (a' := ?_) (bm 63 71916856549572607) rfl rfl (take_ofW HT_.out HW_.out (by kernel_rfl)) (fun _ _ _ h => h) (Or.inl ⟨by rfl, ?_⟩) hHeld ?_ ?_; rotate_left; (focus rintro w' ⟨s0, s1, s2, s3, s4⟩; go_simp; with_reducible rfl); rotate_left; (focus simp only [Act.put, zs1, zs2, zs3, i64_w, i32_w]; rfl)
     refine one_ (i := 47) (N := some 62) (bm 63 72057594037927935) rfl rfl (one_of HT_.out (by kernel_rfl)) (by decide) (fun K hK => ?_)
     refine goes_ Try.func25 (by kernel_rfl) rfl #[.agg #[.int .i64 a0_0, .int .i64 a0_1, .int .i64 a0_2], .int .i64 a1, .int .i64 a2_0, .int .i64 a2_1, .slice A3 l3.length c3, .bool a4] (by rfl) rfl rfl (by (try simp only [zt1, zt2, zt3]) <;> rfl) ?_
     with_reducible refine (many_Least.calls k a0_0 a0_1 a0_2 a1 a2_0 a2_1 _ _ l3 a4 t383 _ ?side1 ?side2 A14.out).mono ?_
     (case side1 => apply_rules [Kd.C_below HR3.out HB.out, Kd.C_alloc, Kd.C_drewN, Kd.C_drew])
     (case side2 => exact HC3.out)
     rintro e w25 ⟨rfl, hb⟩
     refine ⟨_, rfl, ?_⟩
     have n0_ := zm (blk_below (by apply_rules [BK375.out, zk1, zk2, zk3]) hb)
     have n1_ := zm (blk_below (by apply_rules [BK376.out, zk1, zk2, zk3]) hb)
     have n2_ := zm (below_step (by apply_rules [HB.out, zb1, zb2, zb3, zb4, GE375.out, zb4, GE376.out]) hb)
     clear BK375
     clear BK376
     clear HB
     have BK375 := n0_
     have BK376 := n1_
     have HB := n2_
     clear n0_ n1_ n2_
     (try clear hb)
     (try clear hb2)
     (try clear hk)
     (try clear hi)
     refine hK.out _ _ ⟨(blk_cell BK375.out 0).trans rfl, (blk_cell BK375.out 1).trans rfl, (blk_cell BK375.out 2).trans rfl, (blk_cell BK376.out 0).trans rfl, (blk_cell BK376.out 1).trans rfl⟩ (fun hHeld => ?_)
     clear hK K
     refine norm_ (a' := ?_) ?_ ?_
     rotate_left
     ·show Act.put _ (some 62) _ = _
      simp only [Act.put, zs1, zs2, zs3, i64_w, i32_w]
      rfl
     refine one_ (i := 56) (N := some 71) (bm 63 144115188075855871) rfl rfl (one_of HT_.out (by kernel_rfl)) (by decide) (fun K hK => ?_)
     refine goes_ Try.func26 (by kernel_rfl) rfl #[.agg #[.int .i64 a0_0, .int .i64 a0_1, .int .i64 a0_2], .int .i64 a1, .int .i64 a2_0, .int .i64 a2_1, .slice A3 l3.length c3, .bool a4] (by rfl) rfl rfl (by (try simp only [zt1, zt2, zt3]) <;> rfl) ?_
     with_reducible refine (horariumref16_Least.calls k a0_0 a0_1 a0_2 a1 a2_0 a2_1 _ _ l3 a4 t384 _ ?side1 ?side2 A15.out).mono ?_
     (case side1 => apply_rules [Kd.C_below HR3.out HB.out, Kd.C_alloc, Kd.C_drewN, Kd.C_drew])
     (case side2 => exact HC3.out)
     rintro e w26 ⟨rfl, hb⟩
     refine ⟨_, rfl, ?_⟩
     have n0_ := zm (blk_below (by apply_rules [BK375.out, zk1, zk2, zk3]) hb)
     have n1_ := zm (blk_below (by apply_rules [BK376.out, zk1, zk2, zk3]) hb)
     have n2_ := zm (below_step (by apply_rules [HB.out, zb1, zb2, zb3, zb4, GE375.out, zb4, GE376.out]) hb)
     clear BK375
     clear BK376
     clear HB
     have BK375 := n0_
     have BK376 := n1_
     have HB := n2_
     clear n0_ n1_ n2_
     (try clear hb)
     (try clear hb2)
     (try clear hk)
     (try clear hi)
     refine hK.out _ _ ⟨(blk_cell BK375.out 0).trans rfl, (blk_cell BK375.out 1).trans rfl, (blk_cell BK375.out 2).trans rfl, (blk_cell BK376.out 0).trans rfl, (blk_cell BK376.out 1).trans rfl⟩ (fun hHeld => ?_)
     clear hK K
     refine norm_ (a' := ?_) ?_ ?_
     rotate_left
     ·show Act.put _ (some 71) _ = _
      simp only [Act.put, zs1, zs2, zs3, i64_w, i32_w]
      rfl
     refine zp 57 72 (v := ?_) (a' := ?_) (bm 63 288230376151711743) HT_.out (by kernel_rfl) ?_ ?_ ?_; rotate_left; (focus intro w'; go_simp; with_reducible rfl); rotate_left; (focus simp only [Act.put, zs1, zs2, zs3, i64_w, i32_w]; rfl)
     refine zp 58 73 (v := ?_) (a' := ?_) (bm 63 576460752303423487) HT_.out (by kernel_rfl) ?_ ?_ ?_; rotate_left; (focus intro w'; go_simp; with_reducible rfl); rotate_left; (focus simp only [Act.put, zs1, zs2, zs3, i64_w, i32_w]; rfl)
     refine zp 59 74 (v := ?_) (a' := ?_) (bm 63 1152921504606846975) HT_.out (by kernel_rfl) ?_ ?_ ?_; rotate_left; (focus intro w'; go_simp; with_reducible rfl); rotate_left; (focus simp only [Act.put, zs1, zs2, zs3, i64_w, i32_w]; rfl)
     refine one_ (i := 60) (N := some 75) (bm 63 2305843009213693951) rfl rfl (one_of HT_.out (by kernel_rfl)) (by decide) (fun K hK => ?_)
     refine goes_ Try.func10 (by kernel_rfl) rfl #[] (by rfl) rfl rfl (by (try simp only [zt1, zt2, zt3]) <;> rfl) ?_
     with_reducible refine (horariumlaw16_heads.calls k  t385 _ A17.out).mono ?_
     rintro e w27 ⟨rfl, hb⟩
     refine ⟨_, rfl, ?_⟩
     have n0_ := zm (blk_below (by apply_rules [BK375.out, zk1, zk2, zk3]) hb)
     have n1_ := zm (blk_below (by apply_rules [BK376.out, zk1, zk2, zk3]) hb)
     have n2_ := zm (below_step (by apply_rules [HB.out, zb1, zb2, zb3, zb4, GE375.out, zb4, GE376.out]) hb)
     clear BK375
     clear BK376
     clear HB
     have BK375 := n0_
     have BK376 := n1_
     have HB := n2_
     clear n0_ n1_ n2_
     (try clear hb)
     (try clear hb2)
     (try clear hk)
     (try clear hi)
     refine hK.out _ _ ⟨(blk_cell BK375.out 0).trans rfl, (blk_cell BK375.out 1).trans rfl, (blk_cell BK375.out 2).trans rfl, (blk_cell BK376.out 0).trans rfl, (blk_cell BK376.out 1).trans rfl⟩ (fun hHeld => ?_)
     clear hK K
     refine norm_ (a' := ?_) ?_ ?_
     rotate_left
     ·show Act.put _ (some 75) _ = _
      simp only [Act.put, zs1, zs2, zs3, i64_w, i32_w]
      rfl
     refine zp 61 76 (v := ?_) (a' := ?_) (bm 63 4611686018427387903) HT_.out (by kernel_rfl) ?_ ?_ ?_; rotate_left; (focus intro w'; go_simp; with_reducible rfl); rotate_left; (focus simp only [Act.put, zs1, zs2, zs3, i64_w, i32_w]; rfl)
     refine zp 62 10 (v := ?_) (a' := ?_) (bm 63 9223372036854775807) HT_.out (by kernel_rfl) ?_ ?_ ?_; rotate_left; (focus intro w'; go_simp; with_reducible rfl); rotate_left; (focus simp only [Act.put, zs1, zs2, zs3, i64_w, i32_w]; rfl)
     refine done_ (done_of HT_.out (by kernel_rfl)) ?_
     try go_wp2
     go_ret
     exact ⟨by first | rfl | (simp [errW_none, errW_some] <;> rfl) | (simp [*, errW_none, errW_some] <;> rfl), by apply_rules [HB.out, zb1, zb2, zb3, zb4, GE375.out, zb4, GE376.out]⟩
    rw [if_neg c16] at H
    exact absurd ((Option.some.inj (show some false = some r from H)).trans hrt.out) (by simp)
   rw [if_neg c13] at H
   exact absurd ((Option.some.inj (show some false = some r from H)).trans hrt.out) (by simp)
  rw [if_neg c10] at H
  exact absurd ((Option.some.inj (show some false = some r from H)).trans hrt.out) (by simp)
 replace c7 := Bool.eq_false_iff.mpr c7
 subst c7
 have H1 : ((horariumlaw16_heads.f k).bind fun t378 => (some t378)) = some r := by rw [if_neg (show ¬ (false = true) by decide)] at H; exact H
 clear H
 have H := H1
 clear H1
 replace H := zo H
 obtain ⟨t378, A490, H⟩ := H
 have A49 := zm A490
 clear A490
 obtain rfl := Option.some.inj H
 go_enter Try.func6, Try.ntmps6
 go_wp2_with (first | ((with_reducible refine gate_dst (N := 5) rfl ?_); refine box_event ?hg (N := 5) ?hd (cs := #[.int .i64 a0_0, .int .i64 a0_1, .int .i64 a0_2]) (t := 23) ?hr ?_; (case hd => rfl); (case hg => rfl); (case hr => go_simp; try rfl); intro gb375 hg w50 hbox hb; have BK375 := zm (hbox); have GW375 := zm ((by rw [hg]; exact (below_size (by apply_rules [HB.out, zb1, zb2, zb3])) : w.heap.size ≤ gb375)); have GE375 := GW375; replace HB := zm (below_step (by apply_rules [HB.out, zb1, zb2, zb3]) hb); clear hb hbox hg) | ((with_reducible refine gate_dst (N := 7) rfl ?_); refine box_event ?hg (N := 7) ?hd (cs := #[.int .i64 a2_0, .int .i64 a2_1]) (t := 25) ?hr ?_; (case hd => rfl); (case hg => rfl); (case hr => go_simp; try rfl); intro gb376 hg w51 hbox hb; have n0_ := zm (blk_below (by apply_rules [BK375.out, zk1, zk2, zk3]) hb); have n1_ := zm (below_step (by apply_rules [HB.out, zb1, zb2, zb3, zb4, GE375.out]) hb); have n2_ := zm (hbox); have n3_ := zm ((by rw [hg]; exact (below_size (by apply_rules [HB.out, zb1, zb2, zb3, zb4, GE375.out])) : w.heap.size ≤ gb376)); have n4_ := n3_; have n5_ := zm ((by rw [hg]; exact Nat.ne_of_lt (blk_lt (by apply_rules [BK375.out, zk1, zk2, zk3])) : gb375 ≠ gb376)); have n6_ := zm ((by rw [hg]; exact Nat.ne_of_gt (blk_lt (by apply_rules [BK375.out, zk1, zk2, zk3])) : gb376 ≠ gb375)); clear BK375; clear HB; have BK375 := n0_; have HB := n1_; have BK376 := n2_; have GW376 := n3_; have GE376 := n4_; have NB375_376 := n5_; have NB376_375 := n6_; clear n0_ n1_ n2_ n3_ n4_ n5_ n6_; clear hb hbox hg) | ((with_reducible refine gate_callee (f := 9) rfl ?_); refine goesL_ (some 12) rfl rfl Try.func9 (by kernel_rfl) rfl #[.slice A3 l3.length c3] rfl (by (try simp only [zt1, zt2, zt3]) <;> rfl) ?_; (with_reducible refine (horariumlaw16_few.calls _ _ l3 false _ ?side1 ?side2 A6.out).mono ?_); (case side1 => apply_rules [Kd.C_below HR3.out HB.out, Kd.C_alloc, Kd.C_drewN, Kd.C_drew]); (case side2 => exact HC3.out); rintro e w' ⟨rfl, ⟨nd, rfl⟩⟩; refine ⟨_, rfl, ?_⟩) | ((with_reducible refine gate_callee (f := 10) rfl ?_); refine goesL_ (some 14) rfl rfl Try.func10 (by kernel_rfl) rfl #[] rfl (by (try simp only [zt1, zt2, zt3]) <;> rfl) ?_; (with_reducible refine (horariumlaw16_heads.calls k  t378 _ A49.out).mono ?_); rintro e w52 ⟨rfl, hb⟩; refine ⟨_, rfl, ?_⟩; replace BK375 := zm (blk_below (by apply_rules [BK375.out, zk1, zk2, zk3]) hb); replace BK376 := zm (blk_below (by apply_rules [BK376.out, zk1, zk2, zk3]) hb); replace HB := zm (below_step (by apply_rules [HB.out, zb1, zb2, zb3, zb4, GE375.out, zb4, GE376.out]) hb); (try clear hb)))
 go_ret
 exact ⟨by first | rfl | (simp [errW_none, errW_some] <;> rfl) | (simp [*, errW_none, errW_some] <;> rfl), by apply_rules [HB.out, zb1, zb2, zb3, zb4, GE375.out, zb4, GE376.out]⟩
end Go.Proofs.Ytlfnpakpkniipaa.Q
