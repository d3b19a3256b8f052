/- Words for the claim. -/
import Derived.Test.YtlfnpakpkniipaaZGWords
import Derived.Test.YtlfnpakpkniipaaZGQx0
import Derived.Test.YtlfnpakpkniipaaZGQx2
import Derived.Test.YtlfnpakpkniipaaZGQx10
import Derived.Test.YtlfnpakpkniipaaZGQx21
namespace Go.Proofs.Ytlfnpakpkniipaa.Q
open Go.RowKit Go.Proofs.YtlfnpakpkniipaaW.PrintWords Go.Proofs.YtlfnpakpkniipaaW.PrintLast Go.Proofs.YtlfnpakpkniipaaW.PrintMore
attribute [local go_sem] max2_int min2_int max_two min_two max_three min_three max_four min_four
set_option linter.unusedVariables false
set_option linter.unusedSimpArgs false
mutual
def horariumlaw16_ManyGrows.j0 : Nat → Int → List (S49) → List (S49) → Bool → Int → Int → Int → Int → Int → Option (Bool)
 | 0, _, _, _, _, _, _, _, _, _ => none
 | k + 1, x1, x3, x4, x19, x387000, x387001, x387002, x388000, x388001 => if x19 = true then ((horariumlaw16_heads.f k).bind fun t390 => (some t390)) else ((some (([] : List (S49)) : List (S49))).bind fun y391 => (if y391.length + x3.length < 5864062014805 then ((some (y391 ++ x3 : List (S49))).bind fun y394 => (if y394.length + x4.length < 5864062014805 then ((some (y394 ++ x4 : List (S49))).bind fun y397 => ((many_Broken.f k x387000 x387001 x387002 x1 x388000 x388001 x3 false).bind fun t400 => (if t400 = true then ((many_Broken.f k x387000 x387001 x387002 x1 x388000 x388001 y397 false).bind fun t401 => (horariumlaw16_ManyGrows.j1 k x1 x3 y397 (!t401) x387000 x387001 x387002 x388000 x388001)) else (horariumlaw16_ManyGrows.j1 k x1 x3 y397 false x387000 x387001 x387002 x388000 x388001)))) else (none))) else (none)))
def horariumlaw16_ManyGrows.j1 : Nat → Int → List (S49) → List (S49) → Bool → Int → Int → Int → Int → Int → Option (Bool)
 | 0, _, _, _, _, _, _, _, _, _ => none
 | k + 1, x1, x3, x11, x44, x387000, x387001, x387002, x388000, x388001 => if x44 = true then (some false) else ((many_Least.f k x387000 x387001 x387002 x1 x388000 x388001 x3 false).bind fun t402 => ((many_Least.f k x387000 x387001 x387002 x1 x388000 x388001 x11 false).bind fun t403 => (if t402 ≤ t403 then ((horariumlaw16_heads.f k).bind fun t404 => (some t404)) else (some false))))
end
def horariumlaw16_ManyGrows.f (k : Nat) (a0_0 : Int) (a0_1 : Int) (a0_2 : Int) (a1 : Int) (a2_0 : Int) (a2_1 : Int) (l3 : List (S49)) (l4 : List (S49)) : Option (Bool) := (horariumlaw16_few.f l3).bind fun t388 => (if t388 = true then ((horariumlaw16_few.f l4).bind fun t389 => (horariumlaw16_ManyGrows.j0 k a1 l3 l4 (!t389) a0_0 a0_1 a0_2 a2_0 a2_1)) else (horariumlaw16_ManyGrows.j0 k a1 l3 l4 true a0_0 a0_1 a0_2 a2_0 a2_1))
def horariumlaw16_ManyGrows.T6 : Bool × List (List Nat × List Nat) := (true, [([], []), ([], []), ([], []), ([2], [2]), ([], []), ([4], [4]), ([], []), ([0, 1, 3, 5, 6], [0, 1, 3, 5, 6]), ([], []), ([], []), ([], []), ([10], [10]), ([], []), ([12], [12]), ([], []), ([8, 9, 11, 13, 14, 7], [8, 9, 11, 13, 14]), ([7, 15], [7, 15]), ([16, 15], [16]), ([17, 17], [17]), ([17, 18], [17, 18]), ([19, 18, 0, 1, 2, 3, 4, 5, 6, 7, 8, 9, 10, 11, 12, 13, 14, 15, 16, 17, 18, 19], [19])])
def horariumlaw16_ManyGrows.B6 : List Nat := [0, 0, 0, 4, 0, 16, 0, 127, 0, 0, 0, 1024, 0, 4096, 0, 32767, 65535, 131071, 262143, 524287, 1048575]
theorem horariumlaw16_ManyGrows.tab6 : rtab .any (opsOf Try.f7 6) = horariumlaw16_ManyGrows.T6 := by kernel_rfl
theorem horariumlaw16_ManyGrows.bits6 : waitsOk horariumlaw16_ManyGrows.T6.2 horariumlaw16_ManyGrows.B6 = true := by kernel_rfl
set_option maxHeartbeats 8000000 in
set_option maxRecDepth 100000 in
theorem horariumlaw16_ManyGrows.calls (k : Nat) (a0_0 : Int) (a0_1 : Int) (a0_2 : Int) (a1 : Int) (a2_0 : Int) (a2_1 : Int) (A3 : Option Addr) (c3 : Nat) (l3 : List (S49)) (A4 : Option Addr) (c4 : Nat) (l4 : List (S49)) (r : Bool) (w : World) (hr3 : Kd.C k49 w A3 l3.length l3) (hc3 : l3.length ≤ c3) (hr4 : Kd.C k49 w A4 l4.length l4) (hc4 : l4.length ≤ c4) (h : horariumlaw16_ManyGrows.f k a0_0 a0_1 a0_2 a1 a2_0 a2_1 l3 l4 = some r) :
  Calls Try.prog 7 #[.agg #[.int .i64 a0_0, .int .i64 a0_1, .int .i64 a0_2], .int .i64 a1, .agg #[.int .i64 a2_0, .int .i64 a2_1], .slice A3 l3.length c3, .slice A4 l4.length c4] w fun e w' => e = .returned (.bool r) ∧ Below w.heap.size w w' := by
 have hu23 := Try.underlying23
 have hu25 := Try.underlying25
 have HR3 := zm hr3
 have HC3 := zm hc3
 clear hr3 hc3
 have HR4 := zm hr4
 have HC4 := zm hc4
 clear hr4 hc4
 have HB := zm (Below.refl w.heap.size w)
 have H : ((horariumlaw16_few.f l3).bind fun t388 => (if t388 = true then ((horariumlaw16_few.f l4).bind fun t389 => (horariumlaw16_ManyGrows.j0 k a1 l3 l4 (!t389) a0_0 a0_1 a0_2 a2_0 a2_1)) else (horariumlaw16_ManyGrows.j0 k a1 l3 l4 true a0_0 a0_1 a0_2 a2_0 a2_1))) = some r := h
 clear h
 have HC6 := zm H
 clear H
 go_enter Try.func7, Try.ntmps7
 go_upto_region 1 with (first | ((with_reducible refine gate_dst (N := 5) rfl ?_); refine box_event ?hg (N := 5) ?hd (cs := #[.int .i64 a0_0, .int .i64 a0_1, .int .i64 a0_2]) (t := 23) ?hr ?_; (case hd => rfl); (case hg => rfl); (case hr => go_simp; try rfl); intro gb386 hg w7 hbox hb; have BK386 := zm (hbox); have GW386 := zm ((by rw [hg]; exact (below_size (by apply_rules [HB.out, zb1, zb2, zb3])) : w.heap.size ≤ gb386)); have GE386 := GW386; replace HB := zm (below_step (by apply_rules [HB.out, zb1, zb2, zb3]) hb); clear hb hbox hg) | ((with_reducible refine gate_dst (N := 7) rfl ?_); refine box_event ?hg (N := 7) ?hd (cs := #[.int .i64 a2_0, .int .i64 a2_1]) (t := 25) ?hr ?_; (case hd => rfl); (case hg => rfl); (case hr => go_simp; try rfl); intro gb387 hg w8 hbox hb; have n0_ := zm (blk_below (by apply_rules [BK386.out, zk1, zk2, zk3]) hb); have n1_ := zm (below_step (by apply_rules [HB.out, zb1, zb2, zb3, zb4, GE386.out]) hb); have n2_ := zm (hbox); have n3_ := zm ((by rw [hg]; exact (below_size (by apply_rules [HB.out, zb1, zb2, zb3, zb4, GE386.out])) : w.heap.size ≤ gb387)); have n4_ := n3_; have n5_ := zm ((by rw [hg]; exact Nat.ne_of_lt (blk_lt (by apply_rules [BK386.out, zk1, zk2, zk3])) : gb386 ≠ gb387)); have n6_ := zm ((by rw [hg]; exact Nat.ne_of_gt (blk_lt (by apply_rules [BK386.out, zk1, zk2, zk3])) : gb387 ≠ gb386)); clear BK386; clear HB; have BK386 := n0_; have HB := n1_; have BK387 := n2_; have GW387 := n3_; have GE387 := n4_; have NB386_387 := n5_; have NB387_386 := n6_; clear n0_ n1_ n2_ n3_ n4_ n5_ n6_; clear hb hbox hg))
 (try simp only [Act.put, zs1, zs2, zs3])
 go_cut [19] (fun v19 wc => ∃ (kq : Nat) (x19_5 : Bool), v19 = .bool x19_5 ∧ Aside0 (horariumlaw16_ManyGrows.j0 kq a1 l3 l4 x19_5 a0_0 a0_1 a0_2 a2_0 a2_1 = some r) ∧ Aside0 (kq ≤ k) ∧ Aside0 (wc.heap[gb386]? = some (.cells #[.int .i64 a0_0, .int .i64 a0_1, .int .i64 a0_2] 23 (0, 0))) ∧ Aside0 (wc.heap[gb387]? = some (.cells #[.int .i64 a2_0, .int .i64 a2_1] 25 (0, 0))) ∧ Aside0 (Below w.heap.size w wc))
 case first =>
  have H := HC6.out
  clear HC6
  replace H := zo H
  obtain ⟨t388, A90, H⟩ := H
  have A9 := zm A90
  clear A90
  by_cases c10 : t388 = true
  ·subst c10
   have H1 : ((horariumlaw16_few.f l4).bind fun t389 => (horariumlaw16_ManyGrows.j0 k a1 l3 l4 (!t389) a0_0 a0_1 a0_2 a2_0 a2_1)) = some r := by rw [if_pos rfl] at H; exact H
   clear H
   have H := H1
   clear H1
   replace H := zo H
   obtain ⟨t389, A110, H⟩ := H
   have A11 := zm A110
   clear A110
   have H' := zm H
   clear H
   go_wp2_with (first | ((with_reducible refine gate_callee (f := 9) rfl ?_); refine goesL_ (some 13) rfl rfl Try.func9 (by kernel_rfl) rfl #[.slice A3 l3.length c3] rfl (by (try simp only [zt1, zt2, zt3]) <;> rfl) ?_; (with_reducible refine (horariumlaw16_few.calls _ _ l3 true _ ?side1 ?side2 A9.out).mono ?_); (case side1 => apply_rules [Kd.C_below HR3.out HB.out, Kd.C_alloc, Kd.C_drewN, Kd.C_drew]); (case side2 => exact HC3.out); rintro e w' ⟨rfl, ⟨nd, rfl⟩⟩; refine ⟨_, rfl, ?_⟩) | (go_at_call 9; (with_reducible refine (horariumlaw16_few.calls _ _ l4 t389 _ ?side1 ?side2 A11.out).mono ?_); (case side1 => repeat (first | exact (Kd.C_below HR4.out (by apply_rules [HB.out, zb1, zb2, zb3, zb4, GE386.out, zb4, GE387.out])) | (with_reducible refine Kd.C_alloc ?_ _) | (with_reducible refine Kd.C_drewN ?_ _) | (with_reducible refine Kd.C_drew ?_))); (case side2 => exact HC4.out); rintro e w' ⟨rfl, ⟨nd, rfl⟩⟩))
   go_meet
   case rel => exact ⟨_, (!t389), (by first | rfl | (simp; done) | (simp [*]; done)), H', ⟨by first | omega | exact Nat.le_refl _⟩, ⟨by (with_reducible repeat (first | refine blk_alloc ?_ _ | refine blk_drewN ?_ _ | refine blk_drew ?_)); exact BK386.out⟩, ⟨by (with_reducible repeat (first | refine blk_alloc ?_ _ | refine blk_drewN ?_ _ | refine blk_drew ?_)); exact BK387.out⟩, ⟨by apply_rules [HB.out, zb1, zb2, zb3, zb4, GE386.out, zb4, GE387.out]⟩⟩
  replace c10 := Bool.eq_false_iff.mpr c10
  subst c10
  have H1 : (horariumlaw16_ManyGrows.j0 k a1 l3 l4 true a0_0 a0_1 a0_2 a2_0 a2_1) = some r := by rw [if_neg (show ¬ (false = true) by decide)] at H; exact H
  clear H
  have H := H1
  clear H1
  have H' := zm H
  clear H
  go_wp2_with (first | ((with_reducible refine gate_callee (f := 9) rfl ?_); refine goesL_ (some 13) rfl rfl Try.func9 (by kernel_rfl) rfl #[.slice A3 l3.length c3] rfl (by (try simp only [zt1, zt2, zt3]) <;> rfl) ?_; (with_reducible refine (horariumlaw16_few.calls _ _ l3 false _ ?side1 ?side2 A9.out).mono ?_); (case side1 => apply_rules [Kd.C_below HR3.out HB.out, Kd.C_alloc, Kd.C_drewN, Kd.C_drew]); (case side2 => exact HC3.out); rintro e w' ⟨rfl, ⟨nd, rfl⟩⟩; refine ⟨_, rfl, ?_⟩))
  go_meet
  case rel => exact ⟨_, (true), (by first | rfl | (simp; done) | (simp [*]; done)), H', ⟨by first | omega | exact Nat.le_refl _⟩, ⟨by (with_reducible repeat (first | refine blk_alloc ?_ _ | refine blk_drewN ?_ _ | refine blk_drew ?_)); exact BK386.out⟩, ⟨by (with_reducible repeat (first | refine blk_alloc ?_ _ | refine blk_drewN ?_ _ | refine blk_drew ?_)); exact BK387.out⟩, ⟨by apply_rules [HB.out, zb1, zb2, zb3, zb4, GE386.out, zb4, GE387.out]⟩⟩
 case rest =>
  clear HC6
  (try clear c1); (try clear p2); (try clear c3); (try clear c4); (try clear c7); (try clear c9); (try clear c10)
  obtain ⟨kq, x19_5, rfl, HA, HJ5, BK386, BK387, HB⟩ := hcut
  cases kq with
  | zero => exact absurd HA.out (by simp [horariumlaw16_ManyGrows.j0])
  | succ kj5 =>
   have H := HA.out
   clear HA
   simp only [horariumlaw16_ManyGrows.j0] at H
   by_cases c12 : x19_5 = true
   ·subst c12
    have H1 : ((horariumlaw16_heads.f kj5).bind fun t390 => (some t390)) = some r := by rw [if_pos rfl] at H; exact H
    clear H
    have H := H1
    clear H1
    replace H := zo H
    obtain ⟨t390, A130, H⟩ := H
    have A13 := zm A130
    clear A130
    obtain rfl := Option.some.inj H
    go_wp2_with (first | ((with_reducible refine gate_callee (f := 10) rfl ?_); refine goesL_ (some 20) rfl rfl Try.func10 (by kernel_rfl) rfl #[] rfl (by (try simp only [zt1, zt2, zt3]) <;> rfl) ?_; (with_reducible refine (horariumlaw16_heads.calls kj5  t390 _ A13.out).mono ?_); rintro e w14 ⟨rfl, hb⟩; refine ⟨_, rfl, ?_⟩; replace BK386 := zm (blk_below (by apply_rules [BK386.out, zk1, zk2, zk3]) hb); replace BK387 := zm (blk_below (by apply_rules [BK387.out, zk1, zk2, zk3]) hb); replace HB := zm (below_step (by apply_rules [HB.out, zb1, zb2, zb3, zb4, GE386.out, zb4, GE387.out]) hb); (try clear hb)))
    go_ret
    exact ⟨by first | rfl | (simp [errW_none, errW_some] <;> rfl) | (simp [*, errW_none, errW_some] <;> rfl), by apply_rules [HB.out, zb1, zb2, zb3, zb4, GE386.out, zb4, GE387.out]⟩
   replace c12 := Bool.eq_false_iff.mpr c12
   subst c12
   have H1 : ((some (([] : List (S49)) : List (S49))).bind fun y391 => (if y391.length + l3.length < 5864062014805 then ((some (y391 ++ l3 : List (S49))).bind fun y394 => (if y394.length + l4.length < 5864062014805 then ((some (y394 ++ l4 : List (S49))).bind fun y397 => ((many_Broken.f kj5 a0_0 a0_1 a0_2 a1 a2_0 a2_1 l3 false).bind fun t400 => (if t400 = true then ((many_Broken.f kj5 a0_0 a0_1 a0_2 a1 a2_0 a2_1 y397 false).bind fun t401 => (horariumlaw16_ManyGrows.j1 kj5 a1 l3 y397 (!t401) a0_0 a0_1 a0_2 a2_0 a2_1)) else (horariumlaw16_ManyGrows.j1 kj5 a1 l3 y397 false a0_0 a0_1 a0_2 a2_0 a2_1)))) else (none))) else (none))) = some r := by rw [if_neg (show ¬ (false = true) by decide)] at H; exact H
   clear H
   have H := H1
   clear H1
   obtain ⟨y391, hy391⟩ : ∃ y_ : List (S49), y_ = (([] : List (S49))) := ⟨_, rfl⟩
   replace H : (if y391.length + l3.length < 5864062014805 then ((some (y391 ++ l3 : List (S49))).bind fun y394 => (if y394.length + l4.length < 5864062014805 then ((some (y394 ++ l4 : List (S49))).bind fun y397 => ((many_Broken.f kj5 a0_0 a0_1 a0_2 a1 a2_0 a2_1 l3 false).bind fun t400 => (if t400 = true then ((many_Broken.f kj5 a0_0 a0_1 a0_2 a1 a2_0 a2_1 y397 false).bind fun t401 => (horariumlaw16_ManyGrows.j1 kj5 a1 l3 y397 (!t401) a0_0 a0_1 a0_2 a2_0 a2_1)) else (horariumlaw16_ManyGrows.j1 kj5 a1 l3 y397 false a0_0 a0_1 a0_2 a2_0 a2_1)))) else (none))) else (none)) = some r := by first | (rw [hy391]; with_reducible exact H) | (have H2_ := (Option.bind_some _ _).symm.trans H; rw [hy391]; with_reducible exact H2_) | (have H2_ := (Option.bind_some _ _).symm.trans H; with_reducible exact H2_) | with_reducible exact H | (rw [hy391]; exact H) | exact H
   have Ny391 := zm hy391
   clear hy391
   by_cases c15 : y391.length + l3.length < 5864062014805
   ·rw [if_pos c15] at H
    have LMc15 := zm c15
    clear c15
    obtain ⟨y394, hy394⟩ : ∃ y_ : List (S49), y_ = (y391 ++ l3) := ⟨_, rfl⟩
    replace H : (if y394.length + l4.length < 5864062014805 then ((some (y394 ++ l4 : List (S49))).bind fun y397 => ((many_Broken.f kj5 a0_0 a0_1 a0_2 a1 a2_0 a2_1 l3 false).bind fun t400 => (if t400 = true then ((many_Broken.f kj5 a0_0 a0_1 a0_2 a1 a2_0 a2_1 y397 false).bind fun t401 => (horariumlaw16_ManyGrows.j1 kj5 a1 l3 y397 (!t401) a0_0 a0_1 a0_2 a2_0 a2_1)) else (horariumlaw16_ManyGrows.j1 kj5 a1 l3 y397 false a0_0 a0_1 a0_2 a2_0 a2_1)))) else (none)) = some r := by first | (rw [hy394]; with_reducible exact H) | (have H2_ := (Option.bind_some _ _).symm.trans H; rw [hy394]; with_reducible exact H2_) | (have H2_ := (Option.bind_some _ _).symm.trans H; with_reducible exact H2_) | with_reducible exact H | (rw [hy394]; exact H) | exact H
    have Ny394 := zm hy394
    clear hy394
    by_cases c16 : y394.length + l4.length < 5864062014805
    ·rw [if_pos c16] at H
     have LMc16 := zm c16
     clear c16
     obtain ⟨y397, hy397⟩ : ∃ y_ : List (S49), y_ = (y394 ++ l4) := ⟨_, rfl⟩
     replace H : ((many_Broken.f kj5 a0_0 a0_1 a0_2 a1 a2_0 a2_1 l3 false).bind fun t400 => (if t400 = true then ((many_Broken.f kj5 a0_0 a0_1 a0_2 a1 a2_0 a2_1 y397 false).bind fun t401 => (horariumlaw16_ManyGrows.j1 kj5 a1 l3 y397 (!t401) a0_0 a0_1 a0_2 a2_0 a2_1)) else (horariumlaw16_ManyGrows.j1 kj5 a1 l3 y397 false a0_0 a0_1 a0_2 a2_0 a2_1))) = some r := by first | (rw [hy397]; with_reducible exact H) | (have H2_ := (Option.bind_some _ _).symm.trans H; rw [hy397]; with_reducible exact H2_) | (have H2_ := (Option.bind_some _ _).symm.trans H; with_reducible exact H2_) | with_reducible exact H | (rw [hy397]; exact H) | exact H
     have Ny397 := zm hy397
     clear hy397
     have HC17 := zm H
     clear H
     go_upto_region 4 with (first | ((with_reducible refine gate_dst (N := 21) rfl ?_); refine Kd.R_lit k49 _ 49 ?hg (N := 21) ?hd (xs := ([] : List (S49))) (inner := []) (ok := fun _ => True) (okp := fun _ => True) ?hr ?hp (fun _ hk => hk) trivial (Below.refl _ _) (Nat.le_refl _) (by simp) ?_; (case hd => rfl); (case hg => rfl); (case hr => go_simp; try rfl); (case hp => exact (Reps.none _ _)); intro v392 w18 ho19 hb hg_ hnew_; clear hg_ hnew_; (first | rw [← Ny391.out] at ho19 | (simp only [Int.reduceToNat] at ho19; rw [← Ny391.out] at ho19)); have HO393 := zm (Kd.R_lower ho19 (below_size (by apply_rules [HB.out, zb1, zb2, zb3, zb4, GE386.out, zb4, GE387.out]))); replace BK386 := zm (blk_below (by apply_rules [BK386.out, zk1, zk2, zk3]) hb); replace BK387 := zm (blk_below (by apply_rules [BK387.out, zk1, zk2, zk3]) hb); replace HB := zm (below_step (by apply_rules [HB.out, zb1, zb2, zb3, zb4, GE386.out, zb4, GE387.out]) hb); clear hb ho19) | ((with_reducible refine gate_builtin (b := .append) (xs := #[.tmp 21, .tmp 22]) rfl ?_); at_builtin; refine Kd.R_append_rows k49 (w0 := w) w.heap.size rfl (.tmp 21) (.tmp 22) 26 49 (.agg #[(.int .u32 0), (.int .u8 0), (.int .i64 0), (.int .i64 0)]) 24 rfl Try.underlying26 info49 rfl (by decide) (by omega) v392 y391 l3 _ _ _ (fun _ => True) (fun _ => False) rfl rfl ?aO ?aR (fun _ _ h => h) (fun _ h => h.elim) ?aF ?aB ?aS ?aL ?_; (case aR => apply_rules [Kd.C_below HR3.out HB.out, Kd.C_alloc, Kd.C_drewN, Kd.C_drew]); (case aB => exact (by apply_rules [HB.out, zb1, zb2, zb3, zb4, GE386.out, zb4, GE387.out])); (case aF => exact (fun _ _ => trivial)); (case aO => exact (by apply_rules [HO393.out, Kd.R_alloc, Kd.R_drewN, Kd.R_drew])); (case aS => exact (below_size (by apply_rules [HB.out, zb1, zb2, zb3, zb4, GE386.out, zb4, GE387.out]))); (case aL => have := LMc15.out; omega); intro v395 w20 ho hb hg hat; rw [← Ny394.out] at ho; replace BK386 := zm (blk_grown (by apply_rules [BK386.out, zk1, zk2, zk3]) hg (Kd.R_ne HO393.out BK386.out (by decide))); replace BK387 := zm (blk_grown (by apply_rules [BK387.out, zk1, zk2, zk3]) hg (Kd.R_ne HO393.out BK387.out (by decide))); have HO396 := zm (ho); replace HB := zm (hb); clear HO393; clear ho hb hg hat) | ((with_reducible refine gate_builtin (b := .append) (xs := #[.tmp 23, .tmp 24]) rfl ?_); at_builtin; refine Kd.R_append_rows k49 (w0 := w) w.heap.size rfl (.tmp 23) (.tmp 24) 26 49 (.agg #[(.int .u32 0), (.int .u8 0), (.int .i64 0), (.int .i64 0)]) 24 rfl Try.underlying26 info49 rfl (by decide) (by omega) v395 y394 l4 _ _ _ (fun _ => True) (fun _ => False) rfl rfl ?aO ?aR (fun _ _ h => h) (fun _ h => h.elim) ?aF ?aB ?aS ?aL ?_; (case aR => apply_rules [Kd.C_below HR4.out HB.out, Kd.C_alloc, Kd.C_drewN, Kd.C_drew]); (case aB => exact (by apply_rules [HB.out, zb1, zb2, zb3, zb4, GE386.out, zb4, GE387.out])); (case aF => exact (fun _ _ => trivial)); (case aO => exact (by apply_rules [HO396.out, Kd.R_alloc, Kd.R_drewN, Kd.R_drew])); (case aS => exact (below_size (by apply_rules [HB.out, zb1, zb2, zb3, zb4, GE386.out, zb4, GE387.out]))); (case aL => have := LMc16.out; omega); intro v398 w21 ho hb hg hat; rw [← Ny397.out] at ho; replace BK386 := zm (blk_grown (by apply_rules [BK386.out, zk1, zk2, zk3]) hg (Kd.R_ne HO396.out BK386.out (by decide))); replace BK387 := zm (blk_grown (by apply_rules [BK387.out, zk1, zk2, zk3]) hg (Kd.R_ne HO396.out BK387.out (by decide))); have HO399 := zm (ho); replace HB := zm (hb); clear HO396; clear ho hb hg hat))
     (try simp only [Act.put, zs1, zs2, zs3])
     go_cut [44] (fun v44 wc => ∃ (kq : Nat) (x44_16 : Bool), v44 = .bool x44_16 ∧ Aside0 (horariumlaw16_ManyGrows.j1 kq a1 l3 y397 x44_16 a0_0 a0_1 a0_2 a2_0 a2_1 = some r) ∧ Aside0 (kq ≤ kj5) ∧ Aside0 (Kd.R k49 49 wc w.heap.size (fun _ => True) v398 y397) ∧ Aside0 (wc.heap[gb386]? = some (.cells #[.int .i64 a0_0, .int .i64 a0_1, .int .i64 a0_2] 23 (0, 0))) ∧ Aside0 (wc.heap[gb387]? = some (.cells #[.int .i64 a2_0, .int .i64 a2_1] 25 (0, 0))) ∧ Aside0 (Below w.heap.size w wc))
     case first =>
      have H := HC17.out
      clear HC17
      replace H := zo H
      obtain ⟨t400, A220, H⟩ := H
      have A22 := zm A220
      clear A220
      by_cases c23 : t400 = true
      ·subst c23
       have H1 : ((many_Broken.f kj5 a0_0 a0_1 a0_2 a1 a2_0 a2_1 y397 false).bind fun t401 => (horariumlaw16_ManyGrows.j1 kj5 a1 l3 y397 (!t401) a0_0 a0_1 a0_2 a2_0 a2_1)) = some r := by rw [if_pos rfl] at H; exact H
       clear H
       have H := H1
       clear H1
       replace H := zo H
       obtain ⟨t401, A240, H⟩ := H
       have A24 := zm A240
       clear A240
       have H' := zm H
       clear H
       have hnb25 := NB386_387.out
       have hnc25 := NB387_386.out
       obtain ⟨hcz26_0, hcz26_1, hcz26_2, hfz26_0, hfz26_1, hfz26_2⟩ := zf3 BK386.out
       obtain ⟨hcz27_0, hcz27_1, hfz27_0, hfz27_1⟩ := zf2 BK387.out
       go_wp2_with (first | ((with_reducible refine gate_callee (f := 23) rfl ?_); refine goesL_ (some 33) rfl rfl Try.func23 (by kernel_rfl) rfl #[.agg #[.int .i64 a0_0, .int .i64 a0_1, .int .i64 a0_2], .int .i64 a1, .int .i64 a2_0, .int .i64 a2_1, .slice A3 l3.length c3, .bool false] rfl (by (try simp only [zt1, zt2, zt3]) <;> rfl) ?_; (with_reducible refine (many_Broken.calls kj5 a0_0 a0_1 a0_2 a1 a2_0 a2_1 _ _ l3 false true _ ?side1 ?side2 A22.out).mono ?_); (case side1 => apply_rules [Kd.C_below HR3.out HB.out, Kd.C_alloc, Kd.C_drewN, Kd.C_drew]); (case side2 => exact HC3.out); rintro e w28 ⟨rfl, hb⟩; refine ⟨_, rfl, ?_⟩; replace HO399 := zm (Kd.R_below (by apply_rules [HO399.out, Kd.R_alloc, Kd.R_drewN, Kd.R_drew]) hb); replace BK386 := zm (blk_below (by apply_rules [BK386.out, zk1, zk2, zk3]) hb); replace BK387 := zm (blk_below (by apply_rules [BK387.out, zk1, zk2, zk3]) hb); replace HB := zm (below_step (by apply_rules [HB.out, zb1, zb2, zb3, zb4, GE386.out, zb4, GE387.out]) hb); (try clear hb); obtain ⟨hcz29_0, hcz29_1, hcz29_2, hfz29_0, hfz29_1, hfz29_2⟩ := zf3 BK386.out; obtain ⟨hcz30_0, hcz30_1, hfz30_0, hfz30_1⟩ := zf2 BK387.out; obtain ⟨Ao31, co31, eo31⟩ := Kd.R_slice HO399.out; subst eo31) | (go_at_call 23; (with_reducible refine (many_Broken.calls kj5 a0_0 a0_1 a0_2 a1 a2_0 a2_1 _ _ y397 false t401 _ ?side1 ?side2 A24.out).mono ?_); (case side1 => apply_rules [(Kd.R_reads' HO399.out).2.2, Kd.C_alloc, Kd.C_drewN, Kd.C_drew]); (case side2 => exact (Kd.R_reads' HO399.out).2.1); rintro e w32 ⟨rfl, hb⟩; replace HO399 := zm (Kd.R_below (by apply_rules [HO399.out, Kd.R_alloc, Kd.R_drewN, Kd.R_drew]) hb); replace BK386 := zm (blk_below (by apply_rules [BK386.out, zk1, zk2, zk3]) hb); replace BK387 := zm (blk_below (by apply_rules [BK387.out, zk1, zk2, zk3]) hb); replace HB := zm (below_step (by apply_rules [HB.out, zb1, zb2, zb3, zb4, GE386.out, zb4, GE387.out]) hb); (try clear hb)))
       go_meet
       case rel => exact ⟨_, (!t401), (by first | rfl | (simp; done) | (simp [*]; done)), H', ⟨by have := HJ5.out; first | omega | exact Nat.le_refl _⟩, ⟨by (with_reducible repeat (first | apply Kd.R_alloc | apply Kd.R_drewN | apply Kd.R_drew)); exact HO399.out⟩, ⟨by (with_reducible repeat (first | refine blk_alloc ?_ _ | refine blk_drewN ?_ _ | refine blk_drew ?_)); exact BK386.out⟩, ⟨by (with_reducible repeat (first | refine blk_alloc ?_ _ | refine blk_drewN ?_ _ | refine blk_drew ?_)); exact BK387.out⟩, ⟨by apply_rules [HB.out, zb1, zb2, zb3, zb4, GE386.out, zb4, GE387.out]⟩⟩
      replace c23 := Bool.eq_false_iff.mpr c23
      subst c23
      have H1 : (horariumlaw16_ManyGrows.j1 kj5 a1 l3 y397 false a0_0 a0_1 a0_2 a2_0 a2_1) = some r := by rw [if_neg (show ¬ (false = true) by decide)] at H; exact H
      clear H
      have H := H1
      clear H1
      have H' := zm H
      clear H
      have hnb33 := NB386_387.out
      have hnc33 := NB387_386.out
      obtain ⟨hcz34_0, hcz34_1, hcz34_2, hfz34_0, hfz34_1, hfz34_2⟩ := zf3 BK386.out
      obtain ⟨hcz35_0, hcz35_1, hfz35_0, hfz35_1⟩ := zf2 BK387.out
      go_wp2_with (first | ((with_reducible refine gate_callee (f := 23) rfl ?_); refine goesL_ (some 33) rfl rfl Try.func23 (by kernel_rfl) rfl #[.agg #[.int .i64 a0_0, .int .i64 a0_1, .int .i64 a0_2], .int .i64 a1, .int .i64 a2_0, .int .i64 a2_1, .slice A3 l3.length c3, .bool false] rfl (by (try simp only [zt1, zt2, zt3]) <;> rfl) ?_; (with_reducible refine (many_Broken.calls kj5 a0_0 a0_1 a0_2 a1 a2_0 a2_1 _ _ l3 false false _ ?side1 ?side2 A22.out).mono ?_); (case side1 => apply_rules [Kd.C_below HR3.out HB.out, Kd.C_alloc, Kd.C_drewN, Kd.C_drew]); (case side2 => exact HC3.out); rintro e w36 ⟨rfl, hb⟩; refine ⟨_, rfl, ?_⟩; replace HO399 := zm (Kd.R_below (by apply_rules [HO399.out, Kd.R_alloc, Kd.R_drewN, Kd.R_drew]) hb); replace BK386 := zm (blk_below (by apply_rules [BK386.out, zk1, zk2, zk3]) hb); replace BK387 := zm (blk_below (by apply_rules [BK387.out, zk1, zk2, zk3]) hb); replace HB := zm (below_step (by apply_rules [HB.out, zb1, zb2, zb3, zb4, GE386.out, zb4, GE387.out]) hb); (try clear hb)))
      go_meet
      case rel => exact ⟨_, (false), (by first | rfl | (simp; done) | (simp [*]; done)), H', ⟨by have := HJ5.out; first | omega | exact Nat.le_refl _⟩, ⟨by (with_reducible repeat (first | apply Kd.R_alloc | apply Kd.R_drewN | apply Kd.R_drew)); exact HO399.out⟩, ⟨by (with_reducible repeat (first | refine blk_alloc ?_ _ | refine blk_drewN ?_ _ | refine blk_drew ?_)); exact BK386.out⟩, ⟨by (with_reducible repeat (first | refine blk_alloc ?_ _ | refine blk_drewN ?_ _ | refine blk_drew ?_)); exact BK387.out⟩, ⟨by apply_rules [HB.out, zb1, zb2, zb3, zb4, GE386.out, zb4, GE387.out]⟩⟩
     case rest =>
      clear HC17
      (try clear c1); (try clear c2); (try clear p2); (try clear c3); (try clear c4); (try clear c7); (try clear c9); (try clear c10); (try clear c12); (try clear c15); (try clear c16); (try clear c23); (try clear c25); (try clear c33); (try clear hcz26_0); (try clear hcz26_1); (try clear hcz26_2); (try clear hcz27_0); (try clear hcz27_1); (try clear hcz29_0); (try clear hcz29_1); (try clear hcz29_2)
      (try clear hcz30_0); (try clear hcz30_1); (try clear hcz34_0); (try clear hcz34_1); (try clear hcz34_2); (try clear hcz35_0); (try clear hcz35_1); (try clear hfz26_0); (try clear hfz26_1); (try clear hfz26_2); (try clear hfz27_0); (try clear hfz27_1); (try clear hfz29_0); (try clear hfz29_1); (try clear hfz29_2); (try clear hfz30_0); (try clear hfz30_1); (try clear hfz34_0); (try clear hfz34_1)
      (try clear hfz34_2); (try clear hfz35_0); (try clear hfz35_1); (try clear p2)
      obtain ⟨kq, x44_16, rfl, HA, HJ16, HO_11, BK386, BK387, HB⟩ := hcut
      cases kq with
      | zero => exact absurd HA.out (by simp [horariumlaw16_ManyGrows.j1])
      | succ kj16 =>
       have H := HA.out
       clear HA
       simp only [horariumlaw16_ManyGrows.j1] at H
       by_cases c37 : x44_16 = true
       ·subst c37
        have H1 : (some false) = some r := by rw [if_pos rfl] at H; exact H
        clear H
        have H := H1
        clear H1
        obtain rfl := Option.some.inj H
        go_wp2
        go_ret
        exact ⟨by first | rfl | (simp [errW_none, errW_some] <;> rfl) | (simp [*, errW_none, errW_some] <;> rfl), by apply_rules [HB.out, zb1, zb2, zb3, zb4, GE386.out, zb4, GE387.out]⟩
       replace c37 := Bool.eq_false_iff.mpr c37
       subst c37
       have H1 : ((many_Least.f kj16 a0_0 a0_1 a0_2 a1 a2_0 a2_1 l3 false).bind fun t402 => ((many_Least.f kj16 a0_0 a0_1 a0_2 a1 a2_0 a2_1 y397 false).bind fun t403 => (if t402 ≤ t403 then ((horariumlaw16_heads.f kj16).bind fun t404 => (some t404)) else (some false)))) = some r := by rw [if_neg (show ¬ (false = true) by decide)] at H; exact H
       clear H
       have H := H1
       clear H1
       replace H := zo H
       obtain ⟨t402, A380, H⟩ := H
       have A38 := zm A380
       clear A380
       replace H := zo H
       obtain ⟨t403, A390, H⟩ := H
       have A39 := zm A390
       clear A390
       by_cases c40 : t402 ≤ t403
       ·rw [if_pos c40] at H
        have c40b0 : decide (t402 ≤ t403) = true := decide_eq_true c40
        clear c40
        replace H := zo H
        obtain ⟨t404, A410, H⟩ := H
        have A41 := zm A410
        clear A410
        obtain rfl := Option.some.inj H
        try go_wp2
        have n0_ := zm (Kd.R_drew HO_11.out)
        have n1_ := zm (blk_drew BK386.out)
        have n2_ := zm (blk_drew BK387.out)
        have n3_ := zm (below_drew1 HB.out)
        clear HO_11
        clear BK386
        clear BK387
        clear HB
        have HO_11 := n0_
        have BK386 := n1_
        have BK387 := n2_
        have HB := n3_
        clear n0_ n1_ n2_ n3_
        refine start_ (n := 21) (S := fun w' => w'.cell? ⟨gb386, 0, none⟩ = some (.int .i64 a0_0) ∧ w'.cell? ⟨gb386, 1, none⟩ = some (.int .i64 a0_1) ∧ w'.cell? ⟨gb386, 2, none⟩ = some (.int .i64 a0_2) ∧ w'.cell? ⟨gb387, 0, none⟩ = some (.int .i64 a2_0) ∧ w'.cell? ⟨gb387, 1, none⟩ = some (.int .i64 a2_1)) (ds := []) #[false, false, false, false, false, false, false, false, false, false, false, false, false, false, false, false, false, false, false, false, false] (by kernel_rfl) rfl rfl ⟨(blk_cell BK386.out 0).trans rfl, (blk_cell BK386.out 1).trans rfl, (blk_cell BK386.out 2).trans rfl, (blk_cell BK387.out 0).trans rfl, (blk_cell BK387.out 1).trans rfl⟩ (fun hHeld => ?_); refine with_tabW horariumlaw16_ManyGrows.tab6 horariumlaw16_ManyGrows.bits6 (fun HT_ HW_ => ?_)
        generalize wc.drew = w42 at HO_11 BK386 BK387 HB hHeld ⊢
        refine zp 1 46 (v := ?_) (a' := ?_) (bm 21 2) HT_.out (by kernel_rfl) ?_ ?_ ?_; rotate_left; (focus intro w'; go_simp; with_reducible rfl); rotate_left; (focus simp only [Act.put, zs1, zs2, zs3, i64_w, i32_w]; rfl)
        refine zp 2 47 (v := ?_) (a' := ?_) (bm 21 6) HT_.out (by kernel_rfl) ?_ ?_ ?_; rotate_left; (focus intro w'; go_simp; with_reducible rfl); rotate_left; (focus simp only [Act.put, zs1, zs2, zs3, i64_w, i32_w]; rfl)
        refine zp 4 49 (v := ?_) (a' := ?_) (bm 21 22) HT_.out (by kernel_rfl) ?_ ?_ ?_; rotate_left; (focus intro w'; go_simp; with_reducible rfl); rotate_left; (focus simp only [Act.put, zs1, zs2, zs3, i64_w, i32_w]; rfl)
        refine zp 6 51 (v := ?_) (a' := ?_) (bm 21 86) HT_.out (by kernel_rfl) ?_ ?_ ?_; rotate_left; (focus intro w'; go_simp; with_reducible rfl); rotate_left; (focus simp only [Act.put, zs1, zs2, zs3, i64_w, i32_w]; rfl)
        refine zp 9 54 (v := ?_) (a' := ?_) (bm 21 598) HT_.out (by kernel_rfl) ?_ ?_ ?_; rotate_left; (focus intro w'; go_simp; with_reducible rfl); rotate_left; (focus simp only [Act.put, zs1, zs2, zs3, i64_w, i32_w]; rfl)
        refine zp 10 55 (v := ?_) (a' := ?_) (bm 21 1622) HT_.out (by kernel_rfl) ?_ ?_ ?_; rotate_left; (focus intro w'; go_simp; with_reducible rfl); rotate_left; (focus simp only [Act.put, zs1, zs2, zs3, i64_w, i32_w]; rfl)
        refine zp 12 57 (v := ?_) (a' := ?_) (bm 21 5718) HT_.out (by kernel_rfl) ?_ ?_ ?_; rotate_left; (focus intro w'; go_simp; with_reducible rfl); rotate_left; (focus simp only [Act.put, zs1, zs2, zs3, i64_w, i32_w]; rfl)
        refine zp 14 59 (v := ?_) (a' := ?_) (bm 21 22102) HT_.out (by kernel_rfl) ?_ ?_ ?_; rotate_left; (focus intro w'; go_simp; with_reducible rfl); rotate_left; (focus simp only [Act.put, zs1, zs2, zs3, i64_w, i32_w]; rfl)
        refine take_ (i := 0) (N := some 45) (v := ?_) (a' := ?_) (bm 21 22103) rfl rfl (take_ofW HT_.out HW_.out (by kernel_rfl)) (fun _ _ _ h => h) (Or.inl ⟨by rfl, ?_⟩) hHeld ?_ ?_; rotate_left; (focus rintro w' ⟨s0, s1, s2, s3, s4⟩; go_simp; with_reducible rfl); rotate_left; (focus simp only [Act.put, zs1, zs2, zs3, i64_w, i32_w]; rfl)
        refine take_ (i := 3) (N := some 48) (v := ?_) (a' := ?_) (bm 21 22111) rfl rfl (take_ofW HT_.out HW_.out (by kernel_rfl)) (fun _ _ _ h => h) (Or.inl ⟨by rfl, ?_⟩) hHeld ?_ ?_; rotate_left; (focus rintro w' ⟨s0, s1, s2, s3, s4⟩; go_simp; with_reducible rfl); rotate_left; (focus simp only [Act.put, zs1, zs2, zs3, i64_w, i32_w]; rfl)
        refine take_ (i := 5) (N := some 50) (v := ?_) (a' := ?_) (bm 21 22143) rfl rfl (take_ofW HT_.out HW_.out (by kernel_rfl)) (fun _ _ _ h => h) (Or.inl ⟨by rfl, ?_⟩) hHeld ?_ ?_; rotate_left; (focus rintro w' ⟨s0, s1, s2, s3, s4⟩; go_simp; with_reducible rfl); rotate_left; (focus simp only [Act.put, zs1, zs2, zs3, i64_w, i32_w]; rfl)
        refine take_ (i := 8) (N := some 53) (v := ?_) (a' := ?_) (bm 21 22399) rfl rfl (take_ofW HT_.out HW_.out (by kernel_rfl)) (fun _ _ _ h => h) (Or.inl ⟨by rfl, ?_⟩) hHeld ?_ ?_; rotate_left; (focus rintro w' ⟨s0, s1, s2, s3, s4⟩; go_simp; with_reducible rfl); rotate_left; (focus simp only [Act.put, zs1, zs2, zs3, i64_w, i32_w]; rfl)
        refine take_ (i := 11) (N := some 56) (v := ?_) (a' := ?_) (bm 21 24447) rfl rfl (take_ofW HT_.out HW_.out (by kernel_rfl)) (fun _ _ _ h => h) (Or.inl ⟨by rfl, ?_⟩) hHeld ?_ ?_; rotate_left; (focus rintro w' ⟨s0, s1, s2, s3, s4⟩; go_simp; with_reducible rfl); rotate_left; (focus simp only [Act.put, zs1, zs2, zs3, i64_w, i32_w]; rfl)
        refine take_ (i := 13) (N := some 58) (v := ?_) (a' := ?_) (bm 21 32639) rfl rfl (take_ofW HT_.out HW_.out (by kernel_rfl)) (fun _ _ _ h => h) (Or.inl ⟨by rfl, ?_⟩) hHeld ?_ ?_; rotate_left; (focus rintro w' ⟨s0, s1, s2, s3, s4⟩; go_simp; with_reducible rfl); rotate_left; (focus simp only [Act.put, zs1, zs2, zs3, i64_w, i32_w]; rfl)
        refine one_ (i := 7) (N := some 52) (bm 21 32767) rfl rfl (one_of HT_.out (by kernel_rfl)) (by decide) (fun K hK => ?_)
        refine goes_ Try.func25 (by kernel_rfl) rfl #[.agg #[.int .i64 a0_0, .int .i64 a0_1, .int .i64 a0_2], .int .i64 a1, .int .i64 a2_0, .int .i64 a2_1, .slice A3 l3.length c3, .bool false] (by rfl) rfl rfl (by (try simp only [zt1, zt2, zt3]) <;> rfl) ?_
        with_reducible refine (many_Least.calls kj16 a0_0 a0_1 a0_2 a1 a2_0 a2_1 _ _ l3 false t402 _ ?side1 ?side2 A38.out).mono ?_
        (case side1 => apply_rules [Kd.C_below HR3.out HB.out, Kd.C_alloc, Kd.C_drewN, Kd.C_drew])
        (case side2 => exact HC3.out)
        rintro e w43 ⟨rfl, hb⟩
        refine ⟨_, rfl, ?_⟩
        have n0_ := zm (Kd.R_below (by apply_rules [HO_11.out, Kd.R_alloc, Kd.R_drewN, Kd.R_drew]) hb)
        have n1_ := zm (blk_below (by apply_rules [BK386.out, zk1, zk2, zk3]) hb)
        have n2_ := zm (blk_below (by apply_rules [BK387.out, zk1, zk2, zk3]) hb)
        have n3_ := zm (below_step (by apply_rules [HB.out, zb1, zb2, zb3, zb4, GE386.out, zb4, GE387.out]) hb)
        clear HO_11
        clear BK386
        clear BK387
        clear HB
        have HO_11 := n0_
        have BK386 := n1_
        have BK387 := n2_
        have HB := n3_
        clear n0_ n1_ n2_ n3_
        (try clear hb)
        (try clear hb2)
        (try clear hk)
        (try clear hi)
        obtain ⟨Ao44, co44, eo44⟩ := Kd.R_slice HO_11.out
        (first | subst eo44 | (injection eo44 with f1_ f2_ f3_; have f4_ := f1_.symm; have f5_ := f3_.symm; clear f1_ f2_ f3_; subst f4_; subst f5_))
        refine hK.out _ _ ⟨(blk_cell BK386.out 0).trans rfl, (blk_cell BK386.out 1).trans rfl, (blk_cell BK386.out 2).trans rfl, (blk_cell BK387.out 0).trans rfl, (blk_cell BK387.out 1).trans rfl⟩ (fun hHeld => ?_)
        clear hK K
        refine norm_ (a' := ?_) ?_ ?_
        rotate_left
        ·show Act.put _ (some 52) _ = _
         simp only [Act.put, zs1, zs2, zs3, i64_w, i32_w]
         rfl
        refine one_ (i := 15) (N := some 60) (bm 21 65535) rfl rfl (one_of HT_.out (by kernel_rfl)) (by decide) (fun K hK => ?_)
        refine goes_ Try.func25 (by kernel_rfl) rfl #[.agg #[.int .i64 a0_0, .int .i64 a0_1, .int .i64 a0_2], .int .i64 a1, .int .i64 a2_0, .int .i64 a2_1, .slice Ao44 y397.length co44, .bool false] (by rfl) rfl rfl (by (try simp only [zt1, zt2, zt3]) <;> rfl) ?_
        with_reducible refine (many_Least.calls kj16 a0_0 a0_1 a0_2 a1 a2_0 a2_1 _ _ y397 false t403 _ ?side1 ?side2 A39.out).mono ?_
        (case side1 => apply_rules [(Kd.R_reads' HO_11.out).2.2, Kd.C_alloc, Kd.C_drewN, Kd.C_drew])
        (case side2 => exact (Kd.R_reads' HO_11.out).2.1)
        rintro e w45 ⟨rfl, hb⟩
        refine ⟨_, rfl, ?_⟩
        have n0_ := zm (Kd.R_below (by apply_rules [HO_11.out, Kd.R_alloc, Kd.R_drewN, Kd.R_drew]) hb)
        have n1_ := zm (blk_below (by apply_rules [BK386.out, zk1, zk2, zk3]) hb)
        have n2_ := zm (blk_below (by apply_rules [BK387.out, zk1, zk2, zk3]) hb)
        have n3_ := zm (below_step (by apply_rules [HB.out, zb1, zb2, zb3, zb4, GE386.out, zb4, GE387.out]) hb)
        clear HO_11
        clear BK386
        clear BK387
        clear HB
        have HO_11 := n0_
        have BK386 := n1_
        have BK387 := n2_
        have HB := n3_
        clear n0_ n1_ n2_ n3_
        (try clear hb)
        (try clear hb2)
        (try clear hk)
        (try clear hi)
        refine hK.out _ _ ⟨(blk_cell BK386.out 0).trans rfl, (blk_cell BK386.out 1).trans rfl, (blk_cell BK386.out 2).trans rfl, (blk_cell BK387.out 0).trans rfl, (blk_cell BK387.out 1).trans rfl⟩ (fun hHeld => ?_)
        clear hK K
        refine norm_ (a' := ?_) ?_ ?_
        rotate_left
        ·show Act.put _ (some 60) _ = _
         simp only [Act.put, zs1, zs2, zs3, i64_w, i32_w]
         rfl
        refine zp 16 61 (v := ?_) (a' := ?_) (bm 21 131071) HT_.out (by kernel_rfl) ?_ ?_ ?_; rotate_left; (focus intro w'; go_simp; with_reducible rfl); rotate_left; (focus simp only [Act.put, zs1, zs2, zs3, i64_w, i32_w]; rfl)
        refine zp 17 62 (v := ?_) (a' := ?_) (bm 21 262143) HT_.out (by kernel_rfl) ?_ ?_ ?_; rotate_left; (focus intro w'; go_simp; with_reducible rfl); rotate_left; (focus simp only [Act.put, zs1, zs2, zs3, i64_w, i32_w]; rfl)
        refine one_ (i := 18) (N := some 63) (bm 21 524287) rfl rfl (one_of HT_.out (by kernel_rfl)) (by decide) (fun K hK => ?_)
        refine goes_ Try.func10 (by kernel_rfl) rfl #[] (by rfl) rfl rfl (by (try simp only [zt1, zt2, zt3]) <;> rfl) ?_
        with_reducible refine (horariumlaw16_heads.calls kj16  t404 _ A41.out).mono ?_
        rintro e w46 ⟨rfl, hb⟩
        refine ⟨_, rfl, ?_⟩
        have n0_ := zm (Kd.R_below (by apply_rules [HO_11.out, Kd.R_alloc, Kd.R_drewN, Kd.R_drew]) hb)
        have n1_ := zm (blk_below (by apply_rules [BK386.out, zk1, zk2, zk3]) hb)
        have n2_ := zm (blk_below (by apply_rules [BK387.out, zk1, zk2, zk3]) hb)
        have n3_ := zm (below_step (by apply_rules [HB.out, zb1, zb2, zb3, zb4, GE386.out, zb4, GE387.out]) hb)
        clear HO_11
        clear BK386
        clear BK387
        clear HB
        have HO_11 := n0_
        have BK386 := n1_
        have BK387 := n2_
        have HB := n3_
        clear n0_ n1_ n2_ n3_
        (try clear hb)
        (try clear hb2)
        (try clear hk)
        (try clear hi)
        refine hK.out _ _ ⟨(blk_cell BK386.out 0).trans rfl, (blk_cell BK386.out 1).trans rfl, (blk_cell BK386.out 2).trans rfl, (blk_cell BK387.out 0).trans rfl, (blk_cell BK387.out 1).trans rfl⟩ (fun hHeld => ?_)
        clear hK K
        refine norm_ (a' := ?_) ?_ ?_
        rotate_left
        ·show Act.put _ (some 63) _ = _
         simp only [Act.put, zs1, zs2, zs3, i64_w, i32_w]
         rfl
        refine zp 19 64 (v := ?_) (a' := ?_) (bm 21 1048575) HT_.out (by kernel_rfl) ?_ ?_ ?_; rotate_left; (focus intro w'; go_simp; with_reducible rfl); rotate_left; (focus simp only [Act.put, zs1, zs2, zs3, i64_w, i32_w]; rfl)
        refine zp 20 10 (v := ?_) (a' := ?_) (bm 21 2097151) HT_.out (by kernel_rfl) ?_ ?_ ?_; rotate_left; (focus intro w'; go_simp; with_reducible rfl); rotate_left; (focus simp only [Act.put, zs1, zs2, zs3, i64_w, i32_w]; rfl)
        refine done_ (done_of HT_.out (by kernel_rfl)) ?_
        try go_wp2
        go_ret
        exact ⟨by first | rfl | (simp [errW_none, errW_some] <;> rfl) | (simp [*, errW_none, errW_some] <;> rfl), by apply_rules [HB.out, zb1, zb2, zb3, zb4, GE386.out, zb4, GE387.out]⟩
       rw [if_neg c40] at H
       have c40b0 : decide (t402 ≤ t403) = false := decide_eq_false c40
       clear c40
       obtain rfl := Option.some.inj H
       try go_wp2
       have n0_ := zm (Kd.R_drew HO_11.out)
       have n1_ := zm (blk_drew BK386.out)
       have n2_ := zm (blk_drew BK387.out)
       have n3_ := zm (below_drew1 HB.out)
       clear HO_11
       clear BK386
       clear BK387
       clear HB
       have HO_11 := n0_
       have BK386 := n1_
       have BK387 := n2_
       have HB := n3_
       clear n0_ n1_ n2_ n3_
       refine start_ (n := 21) (S := fun w' => w'.cell? ⟨gb386, 0, none⟩ = some (.int .i64 a0_0) ∧ w'.cell? ⟨gb386, 1, none⟩ = some (.int .i64 a0_1) ∧ w'.cell? ⟨gb386, 2, none⟩ = some (.int .i64 a0_2) ∧ w'.cell? ⟨gb387, 0, none⟩ = some (.int .i64 a2_0) ∧ w'.cell? ⟨gb387, 1, none⟩ = some (.int .i64 a2_1)) (ds := []) #[false, false, false, false, false, false, false, false, false, false, false, false, false, false, false, false, false, false, false, false, false] (by kernel_rfl) rfl rfl ⟨(blk_cell BK386.out 0).trans rfl, (blk_cell BK386.out 1).trans rfl, (blk_cell BK386.out 2).trans rfl, (blk_cell BK387.out 0).trans rfl, (blk_cell BK387.out 1).trans rfl⟩ (fun hHeld => ?_); refine with_tabW horariumlaw16_ManyGrows.tab6 horariumlaw16_ManyGrows.bits6 (fun HT_ HW_ => ?_)
       generalize wc.drew = w47 at HO_11 BK386 BK387 HB hHeld ⊢
       refine zp 1 46 (v := ?_) (a' := ?_) (bm 21 2) HT_.out (by kernel_rfl) ?_ ?_ ?_; rotate_left; (focus intro w'; go_simp; with_reducible rfl); rotate_left; (focus simp only [Act.put, zs1, zs2, zs3, i64_w, i32_w]; rfl)
       refine zp 2 47 (v := ?_) (a' := ?_) (bm 21 6) HT_.out (by kernel_rfl) ?_ ?_ ?_; rotate_left; (focus intro w'; go_simp; with_reducible rfl); rotate_left; (focus simp only [Act.put, zs1, zs2, zs3, i64_w, i32_w]; rfl)
       refine zp 4 49 (v := ?_) (a' := ?_) (bm 21 22) HT_.out (by kernel_rfl) ?_ ?_ ?_; rotate_left; (focus intro w'; go_simp; with_reducible rfl); rotate_left; (focus simp only [Act.put, zs1, zs2, zs3, i64_w, i32_w]; rfl)
       refine zp 6 51 (v := ?_) (a' := ?_) (bm 21 86) HT_.out (by kernel_rfl) ?_ ?_ ?_; rotate_left; (focus intro w'; go_simp; with_reducible rfl); rotate_left; (focus simp only [Act.put, zs1, zs2, zs3, i64_w, i32_w]; rfl)
       refine zp 9 54 (v := ?_) (a' := ?_) (bm 21 598) HT_.out (by kernel_rfl) ?_ ?_ ?_; rotate_left; (focus intro w'; go_simp; with_reducible rfl); rotate_left; (focus simp only [Act.put, zs1, zs2, zs3, i64_w, i32_w]; rfl)
       refine zp 10 55 (v := ?_) (a' := ?_) (bm 21 1622) HT_.out (by kernel_rfl) ?_ ?_ ?_; rotate_left; (focus intro w'; go_simp; with_reducible rfl); rotate_left; (focus simp only [Act.put, zs1, zs2, zs3, i64_w, i32_w]; rfl)
       refine zp 12 57 (v := ?_) (a' := ?_) (bm 21 5718) HT_.out (by kernel_rfl) ?_ ?_ ?_; rotate_left; (focus intro w'; go_simp; with_reducible rfl); rotate_left; (focus simp only [Act.put, zs1, zs2, zs3, i64_w, i32_w]; rfl)
       refine zp 14 59 (v := ?_) (a' := ?_) (bm 21 22102) HT_.out (by kernel_rfl) ?_ ?_ ?_; rotate_left; (focus intro w'; go_simp; with_reducible rfl); rotate_left; (focus simp only [Act.put, zs1, zs2, zs3, i64_w, i32_w]; rfl)
       refine take_ (i := 0) (N := some 45) (v := ?_) (a' := ?_) (bm 21 22103) rfl rfl (take_ofW HT_.out HW_.out (by kernel_rfl)) (fun _ _ _ h => h) (Or.inl ⟨by rfl, ?_⟩) hHeld ?_ ?_; rotate_left; (focus rintro w' ⟨s0, s1, s2, s3, s4⟩; go_simp; with_reducible rfl); rotate_left; (focus simp only [Act.put, zs1, zs2, zs3, i64_w, i32_w]; rfl)
       refine take_ (i := 3) (N := some 48) (v := ?_) (a' := ?_) (bm 21 22111) rfl rfl (take_ofW HT_.out HW_.out (by kernel_rfl)) (fun _ _ _ h => h) (Or.inl ⟨by rfl, ?_⟩) hHeld ?_ ?_; rotate_left; (focus rintro w' ⟨s0, s1, s2, s3, s4⟩; go_simp; with_reducible rfl); rotate_left; (focus simp only [Act.put, zs1, zs2, zs3, i64_w, i32_w]; rfl)
       refine take_ (i := 5) (N := some 50) (v := ?_) (a' := ?_) (bm 21 22143) rfl rfl (take_ofW HT_.out HW_.out (by kernel_rfl)) (fun _ _ _ h => h) (Or.inl ⟨by rfl, ?_⟩) hHeld ?_ ?_; rotate_left; (focus rintro w' ⟨s0, s1, s2, s3, s4⟩; go_simp; with_reducible rfl); rotate_left; (focus simp only [Act.put, zs1, zs2, zs3, i64_w, i32_w]; rfl)
       refine take_ (i := 8) (N := some 53) (v := ?_) (a' := ?_) (bm 21 22399) rfl rfl (take_ofW HT_.out HW_.out (by kernel_rfl)) (fun _ _ _ h => h) (Or.inl ⟨by rfl, ?_⟩) hHeld ?_ ?_; rotate_left; (focus rintro w' ⟨s0, s1, s2, s3, s4⟩; go_simp; with_reducible rfl); rotate_left; (focus simp only [Act.put, zs1, zs2, zs3, i64_w, i32_w]; rfl)
       refine take_ (i := 11) (N := some 56) (v := ?_) (a' := ?_) (bm 21 24447) rfl rfl (take_ofW HT_.out HW_.out (by kernel_rfl)) (fun _ _ _ h => h) (Or.inl ⟨by rfl, ?_⟩) hHeld ?_ ?_; rotate_left; (focus rintro w' ⟨s0, s1, s2, s3, s4⟩; go_simp; with_reducible rfl); rotate_left; (focus simp only [Act.put, zs1, zs2, zs3, i64_w, i32_w]; rfl)
       refine take_ (i := 13) (N := some 58) (v := ?_) (a' := ?_) (bm 21 32639) rfl rfl (take_ofW HT_.out HW_.out (by kernel_rfl)) (fun _ _ _ h => h) (Or.inl ⟨by rfl, ?_⟩) hHeld ?_ ?_; rotate_left; (focus rintro w' ⟨s0, s1, s2, s3, s4⟩; go_simp; with_reducible rfl); rotate_left; (focus simp only [Act.put, zs1, zs2, zs3, i64_w, i32_w]; rfl)
       refine one_ (i := 7) (N := some 52) (bm 21 32767) rfl rfl (one_of HT_.out (by kernel_rfl)) (by decide) (fun K hK => ?_)
       refine goes_ Try.func25 (by kernel_rfl) rfl #[.agg #[.int .i64 a0_0, .int .i64 a0_1, .int .i64 a0_2], .int .i64 a1, .int .i64 a2_0, .int .i64 a2_1, .slice A3 l3.length c3, .bool false] (by rfl) rfl rfl (by (try simp only [zt1, zt2, zt3]) <;> rfl) ?_
       with_reducible refine (many_Least.calls kj16 a0_0 a0_1 a0_2 a1 a2_0 a2_1 _ _ l3 false t402 _ ?side1 ?side2 A38.out).mono ?_
       (case side1 => apply_rules [Kd.C_below HR3.out HB.out, Kd.C_alloc, Kd.C_drewN, Kd.C_drew])
       (case side2 => exact HC3.out)
       rintro e w48 ⟨rfl, hb⟩
       refine ⟨_, rfl, ?_⟩
       have n0_ := zm (Kd.R_below (by apply_rules [HO_11.out, Kd.R_alloc, Kd.R_drewN, Kd.R_drew]) hb)
       have n1_ := zm (blk_below (by apply_rules [BK386.out, zk1, zk2, zk3]) hb)
       have n2_ := zm (blk_below (by apply_rules [BK387.out, zk1, zk2, zk3]) hb)
       have n3_ := zm (below_step (by apply_rules [HB.out, zb1, zb2, zb3, zb4, GE386.out, zb4, GE387.out]) hb)
       clear HO_11
       clear BK386
       clear BK387
       clear HB
       have HO_11 := n0_
       have BK386 := n1_
       have BK387 := n2_
       have HB := n3_
       clear n0_ n1_ n2_ n3_
       (try clear hb)
       (try clear hb2)
       (try clear hk)
       (try clear hi)
       obtain ⟨Ao49, co49, eo49⟩ := Kd.R_slice HO_11.out
       (first | subst eo49 | (injection eo49 with f1_ f2_ f3_; have f4_ := f1_.symm; have f5_ := f3_.symm; clear f1_ f2_ f3_; subst f4_; subst f5_))
       refine hK.out _ _ ⟨(blk_cell BK386.out 0).trans rfl, (blk_cell BK386.out 1).trans rfl, (blk_cell BK386.out 2).trans rfl, (blk_cell BK387.out 0).trans rfl, (blk_cell BK387.out 1).trans rfl⟩ (fun hHeld => ?_)
       clear hK K
       refine norm_ (a' := ?_) ?_ ?_
       rotate_left
       ·show Act.put _ (some 52) _ = _
        simp only [Act.put, zs1, zs2, zs3, i64_w, i32_w]
        rfl
       refine one_ (i := 15) (N := some 60) (bm 21 65535) rfl rfl (one_of HT_.out (by kernel_rfl)) (by decide) (fun K hK => ?_)
       refine goes_ Try.func25 (by kernel_rfl) rfl #[.agg #[.int .i64 a0_0, .int .i64 a0_1, .int .i64 a0_2], .int .i64 a1, .int .i64 a2_0, .int .i64 a2_1, .slice Ao49 y397.length co49, .bool false] (by rfl) rfl rfl (by (try simp only [zt1, zt2, zt3]) <;> rfl) ?_
       with_reducible refine (many_Least.calls kj16 a0_0 a0_1 a0_2 a1 a2_0 a2_1 _ _ y397 false t403 _ ?side1 ?side2 A39.out).mono ?_
       (case side1 => apply_rules [(Kd.R_reads' HO_11.out).2.2, Kd.C_alloc, Kd.C_drewN, Kd.C_drew])
       (case side2 => exact (Kd.R_reads' HO_11.out).2.1)
       rintro e w50 ⟨rfl, hb⟩
       refine ⟨_, rfl, ?_⟩
       have n0_ := zm (Kd.R_below (by apply_rules [HO_11.out, Kd.R_alloc, Kd.R_drewN, Kd.R_drew]) hb)
       have n1_ := zm (blk_below (by apply_rules [BK386.out, zk1, zk2, zk3]) hb)
       have n2_ := zm (blk_below (by apply_rules [BK387.out, zk1, zk2, zk3]) hb)
       have n3_ := zm (below_step (by apply_rules [HB.out, zb1, zb2, zb3, zb4, GE386.out, zb4, GE387.out]) hb)
       clear HO_11
       clear BK386
       clear BK387
       clear HB
       have HO_11 := n0_
       have BK386 := n1_
       have BK387 := n2_
       have HB := n3_
       clear n0_ n1_ n2_ n3_
       (try clear hb)
       (try clear hb2)
       (try clear hk)
       (try clear hi)
       refine hK.out _ _ ⟨(blk_cell BK386.out 0).trans rfl, (blk_cell BK386.out 1).trans rfl, (blk_cell BK386.out 2).trans rfl, (blk_cell BK387.out 0).trans rfl, (blk_cell BK387.out 1).trans rfl⟩ (fun hHeld => ?_)
       clear hK K
       refine norm_ (a' := ?_) ?_ ?_
       rotate_left
       ·show Act.put _ (some 60) _ = _
        simp only [Act.put, zs1, zs2, zs3, i64_w, i32_w]
        rfl
       refine zp 16 61 (v := ?_) (a' := ?_) (bm 21 131071) HT_.out (by kernel_rfl) ?_ ?_ ?_; rotate_left; (focus intro w'; go_simp; with_reducible rfl); rotate_left; (focus simp only [Act.put, zs1, zs2, zs3, i64_w, i32_w]; rfl)
       refine zp 17 62 (v := ?_) (a' := ?_) (bm 21 262143) HT_.out (by kernel_rfl) ?_ ?_ ?_; rotate_left; (focus intro w'; go_simp; with_reducible rfl); rotate_left; (focus simp only [Act.put, zs1, zs2, zs3, i64_w, i32_w]; rfl)
       refine pure_ (i := 18) (N := some 63) (v := undef) (a' := ?_) (bm 21 524287) rfl rfl (any_of HT_.out (by kernel_rfl)) (fun _ _ _ h => h) (Or.inr ⟨by rfl, rfl⟩) ?_ ?_
       rotate_left
       ·simp only [Act.put, zs1, zs2, zs3, i64_w, i32_w]
        rfl
       refine zp 19 64 (v := ?_) (a' := ?_) (bm 21 1048575) HT_.out (by kernel_rfl) ?_ ?_ ?_; rotate_left; (focus intro w'; go_simp; with_reducible rfl); rotate_left; (focus simp only [Act.put, zs1, zs2, zs3, i64_w, i32_w]; rfl)
       refine zp 20 10 (v := ?_) (a' := ?_) (bm 21 2097151) HT_.out (by kernel_rfl) ?_ ?_ ?_; rotate_left; (focus intro w'; go_simp; with_reducible rfl); rotate_left; (focus simp only [Act.put, zs1, zs2, zs3, i64_w, i32_w]; rfl)
       refine done_ (done_of HT_.out (by kernel_rfl)) ?_
       try go_wp2
       go_ret
       exact ⟨by first | rfl | (simp [errW_none, errW_some] <;> rfl) | (simp [*, errW_none, errW_some] <;> rfl), by apply_rules [HB.out, zb1, zb2, zb3, zb4, GE386.out, zb4, GE387.out]⟩
    rw [if_neg c16] at H
    exact absurd H (by simp)
   rw [if_neg c15] at H
   exact absurd H (by simp)
end Go.Proofs.Ytlfnpakpkniipaa.Q
