/- Words for the claim. -/
import Derived.Test.YtlfnpakpkniipaaZOWords
import Derived.Test.YtlfnpakpkniipaaZOQx0
import Derived.Test.YtlfnpakpkniipaaZOQx12
namespace Go.Proofs.Ytlfnpakpkniipaa.Q
open Go.RowKit Go.Proofs.YtlfnpakpkniipaaW.PrintWords Go.Proofs.YtlfnpakpkniipaaW.PrintLast Go.Proofs.YtlfnpakpkniipaaW.PrintMore
attribute [local go_sem] max2_int min2_int max_two min_two max_three min_three max_four min_four
set_option linter.unusedVariables false
set_option linter.unusedSimpArgs false
mutual
def horariumref16_Days.l0 : Nat → List (S49) → Int → Int → Int → Int → Int → Option (Int)
 | 0, _, _, _, _, _, _ => none
 | k + 1, x1, x5, x6, x215000, x215001, x215002 => if x6 < 7 then (horariumref16_Days.l1 k x1 x5 x6 false 0 x215000 x215001 x215002) else (some x5)
def horariumref16_Days.l1 : Nat → List (S49) → Int → Int → Bool → Int → Int → Int → Int → Option (Int)
 | 0, _, _, _, _, _, _, _, _ => none
 | k + 1, x1, x5, x6, x7, x8, x215000, x215001, x215002 => if x8 < (x1.length : Int) then (if x7 = true then (horariumref16_Days.l1 k x1 x5 x6 true (wrap64 (x8 + 1)) x215000 x215001 x215002) else (if 0 ≤ x8 then ((horariumref09_Right.f k x215000 x215001 x215002 ((rd_T49 x1 x8).f0) ((rd_T49 x1 x8).f1) ((rd_T49 x1 x8).f2) ((rd_T49 x1 x8).f3)).bind fun t216 => (if t216 = true then (if 0 ≤ (IntKind.u64.wrap (x6)) then (horariumref16_Days.l1 k x1 x5 x6 ((Int.tmod (shr .u8 ((rd_T49 x1 x8).f1) (IntKind.u64.wrap (x6))) 2) == 1) (wrap64 (x8 + 1)) x215000 x215001 x215002) else (none)) else (horariumref16_Days.l1 k x1 x5 x6 false (wrap64 (x8 + 1)) x215000 x215001 x215002))) else (none))) else (if x7 = true then (horariumref16_Days.l0 k x1 (wrap64 (x5 + 1)) (wrap64 (x6 + 1)) x215000 x215001 x215002) else (horariumref16_Days.l0 k x1 x5 (wrap64 (x6 + 1)) x215000 x215001 x215002))
end
def horariumref16_Days.f (k : Nat) (a0_0 : Int) (a0_1 : Int) (a0_2 : Int) (l1 : List (S49)) : Option (Int) := horariumref16_Days.l0 k l1 0 0 a0_0 a0_1 a0_2
def horariumref16_Days.T9 : Bool × List (List Nat × List Nat) := (true, [([], []), ([0], [0]), ([1], [1]), ([1], [1]), ([1], [1]), ([3, 4, 1], [1, 3, 4]), ([5, 1], [1, 5]), ([2, 6, 1, 1], [1, 2, 6]), ([7, 7, 1], [1, 7]), ([8], [8]), ([8], [8]), ([9, 10, 8], [8, 9, 10]), ([11, 8], [8, 11]), ([12, 8], [8, 12]), ([8], [8]), ([14, 8], [8, 14]), ([13, 15, 8], [8, 13, 15]), ([16, 8], [8, 16]), ([17, 8], [8, 17]), ([8, 18, 1], [1, 8, 18]), ([1, 19], [1, 19]), ([20, 8, 0, 1, 2, 3, 4, 5, 6, 7, 8, 9, 10, 11, 12, 13, 14, 15, 16, 17, 18, 19, 20], [0, 20])])
def horariumref16_Days.B9 : List Nat := [0, 1, 3, 3, 3, 27, 59, 127, 255, 511, 511, 2047, 4095, 8191, 511, 16895, 65535, 131071, 262143, 524287, 1048575, 2097151]
theorem horariumref16_Days.tab9 : rtab .any (opsOf Try.f16 9) = horariumref16_Days.T9 := by kernel_rfl
theorem horariumref16_Days.bits9 : waitsOk horariumref16_Days.T9.2 horariumref16_Days.B9 = true := by kernel_rfl
set_option maxHeartbeats 8000000 in
set_option maxRecDepth 100000 in
theorem horariumref16_Days.calls (k : Nat) (a0_0 : Int) (a0_1 : Int) (a0_2 : Int) (A1 : Option Addr) (c1 : Nat) (l1 : List (S49)) (r : Int) (w : World) (hr1 : Kd.C k49 w A1 l1.length l1) (hc1 : l1.length ≤ c1) (h : horariumref16_Days.f k a0_0 a0_1 a0_2 l1 = some r) :
  Calls Try.prog 16 #[.agg #[.int .i64 a0_0, .int .i64 a0_1, .int .i64 a0_2], .slice A1 l1.length c1] w fun e w' => e = .returned (.int .i64 r) ∧ Below w.heap.size w w' := by
 have hu23 := Try.underlying23
 have hu49 := Try.underlying49
 have HR1 := zm hr1
 have HC1 := zm hc1
 clear hr1 hc1
 have HB := zm (Below.refl w.heap.size w)
 have H : (horariumref16_Days.l0 k l1 0 0 a0_0 a0_1 a0_2) = some r := h
 clear h
 have H' := zm H
 clear H
 go_enter Try.func16, Try.ntmps16
 go_wp2_with (first | ((with_reducible refine gate_dst (N := 2) rfl ?_); refine box_event ?hg (N := 2) ?hd (cs := #[.int .i64 a0_0, .int .i64 a0_1, .int .i64 a0_2]) (t := 23) ?hr ?_; (case hd => rfl); (case hg => rfl); (case hr => go_simp; try rfl); intro gb214 hg w3 hbox hb; have BK214 := zm (hbox); have GW214 := zm ((by rw [hg]; exact (below_size (by apply_rules [HB.out, zb1, zb2, zb3])) : w.heap.size ≤ gb214)); have GE214 := GW214; replace HB := zm (below_step (by apply_rules [HB.out, zb1, zb2, zb3]) hb); clear hb hbox hg))
 go_loopg [5, 6] k (fun kq v5 v6 w' => ∃ (x5_1 : Int) (x6_1 : Int), v5 = .int .i64 x5_1 ∧ v6 = .int .i64 x6_1 ∧ Aside0 (horariumref16_Days.l0 kq l1 x5_1 x6_1 a0_0 a0_1 a0_2 = some r) ∧ Aside0 (kq ≤ k) ∧ Aside0 (w'.heap[gb214]? = some (.cells #[.int .i64 a0_0, .int .i64 a0_1, .int .i64 a0_2] 23 (0, 0))) ∧ Aside0 (Below w.heap.size w w'))
 case atStart => exact ⟨(0), (0), (by first | rfl | (simp; done) | (simp [*]; done)), (by first | rfl | (simp; done) | (simp [*]; done)), H', ⟨Nat.le_refl _⟩, ⟨by (with_reducible repeat (first | refine blk_alloc ?_ _ | refine blk_drewN ?_ _ | refine blk_drew ?_)); exact BK214.out⟩, ⟨by apply_rules [HB.out, zb1, zb2, zb3, zb4, GE214.out]⟩⟩
 case round =>
  clear H'
  (try clear c1); (try clear p2)
  obtain ⟨x5_1, x6_1, rfl, rfl, HA, HK1, BK214, HB⟩ := hrel
  cases gk with
  | zero => exact absurd HA.out (by simp [horariumref16_Days.l0])
  | succ k1 =>
   have H := HA.out
   clear HA
   simp only [horariumref16_Days.l0] at H
   by_cases c4 : x6_1 < 7
   ·rw [if_pos c4] at H
    have c4b0 : decide (x6_1 < 7) = true := decide_eq_true c4
    clear c4
    have H' := zm H
    clear H
    go_wp2
    go_loopg [7, 8] k1 (fun kq v7 v8 w' => ∃ (x7_2 : Bool) (x8_2 : Int), v7 = .bool x7_2 ∧ v8 = .int .i64 x8_2 ∧ Aside0 (horariumref16_Days.l1 kq l1 x5_1 x6_1 x7_2 x8_2 a0_0 a0_1 a0_2 = some r) ∧ Aside0 (kq ≤ k1) ∧ Aside0 (w'.heap[gb214]? = some (.cells #[.int .i64 a0_0, .int .i64 a0_1, .int .i64 a0_2] 23 (0, 0))) ∧ Aside0 (Below w.heap.size w w'))
    case atStart => exact ⟨(false), (0), (by first | rfl | (simp; done) | (simp [*]; done)), (by first | rfl | (simp; done) | (simp [*]; done)), H', ⟨Nat.le_refl _⟩, ⟨by (with_reducible repeat (first | refine blk_alloc ?_ _ | refine blk_drewN ?_ _ | refine blk_drew ?_)); exact BK214.out⟩, ⟨by apply_rules [HB.out, zb1, zb2, zb3, zb4, GE214.out]⟩⟩
    case round =>
     clear H'
     (try clear c1); (try clear p2); (try clear c4); (try clear c4b0); (try clear p2)
     obtain ⟨x7_2, x8_2, rfl, rfl, HA, HK2, BK214, HB⟩ := hrel
     cases gk with
     | zero => exact absurd HA.out (by simp [horariumref16_Days.l1])
     | succ k2 =>
      have H := HA.out
      clear HA
      simp only [horariumref16_Days.l1] at H
      by_cases c5 : x8_2 < (l1.length : Int)
      ·rw [if_pos c5] at H
       have c5b0 : decide (x8_2 < (l1.length : Int)) = true := decide_eq_true c5
       clear c5
       by_cases c6 : x7_2 = true
       ·subst c6
        have H1 : (horariumref16_Days.l1 k2 l1 x5_1 x6_1 true (wrap64 (x8_2 + 1)) a0_0 a0_1 a0_2) = some r := by rw [if_pos rfl] at H; exact H
        clear H
        have H := H1
        clear H1
        have H' := zm H
        clear H
        try go_wp2
        have n0_ := zm (blk_drew BK214.out)
        have n1_ := zm (below_drew1 HB.out)
        clear BK214
        clear HB
        have BK214 := n0_
        have HB := n1_
        clear n0_ n1_
        refine start_ (n := 22) (S := fun w' => True) (ds := []) #[false, false, false, false, false, false, false, false, false, false, false, false, false, false, false, false, false, false, false, false, false, false] (by kernel_rfl) rfl rfl trivial (fun hHeld => ?_); refine with_tabW horariumref16_Days.tab9 horariumref16_Days.bits9 (fun HT_ HW_ => ?_)
        generalize wr.drew = w7 at BK214 HB hHeld ⊢
        refine zp 0 19 (v := ?_) (a' := ?_) (bm 22 1) HT_.out (by kernel_rfl) ?_ ?_ ?_; rotate_left; (focus intro w'; go_simp; with_reducible rfl); rotate_left; (focus simp only [Act.put, zs1, zs2, zs3, i64_w, i32_w]; rfl)
        refine zp 1 20 (v := ?_) (a' := ?_) (bm 22 3) HT_.out (by kernel_rfl) ?_ ?_ ?_; rotate_left; (focus intro w'; go_simp; with_reducible rfl); rotate_left; (focus simp only [Act.put, zs1, zs2, zs3, i64_w, i32_w]; rfl)
        refine pure_ (i := 2) (N := some 21) (v := undef) (a' := ?_) (bm 22 7) rfl rfl (any_of HT_.out (by kernel_rfl)) (fun _ _ _ h => h) (Or.inr ⟨by rfl, rfl⟩) ?_ ?_
        rotate_left
        ·simp only [Act.put, zs1, zs2, zs3, i64_w, i32_w]
         rfl
        refine pure_ (i := 3) (N := some 22) (v := undef) (a' := ?_) (bm 22 15) rfl rfl (any_of HT_.out (by kernel_rfl)) (fun _ _ _ h => h) (Or.inr ⟨by rfl, rfl⟩) ?_ ?_
        rotate_left
        ·simp only [Act.put, zs1, zs2, zs3, i64_w, i32_w]
         rfl
        refine pure_ (i := 4) (N := some 23) (v := undef) (a' := ?_) (bm 22 31) rfl rfl (any_of HT_.out (by kernel_rfl)) (fun _ _ _ h => h) (Or.inr ⟨by rfl, rfl⟩) ?_ ?_
        rotate_left
        ·simp only [Act.put, zs1, zs2, zs3, i64_w, i32_w]
         rfl
        refine pure_ (i := 5) (N := some 24) (v := undef) (a' := ?_) (bm 22 63) rfl rfl (any_of HT_.out (by kernel_rfl)) (fun _ _ _ h => h) (Or.inr ⟨by rfl, rfl⟩) ?_ ?_
        rotate_left
        ·simp only [Act.put, zs1, zs2, zs3, i64_w, i32_w]
         rfl
        refine pure_ (i := 6) (N := some 25) (v := undef) (a' := ?_) (bm 22 127) rfl rfl (any_of HT_.out (by kernel_rfl)) (fun _ _ _ h => h) (Or.inr ⟨by rfl, rfl⟩) ?_ ?_
        rotate_left
        ·simp only [Act.put, zs1, zs2, zs3, i64_w, i32_w]
         rfl
        refine pure_ (i := 7) (N := some 26) (v := undef) (a' := ?_) (bm 22 255) rfl rfl (any_of HT_.out (by kernel_rfl)) (fun _ _ _ h => h) (Or.inr ⟨by rfl, rfl⟩) ?_ ?_
        rotate_left
        ·simp only [Act.put, zs1, zs2, zs3, i64_w, i32_w]
         rfl
        refine pure_ (i := 8) (N := some 27) (v := undef) (a' := ?_) (bm 22 511) rfl rfl (any_of HT_.out (by kernel_rfl)) (fun _ _ _ h => h) (Or.inr ⟨by rfl, rfl⟩) ?_ ?_
        rotate_left
        ·simp only [Act.put, zs1, zs2, zs3, i64_w, i32_w]
         rfl
        refine pure_ (i := 9) (N := some 28) (v := undef) (a' := ?_) (bm 22 1023) rfl rfl (any_of HT_.out (by kernel_rfl)) (fun _ _ _ h => h) (Or.inr ⟨by rfl, rfl⟩) ?_ ?_
        rotate_left
        ·simp only [Act.put, zs1, zs2, zs3, i64_w, i32_w]
         rfl
        refine pure_ (i := 10) (N := some 29) (v := undef) (a' := ?_) (bm 22 2047) rfl rfl (any_of HT_.out (by kernel_rfl)) (fun _ _ _ h => h) (Or.inr ⟨by rfl, rfl⟩) ?_ ?_
        rotate_left
        ·simp only [Act.put, zs1, zs2, zs3, i64_w, i32_w]
         rfl
        refine pure_ (i := 11) (N := some 30) (v := undef) (a' := ?_) (bm 22 4095) rfl rfl (any_of HT_.out (by kernel_rfl)) (fun _ _ _ h => h) (Or.inr ⟨by rfl, rfl⟩) ?_ ?_
        rotate_left
        ·simp only [Act.put, zs1, zs2, zs3, i64_w, i32_w]
         rfl
        refine pure_ (i := 12) (N := some 31) (v := undef) (a' := ?_) (bm 22 8191) rfl rfl (any_of HT_.out (by kernel_rfl)) (fun _ _ _ h => h) (Or.inr ⟨by rfl, rfl⟩) ?_ ?_
        rotate_left
        ·simp only [Act.put, zs1, zs2, zs3, i64_w, i32_w]
         rfl
        refine pure_ (i := 13) (N := some 32) (v := undef) (a' := ?_) (bm 22 16383) rfl rfl (any_of HT_.out (by kernel_rfl)) (fun _ _ _ h => h) (Or.inr ⟨by rfl, rfl⟩) ?_ ?_
        rotate_left
        ·simp only [Act.put, zs1, zs2, zs3, i64_w, i32_w]
         rfl
        refine pure_ (i := 14) (N := some 33) (v := undef) (a' := ?_) (bm 22 32767) rfl rfl (any_of HT_.out (by kernel_rfl)) (fun _ _ _ h => h) (Or.inr ⟨by rfl, rfl⟩) ?_ ?_
        rotate_left
        ·simp only [Act.put, zs1, zs2, zs3, i64_w, i32_w]
         rfl
        refine pure_ (i := 15) (N := some 34) (v := undef) (a' := ?_) (bm 22 65535) rfl rfl (any_of HT_.out (by kernel_rfl)) (fun _ _ _ h => h) (Or.inr ⟨by rfl, rfl⟩) ?_ ?_
        rotate_left
        ·simp only [Act.put, zs1, zs2, zs3, i64_w, i32_w]
         rfl
        refine pure_ (i := 16) (N := some 35) (v := undef) (a' := ?_) (bm 22 131071) rfl rfl (any_of HT_.out (by kernel_rfl)) (fun _ _ _ h => h) (Or.inr ⟨by rfl, rfl⟩) ?_ ?_
        rotate_left
        ·simp only [Act.put, zs1, zs2, zs3, i64_w, i32_w]
         rfl
        refine pure_ (i := 17) (N := some 36) (v := undef) (a' := ?_) (bm 22 262143) rfl rfl (any_of HT_.out (by kernel_rfl)) (fun _ _ _ h => h) (Or.inr ⟨by rfl, rfl⟩) ?_ ?_
        rotate_left
        ·simp only [Act.put, zs1, zs2, zs3, i64_w, i32_w]
         rfl
        refine pure_ (i := 18) (N := some 37) (v := undef) (a' := ?_) (bm 22 524287) rfl rfl (any_of HT_.out (by kernel_rfl)) (fun _ _ _ h => h) (Or.inr ⟨by rfl, rfl⟩) ?_ ?_
        rotate_left
        ·simp only [Act.put, zs1, zs2, zs3, i64_w, i32_w]
         rfl
        refine pure_ (i := 19) (N := some 38) (v := undef) (a' := ?_) (bm 22 1048575) rfl rfl (any_of HT_.out (by kernel_rfl)) (fun _ _ _ h => h) (Or.inr ⟨by rfl, rfl⟩) ?_ ?_
        rotate_left
        ·simp only [Act.put, zs1, zs2, zs3, i64_w, i32_w]
         rfl
        refine zp 20 39 (v := ?_) (a' := ?_) (bm 22 2097151) HT_.out (by kernel_rfl) ?_ ?_ ?_; rotate_left; (focus intro w'; go_simp; with_reducible rfl); rotate_left; (focus simp only [Act.put, zs1, zs2, zs3, i64_w, i32_w]; rfl)
        refine zp 21 7 (v := ?_) (a' := ?_) (bm 22 4194303) HT_.out (by kernel_rfl) ?_ ?_ ?_; rotate_left; (focus intro w'; go_simp; with_reducible rfl); rotate_left; (focus simp only [Act.put, zs1, zs2, zs3, i64_w, i32_w]; rfl)
        refine done_ (done_of HT_.out (by kernel_rfl)) ?_
        try go_wp2
        go_roundg k2
        case measure => have := HK1.out; have := HK2.out; omega
        case rel => exact ⟨(true), (wrap64 (x8_2 + 1)), (by first | rfl | (simp; done) | (simp [*]; done)), (by first | rfl | (simp; done) | (simp [*]; done)), H', ⟨by have := HK1.out; have := HK2.out; omega⟩, ⟨by (with_reducible repeat (first | refine blk_alloc ?_ _ | refine blk_drewN ?_ _ | refine blk_drew ?_)); exact BK214.out⟩, ⟨by apply_rules [HB.out, zb1, zb2, zb3, zb4, GE214.out]⟩⟩
       replace c6 := Bool.eq_false_iff.mpr c6
       subst c6
       have H1 : (if 0 ≤ x8_2 then ((horariumref09_Right.f k2 a0_0 a0_1 a0_2 ((rd_T49 l1 x8_2).f0) ((rd_T49 l1 x8_2).f1) ((rd_T49 l1 x8_2).f2) ((rd_T49 l1 x8_2).f3)).bind fun t216 => (if t216 = true then (if 0 ≤ (IntKind.u64.wrap (x6_1)) then (horariumref16_Days.l1 k2 l1 x5_1 x6_1 ((Int.tmod (shr .u8 ((rd_T49 l1 x8_2).f1) (IntKind.u64.wrap (x6_1))) 2) == 1) (wrap64 (x8_2 + 1)) a0_0 a0_1 a0_2) else (none)) else (horariumref16_Days.l1 k2 l1 x5_1 x6_1 false (wrap64 (x8_2 + 1)) a0_0 a0_1 a0_2))) else (none)) = some r := by rw [if_neg (show ¬ (false = true) by decide)] at H; exact H
       clear H
       have H := H1
       clear H1
       by_cases c8 : 0 ≤ x8_2
       ·rw [if_pos c8] at H
        have c8b0 : decide (0 ≤ x8_2) = true := decide_eq_true c8
        clear c8
        replace H := zo H
        obtain ⟨t216, A90, H⟩ := H
        have A9 := zm A90
        clear A90
        by_cases c10 : t216 = true
        ·subst c10
         have H1 : (if 0 ≤ (IntKind.u64.wrap (x6_1)) then (horariumref16_Days.l1 k2 l1 x5_1 x6_1 ((Int.tmod (shr .u8 ((rd_T49 l1 x8_2).f1) (IntKind.u64.wrap (x6_1))) 2) == 1) (wrap64 (x8_2 + 1)) a0_0 a0_1 a0_2) else (none)) = some r := by rw [if_pos rfl] at H; exact H
         clear H
         have H := H1
         clear H1
         obtain ⟨ji11, hji11⟩ : ∃ j_ : Int, (IntKind.u64.wrap (x6_1)) = j_ := ⟨_, rfl⟩
         replace H : (if 0 ≤ (ji11) then (horariumref16_Days.l1 k2 l1 x5_1 x6_1 ((Int.tmod (shr .u8 ((rd_T49 l1 x8_2).f1) (ji11)) 2) == 1) (wrap64 (x8_2 + 1)) a0_0 a0_1 a0_2) else (none)) = some r := by first | (rw [hji11] at H; exact H) | (simp only [hji11] at H ⊢; exact H)
         (try rw [hji11] at A9)
         by_cases c12 : 0 ≤ (ji11)
         ·rw [if_pos c12] at H
          have c12b0 := eq_true c12
          have c12b1 : decide (0 ≤ (ji11)) = true := decide_eq_true c12
          clear c12
          obtain ⟨ji13, hji13⟩ : ∃ j_ : Int, (shr .u8 ((rd_T49 l1 x8_2).f1) (ji11)) = j_ := ⟨_, rfl⟩
          replace H : (horariumref16_Days.l1 k2 l1 x5_1 x6_1 ((Int.tmod (ji13) 2) == 1) (wrap64 (x8_2 + 1)) a0_0 a0_1 a0_2) = some r := by first | (rw [hji13] at H; exact H) | (simp only [hji13] at H ⊢; exact H)
          (try rw [hji13] at A9)
          have hji13_ : (((rd_T49 l1 x8_2).f1) / 2 ^ min (ji11).toNat 8) = ji13 := hji13
          have hji13z : (ji11) ≤ 8 → (((rd_T49 l1 x8_2).f1) / 2 ^ (ji11).toNat) = ji13 := shr_small hji13
          have H' := zm H
          clear H
          try go_wp2
          have n0_ := zm (blk_drew BK214.out)
          have n1_ := zm (below_drew1 HB.out)
          clear BK214
          clear HB
          have BK214 := n0_
          have HB := n1_
          clear n0_ n1_
          have p215 : 0 ≤ (x8_2 : Int) := of_decide_eq_true (by first | (with_reducible assumption) | assumption)
          have q215 : x8_2 < (l1.length : Int) := of_decide_eq_true (by first | (with_reducible assumption) | assumption)
          obtain ⟨ad215, e215, hx215_0, hx215_1, hx215_2, hx215_3⟩ := at_T49 HR1.out x8_2 p215 q215
          have hw215_3 := hx215_3
          have hw215_2 := hx215_2
          have hw215_1 := hx215_1
          have hw215_0 := hx215_0
          cases e215
          (try (replace hx215_0 := (HB.out.cell (World.block_lt_of_cell? w _ hx215_0)).trans hx215_0))
          (try (replace hx215_1 := (HB.out.cell (World.block_lt_of_cell? w _ hx215_1)).trans hx215_1))
          (try (replace hx215_2 := (HB.out.cell (World.block_lt_of_cell? w _ hx215_2)).trans hx215_2))
          (try (replace hx215_3 := (HB.out.cell (World.block_lt_of_cell? w _ hx215_3)).trans hx215_3))
          replace p215 := eq_true p215
          replace q215 := eq_true q215
          have p217 : 0 ≤ (x8_2 : Int) := of_decide_eq_true (by first | (with_reducible assumption) | assumption)
          have q217 : x8_2 < (l1.length : Int) := of_decide_eq_true (by first | (with_reducible assumption) | assumption)
          obtain ⟨ad217, e217, hx217_0, hx217_1, hx217_2, hx217_3⟩ := at_T49 HR1.out x8_2 p217 q217
          have hw217_3 := hx217_3
          have hw217_2 := hx217_2
          have hw217_1 := hx217_1
          have hw217_0 := hx217_0
          obtain rfl : ad215 = ad217 := (by injection e217)
          (try (replace hx217_0 := (HB.out.cell (World.block_lt_of_cell? w _ hx217_0)).trans hx217_0))
          (try (replace hx217_1 := (HB.out.cell (World.block_lt_of_cell? w _ hx217_1)).trans hx217_1))
          (try (replace hx217_2 := (HB.out.cell (World.block_lt_of_cell? w _ hx217_2)).trans hx217_2))
          (try (replace hx217_3 := (HB.out.cell (World.block_lt_of_cell? w _ hx217_3)).trans hx217_3))
          replace p217 := eq_true p217
          replace q217 := eq_true q217
          refine start_ (n := 22) (S := fun w' => w'.cell? ⟨gb214, 0, none⟩ = some (.int .i64 a0_0) ∧ w'.cell? ⟨gb214, 1, none⟩ = some (.int .i64 a0_1) ∧ w'.cell? ⟨gb214, 2, none⟩ = some (.int .i64 a0_2) ∧ w'.cell? (ad215.add ((x8_2).toNat * 4)) = some (.int .u32 ((rd_T49 l1 x8_2).f0)) ∧ w'.cell? ⟨(ad215.add ((x8_2).toNat * 4)).block, (ad215.add ((x8_2).toNat * 4)).off + 1, none⟩ = some (.int .u8 ((rd_T49 l1 x8_2).f1)) ∧ w'.cell? ⟨(ad215.add ((x8_2).toNat * 4)).block, (ad215.add ((x8_2).toNat * 4)).off + 2, none⟩ = some (.int .i64 ((rd_T49 l1 x8_2).f2)) ∧ w'.cell? ⟨(ad215.add ((x8_2).toNat * 4)).block, (ad215.add ((x8_2).toNat * 4)).off + 3, none⟩ = some (.int .i64 ((rd_T49 l1 x8_2).f3)) ∧ w'.cell? (ad215.add ((x8_2).toNat * 4)) = some (.int .u32 ((rd_T49 l1 x8_2).f0)) ∧ w'.cell? ⟨(ad215.add ((x8_2).toNat * 4)).block, (ad215.add ((x8_2).toNat * 4)).off + 1, none⟩ = some (.int .u8 ((rd_T49 l1 x8_2).f1)) ∧ w'.cell? ⟨(ad215.add ((x8_2).toNat * 4)).block, (ad215.add ((x8_2).toNat * 4)).off + 2, none⟩ = some (.int .i64 ((rd_T49 l1 x8_2).f2)) ∧ w'.cell? ⟨(ad215.add ((x8_2).toNat * 4)).block, (ad215.add ((x8_2).toNat * 4)).off + 3, none⟩ = some (.int .i64 ((rd_T49 l1 x8_2).f3))) (ds := []) #[false, false, false, false, false, false, false, false, false, false, false, false, false, false, false, false, false, false, false, false, false, false] (by kernel_rfl) rfl rfl ⟨(blk_cell BK214.out 0).trans rfl, (blk_cell BK214.out 1).trans rfl, (blk_cell BK214.out 2).trans rfl, ((HB.out.cell (World.block_lt_of_cell? w _ hw215_0)).trans hw215_0), ((HB.out.cell (World.block_lt_of_cell? w _ hw215_1)).trans hw215_1), ((HB.out.cell (World.block_lt_of_cell? w _ hw215_2)).trans hw215_2), ((HB.out.cell (World.block_lt_of_cell? w _ hw215_3)).trans hw215_3), ((HB.out.cell (World.block_lt_of_cell? w _ hw217_0)).trans hw217_0), ((HB.out.cell (World.block_lt_of_cell? w _ hw217_1)).trans hw217_1), ((HB.out.cell (World.block_lt_of_cell? w _ hw217_2)).trans hw217_2), ((HB.out.cell (World.block_lt_of_cell? w _ hw217_3)).trans hw217_3)⟩ (fun hHeld => ?_); refine with_tabW horariumref16_Days.tab9 horariumref16_Days.bits9 (fun HT_ HW_ => ?_)
          generalize wr.drew = w14 at BK214 HB hx215_0 hx215_1 hx215_2 hx215_3 hx217_0 hx217_1 hx217_2 hx217_3 hHeld ⊢
          refine zp 0 19 (v := ?_) (a' := ?_) (bm 22 1) HT_.out (by kernel_rfl) ?_ ?_ ?_; rotate_left; (focus intro w'; go_simp; with_reducible rfl); rotate_left; (focus simp only [Act.put, zs1, zs2, zs3, i64_w, i32_w]; rfl)
          refine zp 1 20 (v := ?_) (a' := ?_) (bm 22 3) HT_.out (by kernel_rfl) ?_ ?_ ?_; rotate_left; (focus intro w'; go_simp; with_reducible rfl); rotate_left; (focus simp only [Act.put, zs1, zs2, zs3, i64_w, i32_w]; rfl)
          refine zp 3 22 (v := ?_) (a' := ?_) (bm 22 11) HT_.out (by kernel_rfl) ?_ ?_ ?_; rotate_left; (focus intro w'; go_simp; with_reducible rfl); rotate_left; (focus simp only [Act.put, zs1, zs2, zs3, i64_w, i32_w]; rfl)
          refine zp 4 23 (v := ?_) (a' := ?_) (bm 22 27) HT_.out (by kernel_rfl) ?_ ?_ ?_; rotate_left; (focus intro w'; go_simp; with_reducible rfl); rotate_left; (focus simp only [Act.put, zs1, zs2, zs3, i64_w, i32_w]; rfl)
          refine zp 5 24 (v := ?_) (a' := ?_) (bm 22 59) HT_.out (by kernel_rfl) ?_ ?_ ?_; rotate_left; (focus intro w'; go_simp; with_reducible rfl); rotate_left; (focus simp only [Act.put, zs1, zs2, zs3, i64_w, i32_w]; rfl)
          refine take_ (i := 2) (N := some 21) (v := ?_) (a' := ?_) (bm 22 63) rfl rfl (take_ofW HT_.out HW_.out (by kernel_rfl)) (fun _ _ _ h => h) (Or.inl ⟨by rfl, ?_⟩) hHeld ?_ ?_; rotate_left; (focus rintro w' ⟨s0, s1, s2, s3, s4, s5, s6, s7, s8, s9, s10⟩; go_simp; with_reducible rfl); rotate_left; (focus simp only [Act.put, zs1, zs2, zs3, i64_w, i32_w]; rfl)
          refine take_ (i := 6) (N := some 25) (v := ?_) (a' := ?_) (bm 22 127) rfl rfl (take_ofW HT_.out HW_.out (by kernel_rfl)) (fun _ _ _ h => h) (Or.inl ⟨by rfl, ?_⟩) hHeld ?_ ?_; rotate_left; (focus rintro w' ⟨s0, s1, s2, s3, s4, s5, s6, s7, s8, s9, s10⟩; go_simp; with_reducible rfl); rotate_left; (focus simp only [Act.put, zs1, zs2, zs3, i64_w, i32_w]; rfl)
          refine one_ (i := 7) (N := some 26) (bm 22 255) rfl rfl (one_of HT_.out (by kernel_rfl)) (by decide) (fun K hK => ?_)
          refine goes_ Try.func33 (by kernel_rfl) rfl #[.agg #[.int .i64 a0_0, .int .i64 a0_1, .int .i64 a0_2], .agg #[.int .u32 ((rd_T49 l1 x8_2).f0), .int .u8 ((rd_T49 l1 x8_2).f1), .int .i64 ((rd_T49 l1 x8_2).f2), .int .i64 ((rd_T49 l1 x8_2).f3)]] (by rfl) rfl rfl (by (try simp only [zt1, zt2, zt3]) <;> rfl) ?_
          with_reducible refine (horariumref09_Right.calls k2 a0_0 a0_1 a0_2 ((rd_T49 l1 x8_2).f0) ((rd_T49 l1 x8_2).f1) ((rd_T49 l1 x8_2).f2) ((rd_T49 l1 x8_2).f3) true _ A9.out).mono ?_
          rintro e w15 ⟨rfl, hb⟩
          refine ⟨_, rfl, ?_⟩
          have n0_ := zm (blk_below (by apply_rules [BK214.out, zk1, zk2, zk3]) hb)
          have n1_ := zm (below_step (by apply_rules [HB.out, zb1, zb2, zb3, zb4, GE214.out]) hb)
          clear BK214
          clear HB
          have BK214 := n0_
          have HB := n1_
          clear n0_ n1_
          (try clear hb)
          (try clear hb2)
          (try clear hk)
          (try clear hi)
          refine hK.out _ _ ⟨(blk_cell BK214.out 0).trans rfl, (blk_cell BK214.out 1).trans rfl, (blk_cell BK214.out 2).trans rfl, ((HB.out.cell (World.block_lt_of_cell? w _ hw215_0)).trans hw215_0), ((HB.out.cell (World.block_lt_of_cell? w _ hw215_1)).trans hw215_1), ((HB.out.cell (World.block_lt_of_cell? w _ hw215_2)).trans hw215_2), ((HB.out.cell (World.block_lt_of_cell? w _ hw215_3)).trans hw215_3), ((HB.out.cell (World.block_lt_of_cell? w _ hw217_0)).trans hw217_0), ((HB.out.cell (World.block_lt_of_cell? w _ hw217_1)).trans hw217_1), ((HB.out.cell (World.block_lt_of_cell? w _ hw217_2)).trans hw217_2), ((HB.out.cell (World.block_lt_of_cell? w _ hw217_3)).trans hw217_3)⟩ (fun hHeld => ?_)
          clear hK K
          refine norm_ (a' := ?_) ?_ ?_
          rotate_left
          ·show Act.put _ (some 26) _ = _
           simp only [Act.put, zs1, zs2, zs3, i64_w, i32_w]
           rfl
          refine zp 8 27 (v := ?_) (a' := ?_) (bm 22 511) HT_.out (by kernel_rfl) ?_ ?_ ?_; rotate_left; (focus intro w'; go_simp; with_reducible rfl); rotate_left; (focus simp only [Act.put, zs1, zs2, zs3, i64_w, i32_w]; rfl)
          refine zp 9 28 (v := ?_) (a' := ?_) (bm 22 1023) HT_.out (by kernel_rfl) ?_ ?_ ?_; rotate_left; (focus intro w'; go_simp; with_reducible rfl); rotate_left; (focus simp only [Act.put, zs1, zs2, zs3, i64_w, i32_w]; rfl)
          refine zp 10 29 (v := ?_) (a' := ?_) (bm 22 2047) HT_.out (by kernel_rfl) ?_ ?_ ?_; rotate_left; (focus intro w'; go_simp; with_reducible rfl); rotate_left; (focus simp only [Act.put, zs1, zs2, zs3, i64_w, i32_w]; rfl)
          refine zp 11 30 (v := ?_) (a' := ?_) (bm 22 4095) HT_.out (by kernel_rfl) ?_ ?_ ?_; rotate_left; (focus intro w'; go_simp; with_reducible rfl); rotate_left; (focus simp only [Act.put, zs1, zs2, zs3, i64_w, i32_w]; rfl)
          refine zp 12 31 (v := ?_) (a' := ?_) (bm 22 8191) HT_.out (by kernel_rfl) ?_ ?_ ?_; rotate_left; (focus intro w'; go_simp; with_reducible rfl); rotate_left; (focus simp only [Act.put, zs1, zs2, zs3, i64_w, i32_w]; rfl)
          refine zp 14 33 (v := ?_) (a' := ?_) (bm 22 24575) HT_.out (by kernel_rfl) ?_ ?_ ?_; rotate_left; (focus intro w'; go_simp; with_reducible rfl); rotate_left; (focus simp only [Act.put, zs1, zs2, zs3, i64_w, i32_w]; rfl)
          refine zp 15 34 (v := ?_) (a' := ?_) (bm 22 57343) HT_.out (by kernel_rfl) ?_ ?_ ?_; rotate_left; (focus intro w'; go_simp; with_reducible rfl); rotate_left; (focus simp only [Act.put, zs1, zs2, zs3, i64_w, i32_w]; rfl)
          refine take_ (i := 13) (N := some 32) (v := ?_) (a' := ?_) (bm 22 65535) rfl rfl (take_ofW HT_.out HW_.out (by kernel_rfl)) (fun _ _ _ h => h) (Or.inl ⟨by rfl, ?_⟩) hHeld ?_ ?_; rotate_left; (focus rintro w' ⟨s0, s1, s2, s3, s4, s5, s6, s7, s8, s9, s10⟩; go_simp; with_reducible rfl); rotate_left; (focus simp only [Act.put, zs1, zs2, zs3, i64_w, i32_w]; rfl)
          refine zp 16 35 (v := ?_) (a' := ?_) (bm 22 131071) HT_.out (by kernel_rfl) ?_ ?_ ?_; rotate_left; (focus intro w'; go_simp; with_reducible rfl); rotate_left; (focus simp only [Act.put, zs1, zs2, zs3, i64_w, i32_w]; rfl)
          refine zp 17 36 (v := ?_) (a' := ?_) (bm 22 262143) HT_.out (by kernel_rfl) ?_ ?_ ?_; rotate_left; (focus intro w'; go_simp; with_reducible rfl); rotate_left; (focus simp only [Act.put, zs1, zs2, zs3, i64_w, i32_w]; rfl)
          refine zp 18 37 (v := ?_) (a' := ?_) (bm 22 524287) HT_.out (by kernel_rfl) ?_ ?_ ?_; rotate_left; (focus intro w'; go_simp; with_reducible rfl); rotate_left; (focus simp only [Act.put, zs1, zs2, zs3, i64_w, i32_w]; rfl)
          refine zp 19 38 (v := ?_) (a' := ?_) (bm 22 1048575) HT_.out (by kernel_rfl) ?_ ?_ ?_; rotate_left; (focus intro w'; go_simp; with_reducible rfl); rotate_left; (focus simp only [Act.put, zs1, zs2, zs3, i64_w, i32_w]; rfl)
          refine zp 20 39 (v := ?_) (a' := ?_) (bm 22 2097151) HT_.out (by kernel_rfl) ?_ ?_ ?_; rotate_left; (focus intro w'; go_simp; with_reducible rfl); rotate_left; (focus simp only [Act.put, zs1, zs2, zs3, i64_w, i32_w]; rfl)
          refine zp 21 7 (v := ?_) (a' := ?_) (bm 22 4194303) HT_.out (by kernel_rfl) ?_ ?_ ?_; rotate_left; (focus intro w'; go_simp; with_reducible rfl); rotate_left; (focus simp only [Act.put, zs1, zs2, zs3, i64_w, i32_w]; rfl)
          refine done_ (done_of HT_.out (by kernel_rfl)) ?_
          try go_wp2
          go_roundg k2
          case measure => have := HK1.out; have := HK2.out; omega
          case rel => exact ⟨(((Int.tmod (ji13) 2) == 1)), (wrap64 (x8_2 + 1)), (by first | rfl | (simp; done) | (simp only [← hji13] <;> (first | rfl | simp)) | (simp [*]; done)), (by first | rfl | (simp; done) | (simp [*]; done)), H', ⟨by have := HK1.out; have := HK2.out; omega⟩, ⟨by (with_reducible repeat (first | refine blk_alloc ?_ _ | refine blk_drewN ?_ _ | refine blk_drew ?_)); exact BK214.out⟩, ⟨by apply_rules [HB.out, zb1, zb2, zb3, zb4, GE214.out]⟩⟩
         rw [if_neg c12] at H
         exact absurd H (by simp)
        replace c10 := Bool.eq_false_iff.mpr c10
        subst c10
        have H1 : (horariumref16_Days.l1 k2 l1 x5_1 x6_1 false (wrap64 (x8_2 + 1)) a0_0 a0_1 a0_2) = some r := by rw [if_neg (show ¬ (false = true) by decide)] at H; exact H
        clear H
        have H := H1
        clear H1
        have H' := zm H
        clear H
        try go_wp2
        have n0_ := zm (blk_drew BK214.out)
        have n1_ := zm (below_drew1 HB.out)
        clear BK214
        clear HB
        have BK214 := n0_
        have HB := n1_
        clear n0_ n1_
        have p215 : 0 ≤ (x8_2 : Int) := of_decide_eq_true (by first | (with_reducible assumption) | assumption)
        have q215 : x8_2 < (l1.length : Int) := of_decide_eq_true (by first | (with_reducible assumption) | assumption)
        obtain ⟨ad215, e215, hx215_0, hx215_1, hx215_2, hx215_3⟩ := at_T49 HR1.out x8_2 p215 q215
        have hw215_3 := hx215_3
        have hw215_2 := hx215_2
        have hw215_1 := hx215_1
        have hw215_0 := hx215_0
        cases e215
        (try (replace hx215_0 := (HB.out.cell (World.block_lt_of_cell? w _ hx215_0)).trans hx215_0))
        (try (replace hx215_1 := (HB.out.cell (World.block_lt_of_cell? w _ hx215_1)).trans hx215_1))
        (try (replace hx215_2 := (HB.out.cell (World.block_lt_of_cell? w _ hx215_2)).trans hx215_2))
        (try (replace hx215_3 := (HB.out.cell (World.block_lt_of_cell? w _ hx215_3)).trans hx215_3))
        replace p215 := eq_true p215
        replace q215 := eq_true q215
        refine start_ (n := 22) (S := fun w' => w'.cell? ⟨gb214, 0, none⟩ = some (.int .i64 a0_0) ∧ w'.cell? ⟨gb214, 1, none⟩ = some (.int .i64 a0_1) ∧ w'.cell? ⟨gb214, 2, none⟩ = some (.int .i64 a0_2) ∧ w'.cell? (ad215.add ((x8_2).toNat * 4)) = some (.int .u32 ((rd_T49 l1 x8_2).f0)) ∧ w'.cell? ⟨(ad215.add ((x8_2).toNat * 4)).block, (ad215.add ((x8_2).toNat * 4)).off + 1, none⟩ = some (.int .u8 ((rd_T49 l1 x8_2).f1)) ∧ w'.cell? ⟨(ad215.add ((x8_2).toNat * 4)).block, (ad215.add ((x8_2).toNat * 4)).off + 2, none⟩ = some (.int .i64 ((rd_T49 l1 x8_2).f2)) ∧ w'.cell? ⟨(ad215.add ((x8_2).toNat * 4)).block, (ad215.add ((x8_2).toNat * 4)).off + 3, none⟩ = some (.int .i64 ((rd_T49 l1 x8_2).f3))) (ds := []) #[false, false, false, false, false, false, false, false, false, false, false, false, false, false, false, false, false, false, false, false, false, false] (by kernel_rfl) rfl rfl ⟨(blk_cell BK214.out 0).trans rfl, (blk_cell BK214.out 1).trans rfl, (blk_cell BK214.out 2).trans rfl, ((HB.out.cell (World.block_lt_of_cell? w _ hw215_0)).trans hw215_0), ((HB.out.cell (World.block_lt_of_cell? w _ hw215_1)).trans hw215_1), ((HB.out.cell (World.block_lt_of_cell? w _ hw215_2)).trans hw215_2), ((HB.out.cell (World.block_lt_of_cell? w _ hw215_3)).trans hw215_3)⟩ (fun hHeld => ?_); refine with_tabW horariumref16_Days.tab9 horariumref16_Days.bits9 (fun HT_ HW_ => ?_)
        generalize wr.drew = w16 at BK214 HB hx215_0 hx215_1 hx215_2 hx215_3 hHeld ⊢
        refine zp 0 19 (v := ?_) (a' := ?_) (bm 22 1) HT_.out (by kernel_rfl) ?_ ?_ ?_; rotate_left; (focus intro w'; go_simp; with_reducible rfl); rotate_left; (focus simp only [Act.put, zs1, zs2, zs3, i64_w, i32_w]; rfl)
        refine zp 1 20 (v := ?_) (a' := ?_) (bm 22 3) HT_.out (by kernel_rfl) ?_ ?_ ?_; rotate_left; (focus intro w'; go_simp; with_reducible rfl); rotate_left; (focus simp only [Act.put, zs1, zs2, zs3, i64_w, i32_w]; rfl)
        refine zp 3 22 (v := ?_) (a' := ?_) (bm 22 11) HT_.out (by kernel_rfl) ?_ ?_ ?_; rotate_left; (focus intro w'; go_simp; with_reducible rfl); rotate_left; (focus simp only [Act.put, zs1, zs2, zs3, i64_w, i32_w]; rfl)
        refine zp 4 23 (v := ?_) (a' := ?_) (bm 22 27) HT_.out (by kernel_rfl) ?_ ?_ ?_; rotate_left; (focus intro w'; go_simp; with_reducible rfl); rotate_left; (focus simp only [Act.put, zs1, zs2, zs3, i64_w, i32_w]; rfl)
        refine zp 5 24 (v := ?_) (a' := ?_) (bm 22 59) HT_.out (by kernel_rfl) ?_ ?_ ?_; rotate_left; (focus intro w'; go_simp; with_reducible rfl); rotate_left; (focus simp only [Act.put, zs1, zs2, zs3, i64_w, i32_w]; rfl)
        refine take_ (i := 2) (N := some 21) (v := ?_) (a' := ?_) (bm 22 63) rfl rfl (take_ofW HT_.out HW_.out (by kernel_rfl)) (fun _ _ _ h => h) (Or.inl ⟨by rfl, ?_⟩) hHeld ?_ ?_; rotate_left; (focus rintro w' ⟨s0, s1, s2, s3, s4, s5, s6⟩; go_simp; with_reducible rfl); rotate_left; (focus simp only [Act.put, zs1, zs2, zs3, i64_w, i32_w]; rfl)
        refine take_ (i := 6) (N := some 25) (v := ?_) (a' := ?_) (bm 22 127) rfl rfl (take_ofW HT_.out HW_.out (by kernel_rfl)) (fun _ _ _ h => h) (Or.inl ⟨by rfl, ?_⟩) hHeld ?_ ?_; rotate_left; (focus rintro w' ⟨s0, s1, s2, s3, s4, s5, s6⟩; go_simp; with_reducible rfl); rotate_left; (focus simp only [Act.put, zs1, zs2, zs3, i64_w, i32_w]; rfl)
        refine one_ (i := 7) (N := some 26) (bm 22 255) rfl rfl (one_of HT_.out (by kernel_rfl)) (by decide) (fun K hK => ?_)
        refine goes_ Try.func33 (by kernel_rfl) rfl #[.agg #[.int .i64 a0_0, .int .i64 a0_1, .int .i64 a0_2], .agg #[.int .u32 ((rd_T49 l1 x8_2).f0), .int .u8 ((rd_T49 l1 x8_2).f1), .int .i64 ((rd_T49 l1 x8_2).f2), .int .i64 ((rd_T49 l1 x8_2).f3)]] (by rfl) rfl rfl (by (try simp only [zt1, zt2, zt3]) <;> rfl) ?_
        with_reducible refine (horariumref09_Right.calls k2 a0_0 a0_1 a0_2 ((rd_T49 l1 x8_2).f0) ((rd_T49 l1 x8_2).f1) ((rd_T49 l1 x8_2).f2) ((rd_T49 l1 x8_2).f3) false _ A9.out).mono ?_
        rintro e w17 ⟨rfl, hb⟩
        refine ⟨_, rfl, ?_⟩
        have n0_ := zm (blk_below (by apply_rules [BK214.out, zk1, zk2, zk3]) hb)
        have n1_ := zm (below_step (by apply_rules [HB.out, zb1, zb2, zb3, zb4, GE214.out]) hb)
        clear BK214
        clear HB
        have BK214 := n0_
        have HB := n1_
        clear n0_ n1_
        (try clear hb)
        (try clear hb2)
        (try clear hk)
        (try clear hi)
        refine hK.out _ _ ⟨(blk_cell BK214.out 0).trans rfl, (blk_cell BK214.out 1).trans rfl, (blk_cell BK214.out 2).trans rfl, ((HB.out.cell (World.block_lt_of_cell? w _ hw215_0)).trans hw215_0), ((HB.out.cell (World.block_lt_of_cell? w _ hw215_1)).trans hw215_1), ((HB.out.cell (World.block_lt_of_cell? w _ hw215_2)).trans hw215_2), ((HB.out.cell (World.block_lt_of_cell? w _ hw215_3)).trans hw215_3)⟩ (fun hHeld => ?_)
        clear hK K
        refine norm_ (a' := ?_) ?_ ?_
        rotate_left
        ·show Act.put _ (some 26) _ = _
         simp only [Act.put, zs1, zs2, zs3, i64_w, i32_w]
         rfl
        refine zp 8 27 (v := ?_) (a' := ?_) (bm 22 511) HT_.out (by kernel_rfl) ?_ ?_ ?_; rotate_left; (focus intro w'; go_simp; with_reducible rfl); rotate_left; (focus simp only [Act.put, zs1, zs2, zs3, i64_w, i32_w]; rfl)
        refine pure_ (i := 9) (N := some 28) (v := undef) (a' := ?_) (bm 22 1023) rfl rfl (any_of HT_.out (by kernel_rfl)) (fun _ _ _ h => h) (Or.inr ⟨by rfl, rfl⟩) ?_ ?_
        rotate_left
        ·simp only [Act.put, zs1, zs2, zs3, i64_w, i32_w]
         rfl
        refine pure_ (i := 10) (N := some 29) (v := undef) (a' := ?_) (bm 22 2047) rfl rfl (any_of HT_.out (by kernel_rfl)) (fun _ _ _ h => h) (Or.inr ⟨by rfl, rfl⟩) ?_ ?_
        rotate_left
        ·simp only [Act.put, zs1, zs2, zs3, i64_w, i32_w]
         rfl
        refine pure_ (i := 11) (N := some 30) (v := undef) (a' := ?_) (bm 22 4095) rfl rfl (any_of HT_.out (by kernel_rfl)) (fun _ _ _ h => h) (Or.inr ⟨by rfl, rfl⟩) ?_ ?_
        rotate_left
        ·simp only [Act.put, zs1, zs2, zs3, i64_w, i32_w]
         rfl
        refine pure_ (i := 12) (N := some 31) (v := undef) (a' := ?_) (bm 22 8191) rfl rfl (any_of HT_.out (by kernel_rfl)) (fun _ _ _ h => h) (Or.inr ⟨by rfl, rfl⟩) ?_ ?_
        rotate_left
        ·simp only [Act.put, zs1, zs2, zs3, i64_w, i32_w]
         rfl
        refine pure_ (i := 13) (N := some 32) (v := undef) (a' := ?_) (bm 22 16383) rfl rfl (any_of HT_.out (by kernel_rfl)) (fun _ _ _ h => h) (Or.inr ⟨by rfl, rfl⟩) ?_ ?_
        rotate_left
        ·simp only [Act.put, zs1, zs2, zs3, i64_w, i32_w]
         rfl
        refine pure_ (i := 14) (N := some 33) (v := undef) (a' := ?_) (bm 22 32767) rfl rfl (any_of HT_.out (by kernel_rfl)) (fun _ _ _ h => h) (Or.inr ⟨by rfl, rfl⟩) ?_ ?_
        rotate_left
        ·simp only [Act.put, zs1, zs2, zs3, i64_w, i32_w]
         rfl
        refine pure_ (i := 15) (N := some 34) (v := undef) (a' := ?_) (bm 22 65535) rfl rfl (any_of HT_.out (by kernel_rfl)) (fun _ _ _ h => h) (Or.inr ⟨by rfl, rfl⟩) ?_ ?_
        rotate_left
        ·simp only [Act.put, zs1, zs2, zs3, i64_w, i32_w]
         rfl
        refine pure_ (i := 16) (N := some 35) (v := undef) (a' := ?_) (bm 22 131071) rfl rfl (any_of HT_.out (by kernel_rfl)) (fun _ _ _ h => h) (Or.inr ⟨by rfl, rfl⟩) ?_ ?_
        rotate_left
        ·simp only [Act.put, zs1, zs2, zs3, i64_w, i32_w]
         rfl
        refine pure_ (i := 17) (N := some 36) (v := undef) (a' := ?_) (bm 22 262143) rfl rfl (any_of HT_.out (by kernel_rfl)) (fun _ _ _ h => h) (Or.inr ⟨by rfl, rfl⟩) ?_ ?_
        rotate_left
        ·simp only [Act.put, zs1, zs2, zs3, i64_w, i32_w]
         rfl
        refine pure_ (i := 18) (N := some 37) (v := undef) (a' := ?_) (bm 22 524287) rfl rfl (any_of HT_.out (by kernel_rfl)) (fun _ _ _ h => h) (Or.inr ⟨by rfl, rfl⟩) ?_ ?_
        rotate_left
        ·simp only [Act.put, zs1, zs2, zs3, i64_w, i32_w]
         rfl
        refine zp 19 38 (v := ?_) (a' := ?_) (bm 22 1048575) HT_.out (by kernel_rfl) ?_ ?_ ?_; rotate_left; (focus intro w'; go_simp; with_reducible rfl); rotate_left; (focus simp only [Act.put, zs1, zs2, zs3, i64_w, i32_w]; rfl)
        refine zp 20 39 (v := ?_) (a' := ?_) (bm 22 2097151) HT_.out (by kernel_rfl) ?_ ?_ ?_; rotate_left; (focus intro w'; go_simp; with_reducible rfl); rotate_left; (focus simp only [Act.put, zs1, zs2, zs3, i64_w, i32_w]; rfl)
        refine zp 21 7 (v := ?_) (a' := ?_) (bm 22 4194303) HT_.out (by kernel_rfl) ?_ ?_ ?_; rotate_left; (focus intro w'; go_simp; with_reducible rfl); rotate_left; (focus simp only [Act.put, zs1, zs2, zs3, i64_w, i32_w]; rfl)
        refine done_ (done_of HT_.out (by kernel_rfl)) ?_
        try go_wp2
        go_roundg k2
        case measure => have := HK1.out; have := HK2.out; omega
        case rel => exact ⟨(false), (wrap64 (x8_2 + 1)), (by first | rfl | (simp; done) | (simp [*]; done)), (by first | rfl | (simp; done) | (simp [*]; done)), H', ⟨by have := HK1.out; have := HK2.out; omega⟩, ⟨by (with_reducible repeat (first | refine blk_alloc ?_ _ | refine blk_drewN ?_ _ | refine blk_drew ?_)); exact BK214.out⟩, ⟨by apply_rules [HB.out, zb1, zb2, zb3, zb4, GE214.out]⟩⟩
       rw [if_neg c8] at H
       exact absurd H (by simp)
      rw [if_neg c5] at H
      have c5b0 : decide (x8_2 < (l1.length : Int)) = false := decide_eq_false c5
      clear c5
      by_cases c18 : x7_2 = true
      ·subst c18
       have H1 : (horariumref16_Days.l0 k2 l1 (wrap64 (x5_1 + 1)) (wrap64 (x6_1 + 1)) a0_0 a0_1 a0_2) = some r := by rw [if_pos rfl] at H; exact H
       clear H
       have H := H1
       clear H1
       have H' := zm H
       clear H
       go_wp2
       go_roundg k2
       case measure => have := HK1.out; have := HK2.out; omega
       case rel => exact ⟨(wrap64 (x5_1 + 1)), (wrap64 (x6_1 + 1)), (by first | rfl | (simp; done) | (simp [*]; done)), (by first | rfl | (simp; done) | (simp [*]; done)), H', ⟨by have := HK1.out; have := HK2.out; omega⟩, ⟨by (with_reducible repeat (first | refine blk_alloc ?_ _ | refine blk_drewN ?_ _ | refine blk_drew ?_)); exact BK214.out⟩, ⟨by apply_rules [HB.out, zb1, zb2, zb3, zb4, GE214.out]⟩⟩
      replace c18 := Bool.eq_false_iff.mpr c18
      subst c18
      have H1 : (horariumref16_Days.l0 k2 l1 x5_1 (wrap64 (x6_1 + 1)) a0_0 a0_1 a0_2) = some r := by rw [if_neg (show ¬ (false = true) by decide)] at H; exact H
      clear H
      have H := H1
      clear H1
      have H' := zm H
      clear H
      go_wp2
      go_roundg k2
      case measure => have := HK1.out; have := HK2.out; omega
      case rel => exact ⟨(x5_1), (wrap64 (x6_1 + 1)), (by first | rfl | (simp; done) | (simp [*]; done)), (by first | rfl | (simp; done) | (simp [*]; done)), H', ⟨by have := HK1.out; have := HK2.out; omega⟩, ⟨by (with_reducible repeat (first | refine blk_alloc ?_ _ | refine blk_drewN ?_ _ | refine blk_drew ?_)); exact BK214.out⟩, ⟨by apply_rules [HB.out, zb1, zb2, zb3, zb4, GE214.out]⟩⟩
   rw [if_neg c4] at H
   have c4b0 : decide (x6_1 < 7) = false := decide_eq_false c4
   clear c4
   obtain rfl := Option.some.inj H
   go_wp2
   go_ret
   exact ⟨by first | rfl | (simp [errW_none, errW_some] <;> rfl) | (simp [*, errW_none, errW_some] <;> rfl), by apply_rules [HB.out, zb1, zb2, zb3, zb4, GE214.out]⟩
end Go.Proofs.Ytlfnpakpkniipaa.Q
