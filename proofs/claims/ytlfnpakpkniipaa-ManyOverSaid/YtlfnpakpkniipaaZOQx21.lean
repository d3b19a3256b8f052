/- Words for the claim. -/
import Derived.Test.YtlfnpakpkniipaaZOWords
import Derived.Test.YtlfnpakpkniipaaZOQx0
import Derived.Test.YtlfnpakpkniipaaZOQx10
import Derived.Test.YtlfnpakpkniipaaZOQx13
import Derived.Test.YtlfnpakpkniipaaZOQx17
import Derived.Test.YtlfnpakpkniipaaZOQx20
namespace Go.Proofs.Ytlfnpakpkniipaa.Q
open Go.RowKit Go.Proofs.YtlfnpakpkniipaaW.PrintWords Go.Proofs.YtlfnpakpkniipaaW.PrintLast Go.Proofs.YtlfnpakpkniipaaW.PrintMore
attribute [local go_sem] max2_int min2_int max_two min_two max_three min_three max_four min_four
set_option linter.unusedVariables false
set_option linter.unusedSimpArgs false
mutual
def horariumref16_Over.l0 : Nat → Int → Int → Int → List (S49) → Int → List Int → Int → Int → Int → Int → Option (Int)
 | 0, _, _, _, _, _, _, _, _, _, _ => none
 | k + 1, x1, x2, x3, x4, x11, x12, x13, x356000, x356001, x356002 => if x13 < (x12.length : Int) then ((horariumref16_Blocks.f k x356000 x356001 x356002 x4 x13 x3).bind fun t360 => (if x1 = 22 then (if 0 ≤ x13 then (horariumref16_Over.j1 k x1 x2 x3 x4 (wrap64 (x11 + (mx (wrap64 ((rd x12 x13) - x2)) 0))) x12 x13 t360 x356000 x356001 x356002) else (none)) else (horariumref16_Over.j1 k x1 x2 x3 x4 x11 x12 x13 t360 x356000 x356001 x356002))) else (some x11)
def horariumref16_Over.j1 : Nat → Int → Int → Int → List (S49) → Int → List Int → Int → List (S25) → Int → Int → Int → Option (Int)
 | 0, _, _, _, _, _, _, _, _, _, _, _ => none
 | k + 1, x1, x2, x3, x4, x11, x12, x13, x14, x356000, x356001, x356002 => if x1 = 23 then (horariumref16_Over.j2 k x1 x2 x3 x4 (wrap64 (x11 + (mx (wrap64 ((wrap64 ((x14.length : Int) - 1)) - x2)) 0))) x12 x13 x14 x356000 x356001 x356002) else (horariumref16_Over.j2 k x1 x2 x3 x4 x11 x12 x13 x14 x356000 x356001 x356002)
def horariumref16_Over.j2 : Nat → Int → Int → Int → List (S49) → Int → List Int → Int → List (S25) → Int → Int → Int → Option (Int)
 | 0, _, _, _, _, _, _, _, _, _, _, _ => none
 | k + 1, x1, x2, x3, x4, x11, x12, x13, x14, x356000, x356001, x356002 => horariumref16_Over.l1 k x1 x2 x3 x4 x11 x12 x13 x14 0 x356000 x356001 x356002
def horariumref16_Over.l1 : Nat → Int → Int → Int → List (S49) → Int → List Int → Int → List (S25) → Int → Int → Int → Int → Option (Int)
 | 0, _, _, _, _, _, _, _, _, _, _, _, _ => none
 | k + 1, x1, x2, x3, x4, x11, x12, x13, x14, x15, x356000, x356001, x356002 => if x15 < (x14.length : Int) then (horariumref16_Over.j4 k x1 x2 x3 x4 x11 x12 x13 x14 x15 (x1 == 24) x356000 x356001 x356002) else (horariumref16_Over.j4 k x1 x2 x3 x4 x11 x12 x13 x14 x15 false x356000 x356001 x356002)
def horariumref16_Over.j4 : Nat → Int → Int → Int → List (S49) → Int → List Int → Int → List (S25) → Int → Bool → Int → Int → Int → Option (Int)
 | 0, _, _, _, _, _, _, _, _, _, _, _, _, _ => none
 | k + 1, x1, x2, x3, x4, x11, x12, x13, x14, x15, x68, x356000, x356001, x356002 => if x68 = true then (if 0 ≤ x15 then (if x15 < (x14.length : Int) then (if ((rd_T25 x14 x15).f1) > 1 then (if ((rd_T25 x14 x15).f0) > x2 then (horariumref16_Over.l1 k x1 x2 x3 x4 (wrap64 (x11 + 1)) x12 x13 x14 (wrap64 (x15 + 1)) x356000 x356001 x356002) else (horariumref16_Over.l1 k x1 x2 x3 x4 x11 x12 x13 x14 (wrap64 (x15 + 1)) x356000 x356001 x356002)) else (horariumref16_Over.l1 k x1 x2 x3 x4 x11 x12 x13 x14 (wrap64 (x15 + 1)) x356000 x356001 x356002)) else (none)) else (none)) else (horariumref16_Over.l0 k x1 x2 x3 x4 x11 x12 (wrap64 (x13 + 1)) x356000 x356001 x356002)
end
def horariumref16_Over.f (k : Nat) (a0_0 : Int) (a0_1 : Int) (a0_2 : Int) (a1 : Int) (a2 : Int) (a3 : Int) (l4 : List (S49)) : Option (Int) := if a1 = 21 then ((horariumref16_Days.f k a0_0 a0_1 a0_2 l4).bind fun t356 => (some (mx (wrap64 (t356 - (mx a2 0))) 0))) else ((horariumref12_Busy.f k a0_0 a0_1 a0_2 l4).bind fun t357 => (horariumref16_Over.l0 k a1 (mx a2 0) a3 l4 0 t357 0 a0_0 a0_1 a0_2))
set_option maxHeartbeats 8000000 in
set_option maxRecDepth 100000 in
theorem horariumref16_Over.calls (k : Nat) (a0_0 : Int) (a0_1 : Int) (a0_2 : Int) (a1 : Int) (a2 : Int) (a3 : Int) (A4 : Option Addr) (c4 : Nat) (l4 : List (S49)) (r : Int) (w : World) (hr4 : Kd.C k49 w A4 l4.length l4) (hc4 : l4.length ≤ c4) (h : horariumref16_Over.f k a0_0 a0_1 a0_2 a1 a2 a3 l4 = some r) :
  Calls Try.prog 22 #[.agg #[.int .i64 a0_0, .int .i64 a0_1, .int .i64 a0_2], .int .i64 a1, .int .i64 a2, .int .i64 a3, .slice A4 l4.length c4] w fun e w' => e = .returned (.int .i64 r) ∧ Below w.heap.size w w' := by
 have hu23 := Try.underlying23
 have HR4 := zm hr4
 have HC4 := zm hc4
 clear hr4 hc4
 have HB := zm (Below.refl w.heap.size w)
 have H : (if a1 = 21 then ((horariumref16_Days.f k a0_0 a0_1 a0_2 l4).bind fun t356 => (some (mx (wrap64 (t356 - (mx a2 0))) 0))) else ((horariumref12_Busy.f k a0_0 a0_1 a0_2 l4).bind fun t357 => (horariumref16_Over.l0 k a1 (mx a2 0) a3 l4 0 t357 0 a0_0 a0_1 a0_2))) = some r := h
 clear h
 obtain ⟨ji6, hji6⟩ : ∃ j_ : Int, (mx a2 0) = j_ := ⟨_, rfl⟩
 replace H : (if a1 = 21 then ((horariumref16_Days.f k a0_0 a0_1 a0_2 l4).bind fun t356 => (some (mx (wrap64 (t356 - (ji6))) 0))) else ((horariumref12_Busy.f k a0_0 a0_1 a0_2 l4).bind fun t357 => (horariumref16_Over.l0 k a1 ji6 a3 l4 0 t357 0 a0_0 a0_1 a0_2))) = some r := by first | (rw [hji6] at H; exact H) | (simp only [hji6] at H ⊢; exact H)
 (try (have hji6l : 0 ≤ ji6 := by (rw [← hji6]; unfold mx; (repeat' split) <;> omega)))
 (try (have hji6m : 0 ≤ ji6 := by omega))
 have hji6_ : (if a2 < 0 then 0 else a2) = ji6 := hji6
 by_cases c7 : a1 = 21
 ·rw [if_pos c7] at H
  have c7b0 : (a1 == 21) = true := beq_iff_eq.mpr c7
  have c7b1 : (a1 != 21) = false := bne_eq_false_iff_eq.mpr c7
  clear c7
  replace H := zo H
  obtain ⟨t356, A80, H⟩ := H
  have A8 := zm A80
  clear A80
  obtain ⟨ji9, hji9⟩ : ∃ j_ : Int, (mx (wrap64 (t356 - (ji6))) 0) = j_ := ⟨_, rfl⟩
  replace H : (some ji9) = some r := by first | (rw [hji9] at H; exact H) | (simp only [hji9] at H ⊢; exact H)
  (try rw [hji9] at A8)
  have hji9_ : (if (wrap64 (t356 - (ji6))) < 0 then 0 else (wrap64 (t356 - (ji6)))) = ji9 := hji9
  obtain rfl := Option.some.inj H
  go_enter Try.func22, Try.ntmps22
  go_wp2_with (first | ((with_reducible refine gate_dst (N := 5) rfl ?_); refine box_event ?hg (N := 5) ?hd (cs := #[.int .i64 a0_0, .int .i64 a0_1, .int .i64 a0_2]) (t := 23) ?hr ?_; (case hd => rfl); (case hg => rfl); (case hr => go_simp; try rfl); intro gb355 hg w10 hbox hb; have BK355 := zm (hbox); have GW355 := zm ((by rw [hg]; exact (below_size (by apply_rules [HB.out, zb1, zb2, zb3])) : w.heap.size ≤ gb355)); have GE355 := GW355; replace HB := zm (below_step (by apply_rules [HB.out, zb1, zb2, zb3]) hb); clear hb hbox hg; obtain ⟨hcz11_0, hcz11_1, hcz11_2, hfz11_0, hfz11_1, hfz11_2⟩ := zf3 BK355.out) | ((with_reducible refine gate_callee (f := 16) rfl ?_); refine goesL_ (some 22) rfl rfl Try.func16 (by kernel_rfl) rfl #[.agg #[.int .i64 a0_0, .int .i64 a0_1, .int .i64 a0_2], .slice A4 l4.length c4] rfl (by (try simp only [zt1, zt2, zt3]) <;> rfl) ?_; (with_reducible refine (horariumref16_Days.calls k a0_0 a0_1 a0_2 _ _ l4 t356 _ ?side1 ?side2 A8.out).mono ?_); (case side1 => apply_rules [Kd.C_below HR4.out HB.out, Kd.C_alloc, Kd.C_drewN, Kd.C_drew]); (case side2 => exact HC4.out); rintro e w12 ⟨rfl, hb⟩; refine ⟨_, rfl, ?_⟩; replace BK355 := zm (blk_below (by apply_rules [BK355.out, zk1, zk2, zk3]) hb); replace HB := zm (below_step (by apply_rules [HB.out, zb1, zb2, zb3, zb4, GE355.out]) hb); (try clear hb)))
  go_ret
  exact ⟨by first | rfl | (simp [errW_none, errW_some] <;> rfl) | (simp only [← hji6, ← hji9]; first | rfl | (simp [errW_none, errW_some] <;> rfl)) | (simp [*, errW_none, errW_some] <;> rfl), by apply_rules [HB.out, zb1, zb2, zb3, zb4, GE355.out]⟩
 rw [if_neg c7] at H
 have c7b0 : (a1 == 21) = false := beq_eq_false_iff_ne.mpr c7
 have c7b1 : (a1 != 21) = true := bne_iff_ne.mpr c7
 replace H := zo H
 obtain ⟨t357, A130, H⟩ := H
 have A13 := zm A130
 clear A130
 have H' := zm H
 clear H
 go_enter Try.func22, Try.ntmps22
 go_wp2_with (first | ((with_reducible refine gate_dst (N := 5) rfl ?_); refine box_event ?hg (N := 5) ?hd (cs := #[.int .i64 a0_0, .int .i64 a0_1, .int .i64 a0_2]) (t := 23) ?hr ?_; (case hd => rfl); (case hg => rfl); (case hr => go_simp; try rfl); intro gb355 hg w14 hbox hb; have BK355 := zm (hbox); have GW355 := zm ((by rw [hg]; exact (below_size (by apply_rules [HB.out, zb1, zb2, zb3])) : w.heap.size ≤ gb355)); have GE355 := GW355; replace HB := zm (below_step (by apply_rules [HB.out, zb1, zb2, zb3]) hb); clear hb hbox hg; obtain ⟨hcz15_0, hcz15_1, hcz15_2, hfz15_0, hfz15_1, hfz15_2⟩ := zf3 BK355.out) | ((with_reducible refine gate_callee (f := 41) rfl ?_); refine goesL_ (some 28) rfl rfl Try.func41 (by kernel_rfl) rfl #[.agg #[.int .i64 a0_0, .int .i64 a0_1, .int .i64 a0_2], .slice A4 l4.length c4] rfl (by (try simp only [zt1, zt2, zt3]) <;> rfl) ?_; (with_reducible refine (horariumref12_Busy.calls k a0_0 a0_1 a0_2 _ _ l4 t357 _ ?side1 ?side2 A13.out).mono ?_); (case side1 => apply_rules [Kd.C_below HR4.out HB.out, Kd.C_alloc, Kd.C_drewN, Kd.C_drew]); (case side2 => exact HC4.out); rintro e w16 ⟨v358, rfl, ho0, hb⟩; refine ⟨_, rfl, ?_⟩; have HO359 := zm (Kd.R_lower ho0 (below_size (by apply_rules [HB.out, zb1, zb2, zb3, zb4, GE355.out]))); replace BK355 := zm (blk_below (by apply_rules [BK355.out, zk1, zk2, zk3]) hb); replace HB := zm (below_step (by apply_rules [HB.out, zb1, zb2, zb3, zb4, GE355.out]) hb); (try clear hb); (try clear ho0)))
 go_loopg [11, 13] k (fun kq v11 v13 w' => ∃ (x11_1 : Int) (x13_1 : Int), v11 = .int .i64 x11_1 ∧ v13 = .int .i64 x13_1 ∧ Aside0 (horariumref16_Over.l0 kq a1 ji6 a3 l4 x11_1 t357 x13_1 a0_0 a0_1 a0_2 = some r) ∧ Aside0 (kq ≤ k) ∧ Aside0 (Kd.R (Kd.int .i64) 3 w' w.heap.size (fun _ => True) v358 t357) ∧ Aside0 (w'.heap[gb355]? = some (.cells #[.int .i64 a0_0, .int .i64 a0_1, .int .i64 a0_2] 23 (0, 0))) ∧ Aside0 (Below w.heap.size w w'))
 case atStart => exact ⟨(0), (0), (by first | rfl | (simp; done) | (simp [*]; done)), (by first | rfl | (simp; done) | (simp [*]; done)), H', ⟨Nat.le_refl _⟩, ⟨by (with_reducible repeat (first | apply Kd.R_alloc | apply Kd.R_drewN | apply Kd.R_drew)); exact HO359.out⟩, ⟨by (with_reducible repeat (first | refine blk_alloc ?_ _ | refine blk_drewN ?_ _ | refine blk_drew ?_)); exact BK355.out⟩, ⟨by apply_rules [HB.out, zb1, zb2, zb3, zb4, GE355.out]⟩⟩
 case round =>
  clear H'
  (try clear c1); (try clear c2); (try clear p2); (try clear c4); (try clear p6); (try clear c7); (try clear c7b0); (try clear c7b1); (try clear c16); (try clear hcz11_0); (try clear hcz11_1); (try clear hcz11_2); (try clear hcz15_0); (try clear hcz15_1); (try clear hcz15_2); (try clear hfz11_0); (try clear hfz11_1); (try clear hfz11_2); (try clear hfz15_0); (try clear hfz15_1); (try clear hfz15_2)
  obtain ⟨x11_1, x13_1, rfl, rfl, HA, HK1, HO_12, BK355, HB⟩ := hrel
  cases gk with
  | zero => exact absurd HA.out (by simp [horariumref16_Over.l0])
  | succ k1 =>
   have H := HA.out
   clear HA
   simp only [horariumref16_Over.l0] at H
   by_cases c17 : x13_1 < (t357.length : Int)
   ·rw [if_pos c17] at H
    have c17b0 : decide (x13_1 < (t357.length : Int)) = true := decide_eq_true c17
    clear c17
    replace H := zo H
    obtain ⟨t360, A180, H⟩ := H
    have A18 := zm A180
    clear A180
    have HC19 := zm H
    clear H
    obtain ⟨Ao20, co20, eo20⟩ := Kd.R_slice HO_12.out
    subst eo20
    obtain ⟨hcz21_0, hcz21_1, hcz21_2, hfz21_0, hfz21_1, hfz21_2⟩ := zf3 BK355.out
    go_upto_if 41 with (first | ((with_reducible refine gate_callee (f := 19) rfl ?_); refine goesL_ (some 39) rfl rfl Try.func19 (by kernel_rfl) rfl #[.agg #[.int .i64 a0_0, .int .i64 a0_1, .int .i64 a0_2], .slice A4 l4.length c4, .int .i64 x13_1, .int .i64 a3] rfl (by (try simp only [zt1, zt2, zt3]) <;> rfl) ?_; (with_reducible refine (horariumref16_Blocks.calls k1 a0_0 a0_1 a0_2 _ _ l4 x13_1 a3 t360 _ ?side1 ?side2 A18.out).mono ?_); (case side1 => apply_rules [Kd.C_below HR4.out HB.out, Kd.C_alloc, Kd.C_drewN, Kd.C_drew]); (case side2 => exact HC4.out); rintro e w22 ⟨v361, rfl, ho0, hb⟩; refine ⟨_, rfl, ?_⟩; replace HO_12 := zm (Kd.R_below (by apply_rules [HO_12.out, Kd.R_alloc, Kd.R_drewN, Kd.R_drew]) hb); have HO362 := zm (Kd.R_lower ho0 (below_size (by apply_rules [HB.out, zb1, zb2, zb3, zb4, GE355.out]))); replace BK355 := zm (blk_below (by apply_rules [BK355.out, zk1, zk2, zk3]) hb); replace HB := zm (below_step (by apply_rules [HB.out, zb1, zb2, zb3, zb4, GE355.out]) hb); (try clear hb); (try clear ho0)))
    (try simp only [Act.put, zs1, zs2, zs3])
    go_cut [11] (fun v11 wc => ∃ (kq : Nat) (x11_18 : Int), v11 = .int .i64 x11_18 ∧ Aside0 (horariumref16_Over.j1 kq a1 ji6 a3 l4 x11_18 t357 x13_1 t360 a0_0 a0_1 a0_2 = some r) ∧ Aside0 (kq ≤ k1) ∧ Aside0 (Kd.R (Kd.int .i64) 3 wc w.heap.size (fun _ => True) (.slice Ao20 t357.length co20) t357) ∧ Aside0 (Kd.R k25 25 wc w.heap.size (fun _ => True) v361 t360) ∧ Aside0 (wc.heap[gb355]? = some (.cells #[.int .i64 a0_0, .int .i64 a0_1, .int .i64 a0_2] 23 (0, 0))) ∧ Aside0 (Below w.heap.size w wc))
    case first =>
     have H := HC19.out
     clear HC19
     by_cases c23 : a1 = 22
     ·rw [if_pos c23] at H
      have c23b0 : (a1 == 22) = true := beq_iff_eq.mpr c23
      have c23b1 : (a1 != 22) = false := bne_eq_false_iff_eq.mpr c23
      clear c23
      (first | rw [c23b0] | (simp only [i64_w, i32_w]; rw [c23b0]) | skip)
      by_cases c24 : 0 ≤ x13_1
      ·rw [if_pos c24] at H
       have c24b0 : decide (0 ≤ x13_1) = true := decide_eq_true c24
       clear c24
       obtain ⟨ji25, hji25⟩ : ∃ j_ : Int, (mx (wrap64 ((rd t357 x13_1) - ji6)) 0) = j_ := ⟨_, rfl⟩
       replace H : (horariumref16_Over.j1 k1 a1 ji6 a3 l4 (wrap64 (x11_1 + (ji25))) t357 x13_1 t360 a0_0 a0_1 a0_2) = some r := by first | (rw [hji25] at H; exact H) | (simp only [hji25] at H ⊢; exact H)
       have hji25_ : (if (wrap64 ((rd t357 x13_1) - ji6)) < 0 then 0 else (wrap64 ((rd t357 x13_1) - ji6))) = ji25 := hji25
       have H' := zm H
       clear H
       have p363 : 0 ≤ (x13_1 : Int) := of_decide_eq_true (by first | (with_reducible assumption) | assumption)
       have q363 : x13_1 < (t357.length : Int) := of_decide_eq_true (by first | (with_reducible assumption) | assumption)
       obtain ⟨ad363, e363, hx363_0⟩ := Kd.at_int (Kd.R_reads' HO_12.out).2.2 x13_1 p363 q363
       cases e363
       replace p363 := eq_true p363
       replace q363 := eq_true q363
       go_wp2
       go_meet
       case rel => exact ⟨_, (wrap64 (x11_1 + (ji25))), (by first | rfl | (simp; done) | (simp only [← hji25] <;> (first | rfl | simp)) | (simp [*]; done)), H', ⟨by have := HK1.out; first | omega | exact Nat.le_refl _⟩, ⟨by (with_reducible repeat (first | apply Kd.R_alloc | apply Kd.R_drewN | apply Kd.R_drew)); exact HO_12.out⟩, ⟨by (with_reducible repeat (first | apply Kd.R_alloc | apply Kd.R_drewN | apply Kd.R_drew)); exact HO362.out⟩, ⟨by (with_reducible repeat (first | refine blk_alloc ?_ _ | refine blk_drewN ?_ _ | refine blk_drew ?_)); exact BK355.out⟩, ⟨by apply_rules [HB.out, zb1, zb2, zb3, zb4, GE355.out]⟩⟩
      rw [if_neg c24] at H
      exact absurd H (by simp)
     rw [if_neg c23] at H
     have c23b0 : (a1 == 22) = false := beq_eq_false_iff_ne.mpr c23
     have c23b1 : (a1 != 22) = true := bne_iff_ne.mpr c23
     (first | rw [c23b0] | (simp only [i64_w, i32_w]; rw [c23b0]) | skip)
     have H' := zm H
     clear H
     go_wp2
     go_meet
     case rel => exact ⟨_, (x11_1), (by first | rfl | (simp; done) | (simp [*]; done)), H', ⟨by have := HK1.out; first | omega | exact Nat.le_refl _⟩, ⟨by (with_reducible repeat (first | apply Kd.R_alloc | apply Kd.R_drewN | apply Kd.R_drew)); exact HO_12.out⟩, ⟨by (with_reducible repeat (first | apply Kd.R_alloc | apply Kd.R_drewN | apply Kd.R_drew)); exact HO362.out⟩, ⟨by (with_reducible repeat (first | refine blk_alloc ?_ _ | refine blk_drewN ?_ _ | refine blk_drew ?_)); exact BK355.out⟩, ⟨by apply_rules [HB.out, zb1, zb2, zb3, zb4, GE355.out]⟩⟩
    case rest =>
     clear HC19
     (try clear c1); (try clear c2); (try clear p2); (try clear p3); (try clear q3); (try clear hx3); (try clear c4); (try clear p6); (try clear c7); (try clear c7b0); (try clear c7b1); (try clear c16); (try clear c17); (try clear c17b0); (try clear c19); (try clear c22); (try clear c23); (try clear c23b0); (try clear c23b1); (try clear c24); (try clear c24b0); (try clear hcz11_0); (try clear hcz11_1)
     (try clear hcz11_2); (try clear hcz15_0); (try clear hcz15_1); (try clear hcz15_2); (try clear hcz21_0); (try clear hcz21_1); (try clear hcz21_2); (try clear hfz11_0); (try clear hfz11_1); (try clear hfz11_2); (try clear hfz15_0); (try clear hfz15_1); (try clear hfz15_2); (try clear hfz21_0); (try clear hfz21_1); (try clear hfz21_2); (try clear hx363_0); (try clear p2); (try clear p363); (try clear p6)
     try clear q363
     obtain ⟨kq, x11_18, rfl, HA, HJ18, HO_12, HO_14, BK355, HB⟩ := hcut
     cases kq with
     | zero => exact absurd HA.out (by simp [horariumref16_Over.j1])
     | succ kj18 =>
      have H := HA.out
      clear HA
      simp only [horariumref16_Over.j1] at H
      have HC26 := zm H
      clear H
      go_upto_if 52 with (fail)
      go_cut [11] (fun v11 wc => ∃ (kq : Nat) (x11_25 : Int), v11 = .int .i64 x11_25 ∧ Aside0 (horariumref16_Over.j2 kq a1 ji6 a3 l4 x11_25 t357 x13_1 t360 a0_0 a0_1 a0_2 = some r) ∧ Aside0 (kq ≤ kj18) ∧ Aside0 (Kd.R (Kd.int .i64) 3 wc w.heap.size (fun _ => True) (.slice Ao20 t357.length co20) t357) ∧ Aside0 (Kd.R k25 25 wc w.heap.size (fun _ => True) v361 t360) ∧ Aside0 (wc.heap[gb355]? = some (.cells #[.int .i64 a0_0, .int .i64 a0_1, .int .i64 a0_2] 23 (0, 0))) ∧ Aside0 (Below w.heap.size w wc))
      case first =>
       have H := HC26.out
       clear HC26
       by_cases c27 : a1 = 23
       ·rw [if_pos c27] at H
        have c27b0 : (a1 == 23) = true := beq_iff_eq.mpr c27
        have c27b1 : (a1 != 23) = false := bne_eq_false_iff_eq.mpr c27
        clear c27
        (first | rw [c27b0] | (simp only [i64_w, i32_w]; rw [c27b0]) | skip)
        obtain ⟨ji28, hji28⟩ : ∃ j_ : Int, (mx (wrap64 ((wrap64 ((t360.length : Int) - 1)) - ji6)) 0) = j_ := ⟨_, rfl⟩
        replace H : (horariumref16_Over.j2 kj18 a1 ji6 a3 l4 (wrap64 (x11_18 + (ji28))) t357 x13_1 t360 a0_0 a0_1 a0_2) = some r := by first | (rw [hji28] at H; exact H) | (simp only [hji28] at H ⊢; exact H)
        have hji28_ : (if (wrap64 ((wrap64 ((t360.length : Int) - 1)) - ji6)) < 0 then 0 else (wrap64 ((wrap64 ((t360.length : Int) - 1)) - ji6))) = ji28 := hji28
        have H' := zm H
        clear H
        obtain ⟨Ao29, co29, eo29⟩ := Kd.R_slice HO_14.out
        subst eo29
        go_wp2
        go_meet
        case rel => exact ⟨_, (wrap64 (x11_18 + (ji28))), (by first | rfl | (simp; done) | (simp only [← hji28] <;> (first | rfl | simp)) | (simp [*]; done)), H', ⟨by have := HK1.out; have := HJ18.out; first | omega | exact Nat.le_refl _⟩, ⟨by (with_reducible repeat (first | apply Kd.R_alloc | apply Kd.R_drewN | apply Kd.R_drew)); exact HO_12.out⟩, ⟨by (with_reducible repeat (first | apply Kd.R_alloc | apply Kd.R_drewN | apply Kd.R_drew)); exact HO_14.out⟩, ⟨by (with_reducible repeat (first | refine blk_alloc ?_ _ | refine blk_drewN ?_ _ | refine blk_drew ?_)); exact BK355.out⟩, ⟨by apply_rules [HB.out, zb1, zb2, zb3, zb4, GE355.out]⟩⟩
       rw [if_neg c27] at H
       have c27b0 : (a1 == 23) = false := beq_eq_false_iff_ne.mpr c27
       have c27b1 : (a1 != 23) = true := bne_iff_ne.mpr c27
       (first | rw [c27b0] | (simp only [i64_w, i32_w]; rw [c27b0]) | skip)
       have H' := zm H
       clear H
       go_wp2
       go_meet
       case rel => exact ⟨_, (x11_18), (by first | rfl | (simp; done) | (simp [*]; done)), H', ⟨by have := HK1.out; have := HJ18.out; first | omega | exact Nat.le_refl _⟩, ⟨by (with_reducible repeat (first | apply Kd.R_alloc | apply Kd.R_drewN | apply Kd.R_drew)); exact HO_12.out⟩, ⟨by (with_reducible repeat (first | apply Kd.R_alloc | apply Kd.R_drewN | apply Kd.R_drew)); exact HO_14.out⟩, ⟨by (with_reducible repeat (first | refine blk_alloc ?_ _ | refine blk_drewN ?_ _ | refine blk_drew ?_)); exact BK355.out⟩, ⟨by apply_rules [HB.out, zb1, zb2, zb3, zb4, GE355.out]⟩⟩
      case rest =>
       clear HC26
       (try clear c1); (try clear c2); (try clear p2); (try clear p3); (try clear q3); (try clear hx3); (try clear c4); (try clear p6); (try clear c7); (try clear c7b0); (try clear c7b1); (try clear c16); (try clear c17); (try clear c17b0); (try clear c19); (try clear c22); (try clear c23); (try clear c23b0); (try clear c23b1); (try clear c24); (try clear c24b0); (try clear c27); (try clear c27b0)
       (try clear c27b1); (try clear hcz11_0); (try clear hcz11_1); (try clear hcz11_2); (try clear hcz15_0); (try clear hcz15_1); (try clear hcz15_2); (try clear hcz21_0); (try clear hcz21_1); (try clear hcz21_2); (try clear hfz11_0); (try clear hfz11_1); (try clear hfz11_2); (try clear hfz15_0); (try clear hfz15_1); (try clear hfz15_2); (try clear hfz21_0); (try clear hfz21_1); (try clear hfz21_2)
       (try clear hx363_0); (try clear p2); (try clear p3); (try clear p363); (try clear p6); (try clear q3); (try clear q363)
       obtain ⟨kq, x11_25, rfl, HA, HJ25, HO_12, HO_14, BK355, HB⟩ := hcut
       cases kq with
       | zero => exact absurd HA.out (by simp [horariumref16_Over.j2])
       | succ kj25 =>
        have H := HA.out
        clear HA
        simp only [horariumref16_Over.j2] at H
        have H' := zm H
        clear H
        go_wp2
        go_loopg [11, 15] kj25 (fun kq v11 v15 w' => ∃ (x11_4 : Int) (x15_4 : Int), v11 = .int .i64 x11_4 ∧ v15 = .int .i64 x15_4 ∧ Aside0 (horariumref16_Over.l1 kq a1 ji6 a3 l4 x11_4 t357 x13_1 t360 x15_4 a0_0 a0_1 a0_2 = some r) ∧ Aside0 (kq ≤ kj25) ∧ Aside0 (Kd.R (Kd.int .i64) 3 w' w.heap.size (fun _ => True) (.slice Ao20 t357.length co20) t357) ∧ Aside0 (Kd.R k25 25 w' w.heap.size (fun _ => True) v361 t360) ∧ Aside0 (w'.heap[gb355]? = some (.cells #[.int .i64 a0_0, .int .i64 a0_1, .int .i64 a0_2] 23 (0, 0))) ∧ Aside0 (Below w.heap.size w w'))
        case atStart => exact ⟨(x11_25), (0), (by first | rfl | (simp; done) | (simp [*]; done)), (by first | rfl | (simp; done) | (simp [*]; done)), H', ⟨Nat.le_refl _⟩, ⟨by (with_reducible repeat (first | apply Kd.R_alloc | apply Kd.R_drewN | apply Kd.R_drew)); exact HO_12.out⟩, ⟨by (with_reducible repeat (first | apply Kd.R_alloc | apply Kd.R_drewN | apply Kd.R_drew)); exact HO_14.out⟩, ⟨by (with_reducible repeat (first | refine blk_alloc ?_ _ | refine blk_drewN ?_ _ | refine blk_drew ?_)); exact BK355.out⟩, ⟨by apply_rules [HB.out, zb1, zb2, zb3, zb4, GE355.out]⟩⟩
        case round =>
         clear H'
         (try clear c1); (try clear c2); (try clear p2); (try clear p3); (try clear q3); (try clear hx3); (try clear c4); (try clear p6); (try clear c7); (try clear c7b0); (try clear c7b1); (try clear c16); (try clear c17); (try clear c17b0); (try clear c19); (try clear c22); (try clear c23); (try clear c23b0); (try clear c23b1); (try clear c24); (try clear c24b0); (try clear c27); (try clear c27b0)
         (try clear c27b1); (try clear hcz11_0); (try clear hcz11_1); (try clear hcz11_2); (try clear hcz15_0); (try clear hcz15_1); (try clear hcz15_2); (try clear hcz21_0); (try clear hcz21_1); (try clear hcz21_2); (try clear hfz11_0); (try clear hfz11_1); (try clear hfz11_2); (try clear hfz15_0); (try clear hfz15_1); (try clear hfz15_2); (try clear hfz21_0); (try clear hfz21_1); (try clear hfz21_2)
         (try clear hx363_0); (try clear p2); (try clear p3); (try clear p363); (try clear p6); (try clear q3); (try clear q363)
         obtain ⟨x11_4, x15_4, rfl, rfl, HA, HK4, HO_12, HO_14, BK355, HB⟩ := hrel
         cases gk with
         | zero => exact absurd HA.out (by simp [horariumref16_Over.l1])
         | succ k4 =>
          have H := HA.out
          clear HA
          simp only [horariumref16_Over.l1] at H
          have HC30 := zm H
          clear H
          go_upto_region 15 with (fail)
          go_cut [68] (fun v68 wc => ∃ (kq : Nat) (x68_29 : Bool), v68 = .bool x68_29 ∧ Aside0 (horariumref16_Over.j4 kq a1 ji6 a3 l4 x11_4 t357 x13_1 t360 x15_4 x68_29 a0_0 a0_1 a0_2 = some r) ∧ Aside0 (kq ≤ k4) ∧ Aside0 (Kd.R (Kd.int .i64) 3 wc w.heap.size (fun _ => True) (.slice Ao20 t357.length co20) t357) ∧ Aside0 (Kd.R k25 25 wc w.heap.size (fun _ => True) v361 t360) ∧ Aside0 (wc.heap[gb355]? = some (.cells #[.int .i64 a0_0, .int .i64 a0_1, .int .i64 a0_2] 23 (0, 0))) ∧ Aside0 (Below w.heap.size w wc))
          case first =>
           have H := HC30.out
           clear HC30
           by_cases c31 : x15_4 < (t360.length : Int)
           ·rw [if_pos c31] at H
            have c31b0 : decide (x15_4 < (t360.length : Int)) = true := decide_eq_true c31
            clear c31
            (first | rw [c31b0] | (simp only [i64_w, i32_w]; rw [c31b0]) | skip)
            have H' := zm H
            clear H
            obtain ⟨Ao32, co32, eo32⟩ := Kd.R_slice HO_14.out
            subst eo32
            go_wp2
            go_meet
            case rel => exact ⟨_, ((a1 == 24)), (by first | rfl | (simp; done) | (simp [*]; done)), H', ⟨by have := HK1.out; have := HJ18.out; have := HJ25.out; have := HK4.out; first | omega | exact Nat.le_refl _⟩, ⟨by (with_reducible repeat (first | apply Kd.R_alloc | apply Kd.R_drewN | apply Kd.R_drew)); exact HO_12.out⟩, ⟨by (with_reducible repeat (first | apply Kd.R_alloc | apply Kd.R_drewN | apply Kd.R_drew)); exact HO_14.out⟩, ⟨by (with_reducible repeat (first | refine blk_alloc ?_ _ | refine blk_drewN ?_ _ | refine blk_drew ?_)); exact BK355.out⟩, ⟨by apply_rules [HB.out, zb1, zb2, zb3, zb4, GE355.out]⟩⟩
           rw [if_neg c31] at H
           have c31b0 : decide (x15_4 < (t360.length : Int)) = false := decide_eq_false c31
           clear c31
           (first | rw [c31b0] | (simp only [i64_w, i32_w]; rw [c31b0]) | skip)
           have H' := zm H
           clear H
           obtain ⟨Ao33, co33, eo33⟩ := Kd.R_slice HO_14.out
           subst eo33
           go_wp2
           go_meet
           case rel => exact ⟨_, (false), (by first | rfl | (simp; done) | (simp [*]; done)), H', ⟨by have := HK1.out; have := HJ18.out; have := HJ25.out; have := HK4.out; first | omega | exact Nat.le_refl _⟩, ⟨by (with_reducible repeat (first | apply Kd.R_alloc | apply Kd.R_drewN | apply Kd.R_drew)); exact HO_12.out⟩, ⟨by (with_reducible repeat (first | apply Kd.R_alloc | apply Kd.R_drewN | apply Kd.R_drew)); exact HO_14.out⟩, ⟨by (with_reducible repeat (first | refine blk_alloc ?_ _ | refine blk_drewN ?_ _ | refine blk_drew ?_)); exact BK355.out⟩, ⟨by apply_rules [HB.out, zb1, zb2, zb3, zb4, GE355.out]⟩⟩
          case rest =>
           clear HC30
           (try clear c1); (try clear c2); (try clear p2); (try clear c3); (try clear p3); (try clear q3); (try clear hx3); (try clear c4); (try clear p6); (try clear c7); (try clear c7b0); (try clear c7b1); (try clear c16); (try clear c17); (try clear c17b0); (try clear c19); (try clear c22); (try clear c23); (try clear c23b0); (try clear c23b1); (try clear c24); (try clear c24b0); (try clear c27)
           (try clear c27b0); (try clear c27b1); (try clear c31); (try clear c31b0); (try clear hcz11_0); (try clear hcz11_1); (try clear hcz11_2); (try clear hcz15_0); (try clear hcz15_1); (try clear hcz15_2); (try clear hcz21_0); (try clear hcz21_1); (try clear hcz21_2); (try clear hfz11_0); (try clear hfz11_1); (try clear hfz11_2); (try clear hfz15_0); (try clear hfz15_1); (try clear hfz15_2); (try clear hfz21_0)
           (try clear hfz21_1); (try clear hfz21_2); (try clear hx363_0); (try clear p2); (try clear p3); (try clear p363); (try clear p6); (try clear q3); (try clear q363)
           obtain ⟨kq, x68_29, rfl, HA, HJ29, HO_12, HO_14, BK355, HB⟩ := hcut
           cases kq with
           | zero => exact absurd HA.out (by simp [horariumref16_Over.j4])
           | succ kj29 =>
            have H := HA.out
            clear HA
            simp only [horariumref16_Over.j4] at H
            by_cases c34 : x68_29 = true
            ·subst c34
             have H1 : (if 0 ≤ x15_4 then (if x15_4 < (t360.length : Int) then (if ((rd_T25 t360 x15_4).f1) > 1 then (if ((rd_T25 t360 x15_4).f0) > ji6 then (horariumref16_Over.l1 kj29 a1 ji6 a3 l4 (wrap64 (x11_4 + 1)) t357 x13_1 t360 (wrap64 (x15_4 + 1)) a0_0 a0_1 a0_2) else (horariumref16_Over.l1 kj29 a1 ji6 a3 l4 x11_4 t357 x13_1 t360 (wrap64 (x15_4 + 1)) a0_0 a0_1 a0_2)) else (horariumref16_Over.l1 kj29 a1 ji6 a3 l4 x11_4 t357 x13_1 t360 (wrap64 (x15_4 + 1)) a0_0 a0_1 a0_2)) else (none)) else (none)) = some r := by rw [if_pos rfl] at H; exact H
             clear H
             have H := H1
             clear H1
             by_cases c35 : 0 ≤ x15_4
             ·rw [if_pos c35] at H
              have c35b0 : decide (0 ≤ x15_4) = true := decide_eq_true c35
              clear c35
              by_cases c36 : x15_4 < (t360.length : Int)
              ·rw [if_pos c36] at H
               have c36b0 : decide (x15_4 < (t360.length : Int)) = true := decide_eq_true c36
               clear c36
               by_cases c37 : ((rd_T25 t360 x15_4).f1) > 1
               ·rw [if_pos c37] at H
                have c37b0 : decide (1 < ((rd_T25 t360 x15_4).f1)) = true := decide_eq_true c37
                clear c37
                by_cases c38 : ((rd_T25 t360 x15_4).f0) > ji6
                ·rw [if_pos c38] at H
                 have c38b0 : decide (ji6 < ((rd_T25 t360 x15_4).f0)) = true := decide_eq_true c38
                 clear c38
                 have H' := zm H
                 clear H
                 obtain ⟨Ao39, co39, eo39⟩ := Kd.R_slice HO_14.out
                 subst eo39
                 have p364 : 0 ≤ (x15_4 : Int) := of_decide_eq_true (by first | (with_reducible assumption) | assumption)
                 have q364 : x15_4 < (t360.length : Int) := of_decide_eq_true (by first | (with_reducible assumption) | assumption)
                 obtain ⟨ad364, e364, hx364_0, hx364_1⟩ := at_T25 (Kd.R_reads' HO_14.out).2.2 x15_4 p364 q364
                 cases e364
                 replace p364 := eq_true p364
                 replace q364 := eq_true q364
                 have p365 : 0 ≤ (x15_4 : Int) := of_decide_eq_true (by first | (with_reducible assumption) | assumption)
                 have q365 : x15_4 < (t360.length : Int) := of_decide_eq_true (by first | (with_reducible assumption) | assumption)
                 obtain ⟨ad365, e365, hx365_0, hx365_1⟩ := at_T25 (Kd.R_reads' HO_14.out).2.2 x15_4 p365 q365
                 obtain rfl : ad364 = ad365 := (by injection e365)
                 replace p365 := eq_true p365
                 replace q365 := eq_true q365
                 go_wp2
                 go_roundg kj29
                 case measure => have := HK1.out; have := HJ18.out; have := HJ25.out; have := HK4.out; have := HJ29.out; omega
                 case rel => exact ⟨(wrap64 (x11_4 + 1)), (wrap64 (x15_4 + 1)), (by first | rfl | (simp; done) | (simp [*]; done)), (by first | rfl | (simp; done) | (simp [*]; done)), H', ⟨by have := HK1.out; have := HJ18.out; have := HJ25.out; have := HK4.out; have := HJ29.out; omega⟩, ⟨by (with_reducible repeat (first | apply Kd.R_alloc | apply Kd.R_drewN | apply Kd.R_drew)); exact HO_12.out⟩, ⟨by (with_reducible repeat (first | apply Kd.R_alloc | apply Kd.R_drewN | apply Kd.R_drew)); exact HO_14.out⟩, ⟨by (with_reducible repeat (first | refine blk_alloc ?_ _ | refine blk_drewN ?_ _ | refine blk_drew ?_)); exact BK355.out⟩, ⟨by apply_rules [HB.out, zb1, zb2, zb3, zb4, GE355.out]⟩⟩
                rw [if_neg c38] at H
                have c38b0 : decide (ji6 < ((rd_T25 t360 x15_4).f0)) = false := decide_eq_false c38
                clear c38
                have H' := zm H
                clear H
                obtain ⟨Ao40, co40, eo40⟩ := Kd.R_slice HO_14.out
                subst eo40
                have p364 : 0 ≤ (x15_4 : Int) := of_decide_eq_true (by first | (with_reducible assumption) | assumption)
                have q364 : x15_4 < (t360.length : Int) := of_decide_eq_true (by first | (with_reducible assumption) | assumption)
                obtain ⟨ad364, e364, hx364_0, hx364_1⟩ := at_T25 (Kd.R_reads' HO_14.out).2.2 x15_4 p364 q364
                cases e364
                replace p364 := eq_true p364
                replace q364 := eq_true q364
                have p365 : 0 ≤ (x15_4 : Int) := of_decide_eq_true (by first | (with_reducible assumption) | assumption)
                have q365 : x15_4 < (t360.length : Int) := of_decide_eq_true (by first | (with_reducible assumption) | assumption)
                obtain ⟨ad365, e365, hx365_0, hx365_1⟩ := at_T25 (Kd.R_reads' HO_14.out).2.2 x15_4 p365 q365
                obtain rfl : ad364 = ad365 := (by injection e365)
                replace p365 := eq_true p365
                replace q365 := eq_true q365
                go_wp2
                go_roundg kj29
                case measure => have := HK1.out; have := HJ18.out; have := HJ25.out; have := HK4.out; have := HJ29.out; omega
                case rel => exact ⟨(x11_4), (wrap64 (x15_4 + 1)), (by first | rfl | (simp; done) | (simp [*]; done)), (by first | rfl | (simp; done) | (simp [*]; done)), H', ⟨by have := HK1.out; have := HJ18.out; have := HJ25.out; have := HK4.out; have := HJ29.out; omega⟩, ⟨by (with_reducible repeat (first | apply Kd.R_alloc | apply Kd.R_drewN | apply Kd.R_drew)); exact HO_12.out⟩, ⟨by (with_reducible repeat (first | apply Kd.R_alloc | apply Kd.R_drewN | apply Kd.R_drew)); exact HO_14.out⟩, ⟨by (with_reducible repeat (first | refine blk_alloc ?_ _ | refine blk_drewN ?_ _ | refine blk_drew ?_)); exact BK355.out⟩, ⟨by apply_rules [HB.out, zb1, zb2, zb3, zb4, GE355.out]⟩⟩
               rw [if_neg c37] at H
               have c37b0 : decide (1 < ((rd_T25 t360 x15_4).f1)) = false := decide_eq_false c37
               clear c37
               have H' := zm H
               clear H
               obtain ⟨Ao41, co41, eo41⟩ := Kd.R_slice HO_14.out
               subst eo41
               have p364 : 0 ≤ (x15_4 : Int) := of_decide_eq_true (by first | (with_reducible assumption) | assumption)
               have q364 : x15_4 < (t360.length : Int) := of_decide_eq_true (by first | (with_reducible assumption) | assumption)
               obtain ⟨ad364, e364, hx364_0, hx364_1⟩ := at_T25 (Kd.R_reads' HO_14.out).2.2 x15_4 p364 q364
               cases e364
               replace p364 := eq_true p364
               replace q364 := eq_true q364
               go_wp2
               go_roundg kj29
               case measure => have := HK1.out; have := HJ18.out; have := HJ25.out; have := HK4.out; have := HJ29.out; omega
               case rel => exact ⟨(x11_4), (wrap64 (x15_4 + 1)), (by first | rfl | (simp; done) | (simp [*]; done)), (by first | rfl | (simp; done) | (simp [*]; done)), H', ⟨by have := HK1.out; have := HJ18.out; have := HJ25.out; have := HK4.out; have := HJ29.out; omega⟩, ⟨by (with_reducible repeat (first | apply Kd.R_alloc | apply Kd.R_drewN | apply Kd.R_drew)); exact HO_12.out⟩, ⟨by (with_reducible repeat (first | apply Kd.R_alloc | apply Kd.R_drewN | apply Kd.R_drew)); exact HO_14.out⟩, ⟨by (with_reducible repeat (first | refine blk_alloc ?_ _ | refine blk_drewN ?_ _ | refine blk_drew ?_)); exact BK355.out⟩, ⟨by apply_rules [HB.out, zb1, zb2, zb3, zb4, GE355.out]⟩⟩
              rw [if_neg c36] at H
              exact absurd H (by simp)
             rw [if_neg c35] at H
             exact absurd H (by simp)
            replace c34 := Bool.eq_false_iff.mpr c34
            subst c34
            have H1 : (horariumref16_Over.l0 kj29 a1 ji6 a3 l4 x11_4 t357 (wrap64 (x13_1 + 1)) a0_0 a0_1 a0_2) = some r := by rw [if_neg (show ¬ (false = true) by decide)] at H; exact H
            clear H
            have H := H1
            clear H1
            have H' := zm H
            clear H
            go_wp2
            go_roundg kj29
            case measure => have := HK1.out; have := HJ18.out; have := HJ25.out; have := HK4.out; have := HJ29.out; omega
            case rel => exact ⟨(x11_4), (wrap64 (x13_1 + 1)), (by first | rfl | (simp; done) | (simp [*]; done)), (by first | rfl | (simp; done) | (simp [*]; done)), H', ⟨by have := HK1.out; have := HJ18.out; have := HJ25.out; have := HK4.out; have := HJ29.out; omega⟩, ⟨by (with_reducible repeat (first | apply Kd.R_alloc | apply Kd.R_drewN | apply Kd.R_drew)); exact HO_12.out⟩, ⟨by (with_reducible repeat (first | refine blk_alloc ?_ _ | refine blk_drewN ?_ _ | refine blk_drew ?_)); exact BK355.out⟩, ⟨by apply_rules [HB.out, zb1, zb2, zb3, zb4, GE355.out]⟩⟩
   rw [if_neg c17] at H
   have c17b0 : decide (x13_1 < (t357.length : Int)) = false := decide_eq_false c17
   clear c17
   obtain rfl := Option.some.inj H
   obtain ⟨Ao42, co42, eo42⟩ := Kd.R_slice HO_12.out
   subst eo42
   go_wp2
   go_ret
   exact ⟨by first | rfl | (simp [errW_none, errW_some] <;> rfl) | (simp only [← hji6]; first | rfl | (simp [errW_none, errW_some] <;> rfl)) | (simp [*, errW_none, errW_some] <;> rfl), by apply_rules [HB.out, zb1, zb2, zb3, zb4, GE355.out]⟩
def horariumref16_Broken.f (k : Nat) (a0_0 : Int) (a0_1 : Int) (a0_2 : Int) (a1 : Int) (a2 : Int) (a3 : Int) (l4 : List (S49)) (a5 : Bool) : Option (Bool) := if a5 = true then ((horariumref16_Over.f k a0_0 a0_1 a0_2 a1 a2 a3 l4).bind fun t367 => (some (decide (t367 > 0)))) else (if a1 = 23 then (some false) else ((horariumref16_Over.f k a0_0 a0_1 a0_2 a1 a2 a3 l4).bind fun t368 => (some (decide (t368 > 0)))))
set_option maxHeartbeats 8000000 in
set_option maxRecDepth 100000 in
theorem horariumref16_Broken.calls (k : Nat) (a0_0 : Int) (a0_1 : Int) (a0_2 : Int) (a1 : Int) (a2 : Int) (a3 : Int) (A4 : Option Addr) (c4 : Nat) (l4 : List (S49)) (a5 : Bool) (r : Bool) (w : World) (hr4 : Kd.C k49 w A4 l4.length l4) (hc4 : l4.length ≤ c4) (h : horariumref16_Broken.f k a0_0 a0_1 a0_2 a1 a2 a3 l4 a5 = some r) :
  Calls Try.prog 24 #[.agg #[.int .i64 a0_0, .int .i64 a0_1, .int .i64 a0_2], .int .i64 a1, .int .i64 a2, .int .i64 a3, .slice A4 l4.length c4, .bool a5] w fun e w' => e = .returned (.bool r) ∧ Below w.heap.size w w' := by
 have hu23 := Try.underlying23
 have HR4 := zm hr4
 have HC4 := zm hc4
 clear hr4 hc4
 have HB := zm (Below.refl w.heap.size w)
 have H : (if a5 = true then ((horariumref16_Over.f k a0_0 a0_1 a0_2 a1 a2 a3 l4).bind fun t367 => (some (decide (t367 > 0)))) else (if a1 = 23 then (some false) else ((horariumref16_Over.f k a0_0 a0_1 a0_2 a1 a2 a3 l4).bind fun t368 => (some (decide (t368 > 0)))))) = some r := h
 clear h
 by_cases c7 : a5 = true
 ·subst c7
  have H1 : ((horariumref16_Over.f k a0_0 a0_1 a0_2 a1 a2 a3 l4).bind fun t367 => (some (decide (t367 > 0)))) = some r := by rw [if_pos rfl] at H; exact H
  clear H
  have H := H1
  clear H1
  replace H := zo H
  obtain ⟨t367, A80, H⟩ := H
  have A8 := zm A80
  clear A80
  obtain rfl := Option.some.inj H
  go_enter Try.func24, Try.ntmps24
  go_wp2_with (first | ((with_reducible refine gate_dst (N := 6) rfl ?_); refine box_event ?hg (N := 6) ?hd (cs := #[.int .i64 a0_0, .int .i64 a0_1, .int .i64 a0_2]) (t := 23) ?hr ?_; (case hd => rfl); (case hg => rfl); (case hr => go_simp; try rfl); intro gb366 hg w9 hbox hb; have BK366 := zm (hbox); have GW366 := zm ((by rw [hg]; exact (below_size (by apply_rules [HB.out, zb1, zb2, zb3])) : w.heap.size ≤ gb366)); have GE366 := GW366; replace HB := zm (below_step (by apply_rules [HB.out, zb1, zb2, zb3]) hb); clear hb hbox hg; obtain ⟨hcz10_0, hcz10_1, hcz10_2, hfz10_0, hfz10_1, hfz10_2⟩ := zf3 BK366.out) | (go_at_call 22; (with_reducible refine (horariumref16_Over.calls k a0_0 a0_1 a0_2 a1 a2 a3 _ _ l4 t367 _ ?side1 ?side2 A8.out).mono ?_); (case side1 => apply_rules [Kd.C_below HR4.out HB.out, Kd.C_alloc, Kd.C_drewN, Kd.C_drew]); (case side2 => exact HC4.out); rintro e w11 ⟨rfl, hb⟩; replace BK366 := zm (blk_below (by apply_rules [BK366.out, zk1, zk2, zk3]) hb); replace HB := zm (below_step (by apply_rules [HB.out, zb1, zb2, zb3, zb4, GE366.out]) hb); (try clear hb)))
  go_ret
  exact ⟨by first | rfl | (simp [errW_none, errW_some] <;> rfl) | (simp [*, errW_none, errW_some] <;> rfl), by apply_rules [HB.out, zb1, zb2, zb3, zb4, GE366.out]⟩
 replace c7 := Bool.eq_false_iff.mpr c7
 subst c7
 have H1 : (if a1 = 23 then (some false) else ((horariumref16_Over.f k a0_0 a0_1 a0_2 a1 a2 a3 l4).bind fun t368 => (some (decide (t368 > 0))))) = some r := by rw [if_neg (show ¬ (false = true) by decide)] at H; exact H
 clear H
 have H := H1
 clear H1
 by_cases c12 : a1 = 23
 ·rw [if_pos c12] at H
  have c12b0 : (a1 == 23) = true := beq_iff_eq.mpr c12
  have c12b1 : (a1 != 23) = false := bne_eq_false_iff_eq.mpr c12
  clear c12
  obtain rfl := Option.some.inj H
  go_enter Try.func24, Try.ntmps24
  go_wp2_with (first | ((with_reducible refine gate_dst (N := 6) rfl ?_); refine box_event ?hg (N := 6) ?hd (cs := #[.int .i64 a0_0, .int .i64 a0_1, .int .i64 a0_2]) (t := 23) ?hr ?_; (case hd => rfl); (case hg => rfl); (case hr => go_simp; try rfl); intro gb366 hg w13 hbox hb; have BK366 := zm (hbox); have GW366 := zm ((by rw [hg]; exact (below_size (by apply_rules [HB.out, zb1, zb2, zb3])) : w.heap.size ≤ gb366)); have GE366 := GW366; replace HB := zm (below_step (by apply_rules [HB.out, zb1, zb2, zb3]) hb); clear hb hbox hg))
  go_ret
  exact ⟨by first | rfl | (simp [errW_none, errW_some] <;> rfl) | (simp [*, errW_none, errW_some] <;> rfl), by apply_rules [HB.out, zb1, zb2, zb3, zb4, GE366.out]⟩
 rw [if_neg c12] at H
 have c12b0 : (a1 == 23) = false := beq_eq_false_iff_ne.mpr c12
 have c12b1 : (a1 != 23) = true := bne_iff_ne.mpr c12
 replace H := zo H
 obtain ⟨t368, A140, H⟩ := H
 have A14 := zm A140
 clear A140
 obtain rfl := Option.some.inj H
 go_enter Try.func24, Try.ntmps24
 go_wp2_with (first | ((with_reducible refine gate_dst (N := 6) rfl ?_); refine box_event ?hg (N := 6) ?hd (cs := #[.int .i64 a0_0, .int .i64 a0_1, .int .i64 a0_2]) (t := 23) ?hr ?_; (case hd => rfl); (case hg => rfl); (case hr => go_simp; try rfl); intro gb366 hg w15 hbox hb; have BK366 := zm (hbox); have GW366 := zm ((by rw [hg]; exact (below_size (by apply_rules [HB.out, zb1, zb2, zb3])) : w.heap.size ≤ gb366)); have GE366 := GW366; replace HB := zm (below_step (by apply_rules [HB.out, zb1, zb2, zb3]) hb); clear hb hbox hg; obtain ⟨hcz16_0, hcz16_1, hcz16_2, hfz16_0, hfz16_1, hfz16_2⟩ := zf3 BK366.out) | (go_at_call 22; (with_reducible refine (horariumref16_Over.calls k a0_0 a0_1 a0_2 a1 a2 a3 _ _ l4 t368 _ ?side1 ?side2 A14.out).mono ?_); (case side1 => apply_rules [Kd.C_below HR4.out HB.out, Kd.C_alloc, Kd.C_drewN, Kd.C_drew]); (case side2 => exact HC4.out); rintro e w17 ⟨rfl, hb⟩; replace BK366 := zm (blk_below (by apply_rules [BK366.out, zk1, zk2, zk3]) hb); replace HB := zm (below_step (by apply_rules [HB.out, zb1, zb2, zb3, zb4, GE366.out]) hb); (try clear hb)))
 go_ret
 exact ⟨by first | rfl | (simp [errW_none, errW_some] <;> rfl) | (simp [*, errW_none, errW_some] <;> rfl), by apply_rules [HB.out, zb1, zb2, zb3, zb4, GE366.out]⟩
def many_Least.f (k : Nat) (a0_0 : Int) (a0_1 : Int) (a0_2 : Int) (a1 : Int) (a2 : Int) (a3 : Int) (l4 : List (S49)) (a5 : Bool) : Option (Int) := if a5 = true then ((many_Over.f k a0_0 a0_1 a0_2 a1 a2 a3 l4).bind fun t370 => (some t370)) else (if a1 = 23 then (some 0) else (if a1 = 24 then (some 0) else ((many_Over.f k a0_0 a0_1 a0_2 a1 a2 a3 l4).bind fun t371 => (some t371))))
set_option maxHeartbeats 8000000 in
set_option maxRecDepth 100000 in
theorem many_Least.calls (k : Nat) (a0_0 : Int) (a0_1 : Int) (a0_2 : Int) (a1 : Int) (a2 : Int) (a3 : Int) (A4 : Option Addr) (c4 : Nat) (l4 : List (S49)) (a5 : Bool) (r : Int) (w : World) (hr4 : Kd.C k49 w A4 l4.length l4) (hc4 : l4.length ≤ c4) (h : many_Least.f k a0_0 a0_1 a0_2 a1 a2 a3 l4 a5 = some r) :
  Calls Try.prog 25 #[.agg #[.int .i64 a0_0, .int .i64 a0_1, .int .i64 a0_2], .int .i64 a1, .int .i64 a2, .int .i64 a3, .slice A4 l4.length c4, .bool a5] w fun e w' => e = .returned (.int .i64 r) ∧ Below w.heap.size w w' := by
 have hu23 := Try.underlying23
 have HR4 := zm hr4
 have HC4 := zm hc4
 clear hr4 hc4
 have HB := zm (Below.refl w.heap.size w)
 have H : (if a5 = true then ((many_Over.f k a0_0 a0_1 a0_2 a1 a2 a3 l4).bind fun t370 => (some t370)) else (if a1 = 23 then (some 0) else (if a1 = 24 then (some 0) else ((many_Over.f k a0_0 a0_1 a0_2 a1 a2 a3 l4).bind fun t371 => (some t371))))) = some r := h
 clear h
 by_cases c7 : a5 = true
 ·subst c7
  have H1 : ((many_Over.f k a0_0 a0_1 a0_2 a1 a2 a3 l4).bind fun t370 => (some t370)) = some r := by rw [if_pos rfl] at H; exact H
  clear H
  have H := H1
  clear H1
  replace H := zo H
  obtain ⟨t370, A80, H⟩ := H
  have A8 := zm A80
  clear A80
  obtain rfl := Option.some.inj H
  go_enter Try.func25, Try.ntmps25
  go_wp2_with (first | ((with_reducible refine gate_dst (N := 6) rfl ?_); refine box_event ?hg (N := 6) ?hd (cs := #[.int .i64 a0_0, .int .i64 a0_1, .int .i64 a0_2]) (t := 23) ?hr ?_; (case hd => rfl); (case hg => rfl); (case hr => go_simp; try rfl); intro gb369 hg w9 hbox hb; have BK369 := zm (hbox); have GW369 := zm ((by rw [hg]; exact (below_size (by apply_rules [HB.out, zb1, zb2, zb3])) : w.heap.size ≤ gb369)); have GE369 := GW369; replace HB := zm (below_step (by apply_rules [HB.out, zb1, zb2, zb3]) hb); clear hb hbox hg; obtain ⟨hcz10_0, hcz10_1, hcz10_2, hfz10_0, hfz10_1, hfz10_2⟩ := zf3 BK369.out) | ((with_reducible refine gate_callee (f := 21) rfl ?_); refine goesL_ (some 28) rfl rfl Try.func21 (by kernel_rfl) rfl #[.agg #[.int .i64 a0_0, .int .i64 a0_1, .int .i64 a0_2], .int .i64 a1, .int .i64 a2, .int .i64 a3, .slice A4 l4.length c4] rfl (by (try simp only [zt1, zt2, zt3]) <;> rfl) ?_; (with_reducible refine (many_Over.calls k a0_0 a0_1 a0_2 a1 a2 a3 _ _ l4 t370 _ ?side1 ?side2 A8.out).mono ?_); (case side1 => apply_rules [Kd.C_below HR4.out HB.out, Kd.C_alloc, Kd.C_drewN, Kd.C_drew]); (case side2 => exact HC4.out); rintro e w11 ⟨rfl, hb⟩; refine ⟨_, rfl, ?_⟩; replace BK369 := zm (blk_below (by apply_rules [BK369.out, zk1, zk2, zk3]) hb); replace HB := zm (below_step (by apply_rules [HB.out, zb1, zb2, zb3, zb4, GE369.out]) hb); (try clear hb)))
  go_ret
  exact ⟨by first | rfl | (simp [errW_none, errW_some] <;> rfl) | (simp [*, errW_none, errW_some] <;> rfl), by apply_rules [HB.out, zb1, zb2, zb3, zb4, GE369.out]⟩
 replace c7 := Bool.eq_false_iff.mpr c7
 subst c7
 have H1 : (if a1 = 23 then (some 0) else (if a1 = 24 then (some 0) else ((many_Over.f k a0_0 a0_1 a0_2 a1 a2 a3 l4).bind fun t371 => (some t371)))) = some r := by rw [if_neg (show ¬ (false = true) by decide)] at H; exact H
 clear H
 have H := H1
 clear H1
 by_cases c12 : a1 = 23
 ·rw [if_pos c12] at H
  have c12b0 : (a1 == 23) = true := beq_iff_eq.mpr c12
  have c12b1 : (a1 != 23) = false := bne_eq_false_iff_eq.mpr c12
  clear c12
  obtain rfl := Option.some.inj H
  go_enter Try.func25, Try.ntmps25
  go_wp2_with (first | ((with_reducible refine gate_dst (N := 6) rfl ?_); refine box_event ?hg (N := 6) ?hd (cs := #[.int .i64 a0_0, .int .i64 a0_1, .int .i64 a0_2]) (t := 23) ?hr ?_; (case hd => rfl); (case hg => rfl); (case hr => go_simp; try rfl); intro gb369 hg w13 hbox hb; have BK369 := zm (hbox); have GW369 := zm ((by rw [hg]; exact (below_size (by apply_rules [HB.out, zb1, zb2, zb3])) : w.heap.size ≤ gb369)); have GE369 := GW369; replace HB := zm (below_step (by apply_rules [HB.out, zb1, zb2, zb3]) hb); clear hb hbox hg))
  go_ret
  exact ⟨by first | rfl | (simp [errW_none, errW_some] <;> rfl) | (simp [*, errW_none, errW_some] <;> rfl), by apply_rules [HB.out, zb1, zb2, zb3, zb4, GE369.out]⟩
 rw [if_neg c12] at H
 have c12b0 : (a1 == 23) = false := beq_eq_false_iff_ne.mpr c12
 have c12b1 : (a1 != 23) = true := bne_iff_ne.mpr c12
 by_cases c14 : a1 = 24
 ·rw [if_pos c14] at H
  have c14b0 : (a1 == 24) = true := beq_iff_eq.mpr c14
  have c14b1 : (a1 != 24) = false := bne_eq_false_iff_eq.mpr c14
  clear c14
  obtain rfl := Option.some.inj H
  go_enter Try.func25, Try.ntmps25
  go_wp2_with (first | ((with_reducible refine gate_dst (N := 6) rfl ?_); refine box_event ?hg (N := 6) ?hd (cs := #[.int .i64 a0_0, .int .i64 a0_1, .int .i64 a0_2]) (t := 23) ?hr ?_; (case hd => rfl); (case hg => rfl); (case hr => go_simp; try rfl); intro gb369 hg w15 hbox hb; have BK369 := zm (hbox); have GW369 := zm ((by rw [hg]; exact (below_size (by apply_rules [HB.out, zb1, zb2, zb3])) : w.heap.size ≤ gb369)); have GE369 := GW369; replace HB := zm (below_step (by apply_rules [HB.out, zb1, zb2, zb3]) hb); clear hb hbox hg))
  go_ret
  exact ⟨by first | rfl | (simp [errW_none, errW_some] <;> rfl) | (simp [*, errW_none, errW_some] <;> rfl), by apply_rules [HB.out, zb1, zb2, zb3, zb4, GE369.out]⟩
 rw [if_neg c14] at H
 have c14b0 : (a1 == 24) = false := beq_eq_false_iff_ne.mpr c14
 have c14b1 : (a1 != 24) = true := bne_iff_ne.mpr c14
 replace H := zo H
 obtain ⟨t371, A160, H⟩ := H
 have A16 := zm A160
 clear A160
 obtain rfl := Option.some.inj H
 go_enter Try.func25, Try.ntmps25
 go_wp2_with (first | ((with_reducible refine gate_dst (N := 6) rfl ?_); refine box_event ?hg (N := 6) ?hd (cs := #[.int .i64 a0_0, .int .i64 a0_1, .int .i64 a0_2]) (t := 23) ?hr ?_; (case hd => rfl); (case hg => rfl); (case hr => go_simp; try rfl); intro gb369 hg w17 hbox hb; have BK369 := zm (hbox); have GW369 := zm ((by rw [hg]; exact (below_size (by apply_rules [HB.out, zb1, zb2, zb3])) : w.heap.size ≤ gb369)); have GE369 := GW369; replace HB := zm (below_step (by apply_rules [HB.out, zb1, zb2, zb3]) hb); clear hb hbox hg; obtain ⟨hcz18_0, hcz18_1, hcz18_2, hfz18_0, hfz18_1, hfz18_2⟩ := zf3 BK369.out) | ((with_reducible refine gate_callee (f := 21) rfl ?_); refine goesL_ (some 28) rfl rfl Try.func21 (by kernel_rfl) rfl #[.agg #[.int .i64 a0_0, .int .i64 a0_1, .int .i64 a0_2], .int .i64 a1, .int .i64 a2, .int .i64 a3, .slice A4 l4.length c4] rfl (by (try simp only [zt1, zt2, zt3]) <;> rfl) ?_; (with_reducible refine (many_Over.calls k a0_0 a0_1 a0_2 a1 a2 a3 _ _ l4 t371 _ ?side1 ?side2 A16.out).mono ?_); (case side1 => apply_rules [Kd.C_below HR4.out HB.out, Kd.C_alloc, Kd.C_drewN, Kd.C_drew]); (case side2 => exact HC4.out); rintro e w19 ⟨rfl, hb⟩; refine ⟨_, rfl, ?_⟩; replace BK369 := zm (blk_below (by apply_rules [BK369.out, zk1, zk2, zk3]) hb); replace HB := zm (below_step (by apply_rules [HB.out, zb1, zb2, zb3, zb4, GE369.out]) hb); (try clear hb)))
 go_ret
 exact ⟨by first | rfl | (simp [errW_none, errW_some] <;> rfl) | (simp [*, errW_none, errW_some] <;> rfl), by apply_rules [HB.out, zb1, zb2, zb3, zb4, GE369.out]⟩
end Go.Proofs.Ytlfnpakpkniipaa.Q
