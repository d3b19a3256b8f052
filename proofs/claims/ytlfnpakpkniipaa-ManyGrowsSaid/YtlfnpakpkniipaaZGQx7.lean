/- Words for the claim. -/
import Derived.Test.YtlfnpakpkniipaaZGWords
import Derived.Test.YtlfnpakpkniipaaZGQx0
import Derived.Test.YtlfnpakpkniipaaZGQx2
namespace Go.Proofs.Ytlfnpakpkniipaa.Q
open Go.RowKit Go.Proofs.YtlfnpakpkniipaaW.PrintWords Go.Proofs.YtlfnpakpkniipaaW.PrintLast Go.Proofs.YtlfnpakpkniipaaW.PrintMore
attribute [local go_sem] max2_int min2_int max_two min_two max_three min_three max_four min_four
set_option linter.unusedVariables false
set_option linter.unusedSimpArgs false
mutual
def when_Moments.l0 : Nat → List Int → Int → Int → Int → Int → Int → Int → Int → Int → Int → Option (List Int)
 | 0, _, _, _, _, _, _, _, _, _, _ => none
 | k + 1, x5, x15, x16, x129000, x129001, x129002, x130000, x130001, x130002, x130003 => if x16 < x15 then (when_Moments.l1 k x5 x16 x15 x16 x129001 0 x129000 x129001 x129002 x130000 x130001 x130002 x130003) else (some x5)
def when_Moments.l1 : Nat → List Int → Int → Int → Int → Int → Int → Int → Int → Int → Int → Int → Int → Int → Option (List Int)
 | 0, _, _, _, _, _, _, _, _, _, _, _, _, _ => none
 | k + 1, x5, x6, x15, x16, x20, x21, x129000, x129001, x129002, x130000, x130001, x130002, x130003 => if x21 < x20 then (if 0 ≤ x6 then (if (Go.bits .and .u32 (shr .u32 x130000 x6) 1) = 0 then (when_Moments.j2 k x5 x6 x21 x15 x16 x20 x21 true x129000 x129001 x129002 x130000 x130001 x130002 x130003) else (if 0 ≤ x21 then (when_Moments.j2 k x5 x6 x21 x15 x16 x20 x21 ((Go.bits .and .u8 (shr .u8 x130001 x21) 1) == 0) x129000 x129001 x129002 x130000 x130001 x130002 x130003) else (none))) else (none)) else (when_Moments.l0 k x5 x15 (wrap64 (x16 + 1)) x129000 x129001 x129002 x130000 x130001 x130002 x130003)
def when_Moments.j2 : Nat → List Int → Int → Int → Int → Int → Int → Int → Bool → Int → Int → Int → Int → Int → Int → Int → Option (List Int)
 | 0, _, _, _, _, _, _, _, _, _, _, _, _, _, _, _ => none
 | k + 1, x5, x6, x7, x15, x16, x20, x21, x37, x129000, x129001, x129002, x130000, x130001, x130002, x130003 => if x37 = true then (when_Moments.l1 k x5 x6 x15 x16 x20 (wrap64 (x21 + 1)) x129000 x129001 x129002 x130000 x130001 x130002 x130003) else (when_Moments.l2 k x5 x6 (wrap64 ((wrap64 ((wrap64 ((wrap64 (x6 * x129001)) + x7)) * x129002)) + x130002)) x15 x16 x20 x21 x130003 0 x129000 x129001 x129002 x130000 x130001 x130002 x130003)
def when_Moments.l2 : Nat → List Int → Int → Int → Int → Int → Int → Int → Int → Int → Int → Int → Int → Int → Int → Int → Int → Option (List Int)
 | 0, _, _, _, _, _, _, _, _, _, _, _, _, _, _, _, _ => none
 | k + 1, x5, x6, x8, x15, x16, x20, x21, x51, x52, x129000, x129001, x129002, x130000, x130001, x130002, x130003 => if x52 < x51 then (if x5.length < 17592186044416 then (when_Moments.l2 k (x5 ++ [wrap64 (x8 + x52)]) x6 x8 x15 x16 x20 x21 x51 (wrap64 (x52 + 1)) x129000 x129001 x129002 x130000 x130001 x130002 x130003) else (none)) else (when_Moments.l1 k x5 x6 x15 x16 x20 (wrap64 (x21 + 1)) x129000 x129001 x129002 x130000 x130001 x130002 x130003)
end
def when_Moments.f (k : Nat) (a0_0 : Int) (a0_1 : Int) (a0_2 : Int) (a1_0 : Int) (a1_1 : Int) (a1_2 : Int) (a1_3 : Int) : Option (List Int) := (when_Right.f a0_0 a0_1 a0_2 a1_0 a1_1 a1_2 a1_3).bind fun t130 => (if t130 = true then (when_Moments.l0 k ([] : List Int) a0_0 0 a0_0 a0_1 a0_2 a1_0 a1_1 a1_2 a1_3) else (some ([] : List Int)))
theorem when_Moments.mono_l : ∀ k, (∀ y0 y1 y2 y3 y4 y5 y6 y7 y8 y9, LeO (when_Moments.l0 k y0 y1 y2 y3 y4 y5 y6 y7 y8 y9) (when_Moments.l0 (k + 1) y0 y1 y2 y3 y4 y5 y6 y7 y8 y9)) ∧ (∀ y0 y1 y2 y3 y4 y5 y6 y7 y8 y9 y10 y11 y12, LeO (when_Moments.l1 k y0 y1 y2 y3 y4 y5 y6 y7 y8 y9 y10 y11 y12) (when_Moments.l1 (k + 1) y0 y1 y2 y3 y4 y5 y6 y7 y8 y9 y10 y11 y12)) ∧ (∀ y0 y1 y2 y3 y4 y5 y6 y7 y8 y9 y10 y11 y12 y13 y14, LeO (when_Moments.j2 k y0 y1 y2 y3 y4 y5 y6 y7 y8 y9 y10 y11 y12 y13 y14) (when_Moments.j2 (k + 1) y0 y1 y2 y3 y4 y5 y6 y7 y8 y9 y10 y11 y12 y13 y14)) ∧ (∀ y0 y1 y2 y3 y4 y5 y6 y7 y8 y9 y10 y11 y12 y13 y14 y15, LeO (when_Moments.l2 k y0 y1 y2 y3 y4 y5 y6 y7 y8 y9 y10 y11 y12 y13 y14 y15) (when_Moments.l2 (k + 1) y0 y1 y2 y3 y4 y5 y6 y7 y8 y9 y10 y11 y12 y13 y14 y15))
 | 0 => ⟨fun _ _ _ _ _ _ _ _ _ _ r h => by simp [when_Moments.l0] at h, fun _ _ _ _ _ _ _ _ _ _ _ _ _ r h => by simp [when_Moments.l1] at h, fun _ _ _ _ _ _ _ _ _ _ _ _ _ _ _ r h => by simp [when_Moments.j2] at h, fun _ _ _ _ _ _ _ _ _ _ _ _ _ _ _ _ r h => by simp [when_Moments.l2] at h⟩
 | k + 1 => by
  obtain ⟨ih0, ih1, ih2, ih3⟩ := when_Moments.mono_l k
  refine ⟨?_, ?_, ?_, ?_⟩
  ·intro y0 y1 y2 y3 y4 y5 y6 y7 y8 y9
   unfold when_Moments.l0
   repeat' first
   | (with_reducible exact ih0 _ _ _ _ _ _ _ _ _ _)
   | (with_reducible exact ih1 _ _ _ _ _ _ _ _ _ _ _ _ _)
   | (with_reducible exact ih2 _ _ _ _ _ _ _ _ _ _ _ _ _ _ _)
   | (with_reducible exact ih3 _ _ _ _ _ _ _ _ _ _ _ _ _ _ _ _)
   | (with_reducible exact LeO.refl _)
   | (with_reducible exact LeO.none _)
   | (with_reducible refine LeO.ite ?_ ?_)
   | (with_reducible refine LeO.bind ?_ (fun _ => ?_))
   | refine LeO.ite ?_ ?_
   | refine LeO.bind ?_ (fun _ => ?_)
  ·intro y0 y1 y2 y3 y4 y5 y6 y7 y8 y9 y10 y11 y12
   unfold when_Moments.l1
   repeat' first
   | (with_reducible exact ih0 _ _ _ _ _ _ _ _ _ _)
   | (with_reducible exact ih1 _ _ _ _ _ _ _ _ _ _ _ _ _)
   | (with_reducible exact ih2 _ _ _ _ _ _ _ _ _ _ _ _ _ _ _)
   | (with_reducible exact ih3 _ _ _ _ _ _ _ _ _ _ _ _ _ _ _ _)
   | (with_reducible exact LeO.refl _)
   | (with_reducible exact LeO.none _)
   | (with_reducible refine LeO.ite ?_ ?_)
   | (with_reducible refine LeO.bind ?_ (fun _ => ?_))
   | refine LeO.ite ?_ ?_
   | refine LeO.bind ?_ (fun _ => ?_)
  ·intro y0 y1 y2 y3 y4 y5 y6 y7 y8 y9 y10 y11 y12 y13 y14
   unfold when_Moments.j2
   repeat' first
   | (with_reducible exact ih0 _ _ _ _ _ _ _ _ _ _)
   | (with_reducible exact ih1 _ _ _ _ _ _ _ _ _ _ _ _ _)
   | (with_reducible exact ih2 _ _ _ _ _ _ _ _ _ _ _ _ _ _ _)
   | (with_reducible exact ih3 _ _ _ _ _ _ _ _ _ _ _ _ _ _ _ _)
   | (with_reducible exact LeO.refl _)
   | (with_reducible exact LeO.none _)
   | (with_reducible refine LeO.ite ?_ ?_)
   | (with_reducible refine LeO.bind ?_ (fun _ => ?_))
   | refine LeO.ite ?_ ?_
   | refine LeO.bind ?_ (fun _ => ?_)
  intro y0 y1 y2 y3 y4 y5 y6 y7 y8 y9 y10 y11 y12 y13 y14 y15
  unfold when_Moments.l2
  repeat' first
  | (with_reducible exact ih0 _ _ _ _ _ _ _ _ _ _)
  | (with_reducible exact ih1 _ _ _ _ _ _ _ _ _ _ _ _ _)
  | (with_reducible exact ih2 _ _ _ _ _ _ _ _ _ _ _ _ _ _ _)
  | (with_reducible exact ih3 _ _ _ _ _ _ _ _ _ _ _ _ _ _ _ _)
  | (with_reducible exact LeO.refl _)
  | (with_reducible exact LeO.none _)
  | (with_reducible refine LeO.ite ?_ ?_)
  | (with_reducible refine LeO.bind ?_ (fun _ => ?_))
  | refine LeO.ite ?_ ?_
  | refine LeO.bind ?_ (fun _ => ?_)
theorem when_Moments.mono : ∀ a0 a1 a2 a3 a4 a5 a6 k, LeO (when_Moments.f k a0 a1 a2 a3 a4 a5 a6) (when_Moments.f (k + 1) a0 a1 a2 a3 a4 a5 a6) := by
 intro a0 a1 a2 a3 a4 a5 a6 k
 obtain ⟨ih0, ih1, ih2, ih3⟩ := when_Moments.mono_l k
 unfold when_Moments.f
 repeat' first
   | (with_reducible exact ih0 _ _ _ _ _ _ _ _ _ _)
   | (with_reducible exact ih1 _ _ _ _ _ _ _ _ _ _ _ _ _)
   | (with_reducible exact ih2 _ _ _ _ _ _ _ _ _ _ _ _ _ _ _)
   | (with_reducible exact ih3 _ _ _ _ _ _ _ _ _ _ _ _ _ _ _ _)
   | (with_reducible exact LeO.refl _)
   | (with_reducible exact LeO.none _)
   | (with_reducible refine LeO.ite ?_ ?_)
   | (with_reducible refine LeO.bind ?_ (fun _ => ?_))
   | refine LeO.ite ?_ ?_
   | refine LeO.bind ?_ (fun _ => ?_)
set_option maxHeartbeats 8000000 in
set_option maxRecDepth 100000 in
theorem when_Moments.calls (k : Nat) (a0_0 : Int) (a0_1 : Int) (a0_2 : Int) (a1_0 : Int) (a1_1 : Int) (a1_2 : Int) (a1_3 : Int) (r : List Int) (w : World) (h : when_Moments.f k a0_0 a0_1 a0_2 a1_0 a1_1 a1_2 a1_3 = some r) :
  Calls Try.prog 51 #[.agg #[.int .i64 a0_0, .int .i64 a0_1, .int .i64 a0_2], .agg #[.int .u32 a1_0, .int .u8 a1_1, .int .i64 a1_2, .int .i64 a1_3]] w fun e w' => ∃ v0_ : Value, e = .returned (v0_) ∧ Kd.R (Kd.int .i64) 3 w' w.heap.size (fun _ => True) v0_ r ∧ Below w.heap.size w w' := by
 have hu23 := Try.underlying23
 have hu49 := Try.underlying49
 have HB := zm (Below.refl w.heap.size w)
 have H : ((when_Right.f a0_0 a0_1 a0_2 a1_0 a1_1 a1_2 a1_3).bind fun t130 => (if t130 = true then (when_Moments.l0 k ([] : List Int) a0_0 0 a0_0 a0_1 a0_2 a1_0 a1_1 a1_2 a1_3) else (some ([] : List Int)))) = some r := h
 clear h
 replace H := zo H
 obtain ⟨t130, A30, H⟩ := H
 have A3 := zm A30
 clear A30
 by_cases c4 : t130 = true
 ·subst c4
  have H1 : (when_Moments.l0 k ([] : List Int) a0_0 0 a0_0 a0_1 a0_2 a1_0 a1_1 a1_2 a1_3) = some r := by rw [if_pos rfl] at H; exact H
  clear H
  have H := H1
  clear H1
  have H' := zm H
  clear H
  go_enter Try.func51, Try.ntmps51
  go_wp2_with (first | ((with_reducible refine gate_dst (N := 2) rfl ?_); refine box_event ?hg (N := 2) ?hd (cs := #[.int .i64 a0_0, .int .i64 a0_1, .int .i64 a0_2]) (t := 23) ?hr ?_; (case hd => rfl); (case hg => rfl); (case hr => go_simp; try rfl); intro gb128 hg w5 hbox hb; have BK128 := zm (hbox); have GW128 := zm ((by rw [hg]; exact (below_size (by apply_rules [HB.out, zb1, zb2, zb3])) : w.heap.size ≤ gb128)); have GE128 := GW128; replace HB := zm (below_step (by apply_rules [HB.out, zb1, zb2, zb3]) hb); clear hb hbox hg) | ((with_reducible refine gate_dst (N := 3) rfl ?_); refine box_event ?hg (N := 3) ?hd (cs := #[.int .u32 a1_0, .int .u8 a1_1, .int .i64 a1_2, .int .i64 a1_3]) (t := 49) ?hr ?_; (case hd => rfl); (case hg => rfl); (case hr => go_simp; try rfl); intro gb129 hg w6 hbox hb; have n0_ := zm (blk_below (by apply_rules [BK128.out, zk1, zk2, zk3]) hb); have n1_ := zm (below_step (by apply_rules [HB.out, zb1, zb2, zb3, zb4, GE128.out]) hb); have n2_ := zm (hbox); have n3_ := zm ((by rw [hg]; exact (below_size (by apply_rules [HB.out, zb1, zb2, zb3, zb4, GE128.out])) : w.heap.size ≤ gb129)); have n4_ := n3_; have n5_ := zm ((by rw [hg]; exact Nat.ne_of_lt (blk_lt (by apply_rules [BK128.out, zk1, zk2, zk3])) : gb128 ≠ gb129)); have n6_ := zm ((by rw [hg]; exact Nat.ne_of_gt (blk_lt (by apply_rules [BK128.out, zk1, zk2, zk3])) : gb129 ≠ gb128)); clear BK128; clear HB; have BK128 := n0_; have HB := n1_; have BK129 := n2_; have GW129 := n3_; have GE129 := n4_; have NB128_129 := n5_; have NB129_128 := n6_; clear n0_ n1_ n2_ n3_ n4_ n5_ n6_; clear hb hbox hg; have hnb7 := NB128_129.out; have hnc7 := NB129_128.out; obtain ⟨hcz8_0, hcz8_1, hcz8_2, hfz8_0, hfz8_1, hfz8_2⟩ := zf3 BK128.out; obtain ⟨hcz9_0, hcz9_1, hcz9_2, hcz9_3, hfz9_0, hfz9_1, hfz9_2, hfz9_3⟩ := zf4 BK129.out) | ((with_reducible refine gate_callee (f := 27) rfl ?_); refine goesL_ (some 12) rfl rfl Try.func27 (by kernel_rfl) rfl #[.agg #[.int .i64 a0_0, .int .i64 a0_1, .int .i64 a0_2], .agg #[.int .u32 a1_0, .int .u8 a1_1, .int .i64 a1_2, .int .i64 a1_3]] rfl (by (try simp only [zt1, zt2, zt3]) <;> rfl) ?_; (with_reducible refine (when_Right.calls a0_0 a0_1 a0_2 a1_0 a1_1 a1_2 a1_3 true _ A3.out).mono ?_); rintro e w10 ⟨rfl, hb⟩; refine ⟨_, rfl, ?_⟩; replace BK128 := zm (blk_below (by apply_rules [BK128.out, zk1, zk2, zk3]) hb); replace BK129 := zm (blk_below (by apply_rules [BK129.out, zk1, zk2, zk3]) hb); replace HB := zm (below_step (by apply_rules [HB.out, zb1, zb2, zb3, zb4, GE128.out, zb4, GE129.out]) hb); (try clear hb); obtain ⟨hcz11_0, hcz11_1, hcz11_2, hfz11_0, hfz11_1, hfz11_2⟩ := zf3 BK128.out))
  go_loopg [5, 16] k (fun kq v5 v16 w' => ∃ (x5_1 : List Int) (x16_1 : Int), v16 = .int .i64 x16_1 ∧ Aside0 (when_Moments.l0 kq x5_1 a0_0 x16_1 a0_0 a0_1 a0_2 a1_0 a1_1 a1_2 a1_3 = some r) ∧ Aside0 (kq ≤ k) ∧ Aside0 (Kd.R (Kd.int .i64) 3 w' w.heap.size (fun _ => True) v5 x5_1) ∧ Aside0 (w'.heap[gb128]? = some (.cells #[.int .i64 a0_0, .int .i64 a0_1, .int .i64 a0_2] 23 (0, 0))) ∧ Aside0 (w'.heap[gb129]? = some (.cells #[.int .u32 a1_0, .int .u8 a1_1, .int .i64 a1_2, .int .i64 a1_3] 49 (0, 0))) ∧ Aside0 (Below w.heap.size w w'))
  case atStart => exact ⟨(([] : List Int)), (0), (by first | rfl | (simp; done) | (simp [*]; done)), H', ⟨Nat.le_refl _⟩, ⟨by first | exact Kd.R_nil _ _ _ _ _ | exact Kd.N_nil _ _ _ _ _ | exact Kd.V_nil _ _ _ _ _ | exact Kd.Q_nil _ _ _ _ _ | exact Kd.S_nil _ _ _ _ _⟩, ⟨by (with_reducible repeat (first | refine blk_alloc ?_ _ | refine blk_drewN ?_ _ | refine blk_drew ?_)); exact BK128.out⟩, ⟨by (with_reducible repeat (first | refine blk_alloc ?_ _ | refine blk_drewN ?_ _ | refine blk_drew ?_)); exact BK129.out⟩, ⟨by apply_rules [HB.out, zb1, zb2, zb3, zb4, GE128.out, zb4, GE129.out]⟩⟩
  case round =>
   clear H'
   (try clear c2); (try clear p2); (try clear c4); (try clear c5); (try clear c7); (try clear hcz11_0); (try clear hcz11_1); (try clear hcz11_2); (try clear hcz8_0); (try clear hcz8_1); (try clear hcz8_2); (try clear hcz9_0); (try clear hcz9_1); (try clear hcz9_2); (try clear hcz9_3); (try clear hfz11_0); (try clear hfz11_1); (try clear hfz11_2); (try clear hfz8_0); (try clear hfz8_1); (try clear hfz8_2)
   (try clear hfz9_0); (try clear hfz9_1); (try clear hfz9_2); (try clear hfz9_3)
   obtain ⟨x5_1, x16_1, rfl, HA, HK1, HO_5, BK128, BK129, HB⟩ := hrel
   cases gk with
   | zero => exact absurd HA.out (by simp [when_Moments.l0])
   | succ k1 =>
    have H := HA.out
    clear HA
    simp only [when_Moments.l0] at H
    by_cases c12 : x16_1 < a0_0
    ·rw [if_pos c12] at H
     have c12b0 : decide (x16_1 < a0_0) = true := decide_eq_true c12
     clear c12
     have H' := zm H
     clear H
     have hnb13 := NB128_129.out
     have hnc13 := NB129_128.out
     obtain ⟨hcz14_0, hcz14_1, hcz14_2, hfz14_0, hfz14_1, hfz14_2⟩ := zf3 BK128.out
     go_wp2
     go_loopg [5, 21] k1 (fun kq v5 v21 w' => ∃ (x5_2 : List Int) (x21_2 : Int), v21 = .int .i64 x21_2 ∧ Aside0 (when_Moments.l1 kq x5_2 x16_1 a0_0 x16_1 a0_1 x21_2 a0_0 a0_1 a0_2 a1_0 a1_1 a1_2 a1_3 = some r) ∧ Aside0 (kq ≤ k1) ∧ Aside0 (Kd.R (Kd.int .i64) 3 w' w.heap.size (fun _ => True) v5 x5_2) ∧ Aside0 (w'.heap[gb128]? = some (.cells #[.int .i64 a0_0, .int .i64 a0_1, .int .i64 a0_2] 23 (0, 0))) ∧ Aside0 (w'.heap[gb129]? = some (.cells #[.int .u32 a1_0, .int .u8 a1_1, .int .i64 a1_2, .int .i64 a1_3] 49 (0, 0))) ∧ Aside0 (Below w.heap.size w w'))
     case atStart => exact ⟨(x5_1), (0), (by first | rfl | (simp; done) | (simp [*]; done)), H', ⟨Nat.le_refl _⟩, ⟨by (with_reducible repeat (first | apply Kd.R_alloc | apply Kd.R_drewN | apply Kd.R_drew)); exact HO_5.out⟩, ⟨by (with_reducible repeat (first | refine blk_alloc ?_ _ | refine blk_drewN ?_ _ | refine blk_drew ?_)); exact BK128.out⟩, ⟨by (with_reducible repeat (first | refine blk_alloc ?_ _ | refine blk_drewN ?_ _ | refine blk_drew ?_)); exact BK129.out⟩, ⟨by apply_rules [HB.out, zb1, zb2, zb3, zb4, GE128.out, zb4, GE129.out]⟩⟩
     case round =>
      clear H'
      (try clear c1); (try clear c2); (try clear p2); (try clear c4); (try clear c5); (try clear c7); (try clear c12); (try clear c12b0); (try clear c13); (try clear hcz11_0); (try clear hcz11_1); (try clear hcz11_2); (try clear hcz14_0); (try clear hcz14_1); (try clear hcz14_2); (try clear hcz8_0); (try clear hcz8_1); (try clear hcz8_2); (try clear hcz9_0); (try clear hcz9_1); (try clear hcz9_2); (try clear hcz9_3)
      (try clear hfz11_0); (try clear hfz11_1); (try clear hfz11_2); (try clear hfz14_0); (try clear hfz14_1); (try clear hfz14_2); (try clear hfz8_0); (try clear hfz8_1); (try clear hfz8_2); (try clear hfz9_0); (try clear hfz9_1); (try clear hfz9_2); (try clear hfz9_3); (try clear p2)
      obtain ⟨x5_2, x21_2, rfl, HA, HK2, HO_5, BK128, BK129, HB⟩ := hrel
      cases gk with
      | zero => exact absurd HA.out (by simp [when_Moments.l1])
      | succ k2 =>
       have H := HA.out
       clear HA
       simp only [when_Moments.l1] at H
       by_cases c15 : x21_2 < a0_1
       ·rw [if_pos c15] at H
        have c15b0 : decide (x21_2 < a0_1) = true := decide_eq_true c15
        clear c15
        have HC16 := zm H
        clear H
        go_upto_region 10 with (fail)
        go_cut [37] (fun v37 wc => ∃ (kq : Nat) (x37_15 : Bool), v37 = .bool x37_15 ∧ Aside0 (when_Moments.j2 kq x5_2 x16_1 x21_2 a0_0 x16_1 a0_1 x21_2 x37_15 a0_0 a0_1 a0_2 a1_0 a1_1 a1_2 a1_3 = some r) ∧ Aside0 (kq ≤ k2) ∧ Aside0 (Kd.R (Kd.int .i64) 3 wc w.heap.size (fun _ => True) u5 x5_2) ∧ Aside0 (wc.heap[gb128]? = some (.cells #[.int .i64 a0_0, .int .i64 a0_1, .int .i64 a0_2] 23 (0, 0))) ∧ Aside0 (wc.heap[gb129]? = some (.cells #[.int .u32 a1_0, .int .u8 a1_1, .int .i64 a1_2, .int .i64 a1_3] 49 (0, 0))) ∧ Aside0 (Below w.heap.size w wc))
        case first =>
         have H := HC16.out
         clear HC16
         by_cases c17 : 0 ≤ x16_1
         ·rw [if_pos c17] at H
          have c17b0 := eq_true c17
          have c17b1 : decide (0 ≤ x16_1) = true := decide_eq_true c17
          clear c17
          obtain ⟨ji18, hji18⟩ : ∃ j_ : Int, (shr .u32 a1_0 x16_1) = j_ := ⟨_, rfl⟩
          replace H : (if (Go.bits .and .u32 (ji18) 1) = 0 then (when_Moments.j2 k2 x5_2 x16_1 x21_2 a0_0 x16_1 a0_1 x21_2 true a0_0 a0_1 a0_2 a1_0 a1_1 a1_2 a1_3) else (if 0 ≤ x21_2 then (when_Moments.j2 k2 x5_2 x16_1 x21_2 a0_0 x16_1 a0_1 x21_2 ((Go.bits .and .u8 (shr .u8 a1_1 x21_2) 1) == 0) a0_0 a0_1 a0_2 a1_0 a1_1 a1_2 a1_3) else (none))) = some r := by first | (rw [hji18] at H; exact H) | (simp only [hji18] at H ⊢; exact H)
          have hji18_ : (a1_0 / 2 ^ min x16_1.toNat 32) = ji18 := hji18
          have hji18z : x16_1 ≤ 32 → (a1_0 / 2 ^ x16_1.toNat) = ji18 := shr_small hji18
          by_cases c19 : (Go.bits .and .u32 (ji18) 1) = 0
          ·rw [if_pos c19] at H
           have c19b0 : ((Go.bits .and .u32 (ji18) 1) == 0) = true := beq_iff_eq.mpr c19
           have c19b1 : ((Go.bits .and .u32 (ji18) 1) != 0) = false := bne_eq_false_iff_eq.mpr c19
           clear c19
           (first | rw [c19b0] | (simp only [i64_w, i32_w]; rw [c19b0]) | skip)
           have H' := zm H
           clear H
           have hnb20 := NB129_128.out
           have hnc20 := NB128_129.out
           obtain ⟨hcz21_0, hcz21_1, hcz21_2, hcz21_3, hfz21_0, hfz21_1, hfz21_2, hfz21_3⟩ := zf4 BK129.out
           go_wp2
           go_meet
           case rel => exact ⟨_, (true), (by first | rfl | (simp; done) | (simp [*]; done)), H', ⟨by have := HK1.out; have := HK2.out; first | omega | exact Nat.le_refl _⟩, ⟨by (with_reducible repeat (first | apply Kd.R_alloc | apply Kd.R_drewN | apply Kd.R_drew)); exact HO_5.out⟩, ⟨by (with_reducible repeat (first | refine blk_alloc ?_ _ | refine blk_drewN ?_ _ | refine blk_drew ?_)); exact BK128.out⟩, ⟨by (with_reducible repeat (first | refine blk_alloc ?_ _ | refine blk_drewN ?_ _ | refine blk_drew ?_)); exact BK129.out⟩, ⟨by apply_rules [HB.out, zb1, zb2, zb3, zb4, GE128.out, zb4, GE129.out]⟩⟩
          rw [if_neg c19] at H
          have c19b0 : ((Go.bits .and .u32 (ji18) 1) == 0) = false := beq_eq_false_iff_ne.mpr c19
          have c19b1 : ((Go.bits .and .u32 (ji18) 1) != 0) = true := bne_iff_ne.mpr c19
          (first | rw [c19b0] | (simp only [i64_w, i32_w]; rw [c19b0]) | skip)
          by_cases c22 : 0 ≤ x21_2
          ·rw [if_pos c22] at H
           have c22b0 := eq_true c22
           have c22b1 : decide (0 ≤ x21_2) = true := decide_eq_true c22
           clear c22
           obtain ⟨ji23, hji23⟩ : ∃ j_ : Int, (shr .u8 a1_1 x21_2) = j_ := ⟨_, rfl⟩
           replace H : (when_Moments.j2 k2 x5_2 x16_1 x21_2 a0_0 x16_1 a0_1 x21_2 ((Go.bits .and .u8 (ji23) 1) == 0) a0_0 a0_1 a0_2 a1_0 a1_1 a1_2 a1_3) = some r := by first | (rw [hji23] at H; exact H) | (simp only [hji23] at H ⊢; exact H)
           have hji23_ : (a1_1 / 2 ^ min x21_2.toNat 8) = ji23 := hji23
           have hji23z : x21_2 ≤ 8 → (a1_1 / 2 ^ x21_2.toNat) = ji23 := shr_small hji23
           have H' := zm H
           clear H
           have hnb24 := NB129_128.out
           have hnc24 := NB128_129.out
           obtain ⟨hcz25_0, hcz25_1, hcz25_2, hcz25_3, hfz25_0, hfz25_1, hfz25_2, hfz25_3⟩ := zf4 BK129.out
           go_wp2
           go_meet
           case rel => exact ⟨_, (((Go.bits .and .u8 (ji23) 1) == 0)), (by first | rfl | (simp; done) | (simp only [← hji23] <;> (first | rfl | simp)) | (simp [*]; done)), H', ⟨by have := HK1.out; have := HK2.out; first | omega | exact Nat.le_refl _⟩, ⟨by (with_reducible repeat (first | apply Kd.R_alloc | apply Kd.R_drewN | apply Kd.R_drew)); exact HO_5.out⟩, ⟨by (with_reducible repeat (first | refine blk_alloc ?_ _ | refine blk_drewN ?_ _ | refine blk_drew ?_)); exact BK128.out⟩, ⟨by (with_reducible repeat (first | refine blk_alloc ?_ _ | refine blk_drewN ?_ _ | refine blk_drew ?_)); exact BK129.out⟩, ⟨by apply_rules [HB.out, zb1, zb2, zb3, zb4, GE128.out, zb4, GE129.out]⟩⟩
          rw [if_neg c22] at H
          exact absurd H (by simp)
         rw [if_neg c17] at H
         exact absurd H (by simp)
        case rest =>
         clear HC16
         (try clear c1); (try clear c2); (try clear p2); (try clear c4); (try clear c5); (try clear c7); (try clear c12); (try clear c12b0); (try clear c13); (try clear c15); (try clear c15b0); (try clear c17); (try clear c17b0); (try clear c17b1); (try clear c19); (try clear c19b0); (try clear c19b1); (try clear c20); (try clear c22); (try clear c22b0); (try clear c22b1); (try clear c24); (try clear hcz11_0)
         (try clear hcz11_1); (try clear hcz11_2); (try clear hcz14_0); (try clear hcz14_1); (try clear hcz14_2); (try clear hcz21_0); (try clear hcz21_1); (try clear hcz21_2); (try clear hcz21_3); (try clear hcz25_0); (try clear hcz25_1); (try clear hcz25_2); (try clear hcz25_3); (try clear hcz8_0); (try clear hcz8_1); (try clear hcz8_2); (try clear hcz9_0); (try clear hcz9_1); (try clear hcz9_2)
         (try clear hcz9_3); (try clear hfz11_0); (try clear hfz11_1); (try clear hfz11_2); (try clear hfz14_0); (try clear hfz14_1); (try clear hfz14_2); (try clear hfz21_0); (try clear hfz21_1); (try clear hfz21_2); (try clear hfz21_3); (try clear hfz25_0); (try clear hfz25_1); (try clear hfz25_2); (try clear hfz25_3); (try clear hfz8_0); (try clear hfz8_1); (try clear hfz8_2); (try clear hfz9_0)
         (try clear hfz9_1); (try clear hfz9_2); (try clear hfz9_3); (try clear p2)
         obtain ⟨kq, x37_15, rfl, HA, HJ15, HO_5, BK128, BK129, HB⟩ := hcut
         cases kq with
         | zero => exact absurd HA.out (by simp [when_Moments.j2])
         | succ kj15 =>
          have H := HA.out
          clear HA
          simp only [when_Moments.j2] at H
          by_cases c26 : x37_15 = true
          ·subst c26
           have H1 : (when_Moments.l1 kj15 x5_2 x16_1 a0_0 x16_1 a0_1 (wrap64 (x21_2 + 1)) a0_0 a0_1 a0_2 a1_0 a1_1 a1_2 a1_3) = some r := by rw [if_pos rfl] at H; exact H
           clear H
           have H := H1
           clear H1
           have H' := zm H
           clear H
           go_wp2
           go_roundg kj15
           case measure => have := HK1.out; have := HK2.out; have := HJ15.out; omega
           case rel => exact ⟨(x5_2), (wrap64 (x21_2 + 1)), (by first | rfl | (simp; done) | (simp [*]; done)), H', ⟨by have := HK1.out; have := HK2.out; have := HJ15.out; omega⟩, ⟨by (with_reducible repeat (first | apply Kd.R_alloc | apply Kd.R_drewN | apply Kd.R_drew)); exact HO_5.out⟩, ⟨by (with_reducible repeat (first | refine blk_alloc ?_ _ | refine blk_drewN ?_ _ | refine blk_drew ?_)); exact BK128.out⟩, ⟨by (with_reducible repeat (first | refine blk_alloc ?_ _ | refine blk_drewN ?_ _ | refine blk_drew ?_)); exact BK129.out⟩, ⟨by apply_rules [HB.out, zb1, zb2, zb3, zb4, GE128.out, zb4, GE129.out]⟩⟩
          replace c26 := Bool.eq_false_iff.mpr c26
          subst c26
          have H1 : (when_Moments.l2 kj15 x5_2 x16_1 (wrap64 ((wrap64 ((wrap64 ((wrap64 (x16_1 * a0_1)) + x21_2)) * a0_2)) + a1_2)) a0_0 x16_1 a0_1 x21_2 a1_3 0 a0_0 a0_1 a0_2 a1_0 a1_1 a1_2 a1_3) = some r := by rw [if_neg (show ¬ (false = true) by decide)] at H; exact H
          clear H
          have H := H1
          clear H1
          have H' := zm H
          clear H
          have hnb27 := NB128_129.out
          have hnc27 := NB129_128.out
          obtain ⟨hcz28_0, hcz28_1, hcz28_2, hfz28_0, hfz28_1, hfz28_2⟩ := zf3 BK128.out
          obtain ⟨hcz29_0, hcz29_1, hcz29_2, hcz29_3, hfz29_0, hfz29_1, hfz29_2, hfz29_3⟩ := zf4 BK129.out
          go_wp2
          go_loopg [5, 52] kj15 (fun kq v5 v52 w' => ∃ (x5_4 : List Int) (x52_4 : Int), v52 = .int .i64 x52_4 ∧ Aside0 (when_Moments.l2 kq x5_4 x16_1 (wrap64 ((wrap64 ((wrap64 ((wrap64 (x16_1 * a0_1)) + x21_2)) * a0_2)) + a1_2)) a0_0 x16_1 a0_1 x21_2 a1_3 x52_4 a0_0 a0_1 a0_2 a1_0 a1_1 a1_2 a1_3 = some r) ∧ Aside0 (kq ≤ kj15) ∧ Aside0 (Kd.R (Kd.int .i64) 3 w' w.heap.size (fun _ => True) v5 x5_4) ∧ Aside0 (w'.heap[gb128]? = some (.cells #[.int .i64 a0_0, .int .i64 a0_1, .int .i64 a0_2] 23 (0, 0))) ∧ Aside0 (w'.heap[gb129]? = some (.cells #[.int .u32 a1_0, .int .u8 a1_1, .int .i64 a1_2, .int .i64 a1_3] 49 (0, 0))) ∧ Aside0 (Below w.heap.size w w'))
          case atStart => exact ⟨(x5_2), (0), (by first | rfl | (simp; done) | (simp [*]; done)), H', ⟨Nat.le_refl _⟩, ⟨by (with_reducible repeat (first | apply Kd.R_alloc | apply Kd.R_drewN | apply Kd.R_drew)); exact HO_5.out⟩, ⟨by (with_reducible repeat (first | refine blk_alloc ?_ _ | refine blk_drewN ?_ _ | refine blk_drew ?_)); exact BK128.out⟩, ⟨by (with_reducible repeat (first | refine blk_alloc ?_ _ | refine blk_drewN ?_ _ | refine blk_drew ?_)); exact BK129.out⟩, ⟨by apply_rules [HB.out, zb1, zb2, zb3, zb4, GE128.out, zb4, GE129.out]⟩⟩
          case round =>
           clear H'
           (try clear c1); (try clear c2); (try clear p2); (try clear c4); (try clear c5); (try clear p6); (try clear c7); (try clear c12); (try clear c12b0); (try clear c13); (try clear c15); (try clear c15b0); (try clear c17); (try clear c17b0); (try clear c17b1); (try clear c19); (try clear c19b0); (try clear c19b1); (try clear c20); (try clear c22); (try clear c22b0); (try clear c22b1); (try clear c24)
           (try clear c26); (try clear c27); (try clear hcz11_0); (try clear hcz11_1); (try clear hcz11_2); (try clear hcz14_0); (try clear hcz14_1); (try clear hcz14_2); (try clear hcz21_0); (try clear hcz21_1); (try clear hcz21_2); (try clear hcz21_3); (try clear hcz25_0); (try clear hcz25_1); (try clear hcz25_2); (try clear hcz25_3); (try clear hcz28_0); (try clear hcz28_1); (try clear hcz28_2)
           (try clear hcz29_0); (try clear hcz29_1); (try clear hcz29_2); (try clear hcz29_3); (try clear hcz8_0); (try clear hcz8_1); (try clear hcz8_2); (try clear hcz9_0); (try clear hcz9_1); (try clear hcz9_2); (try clear hcz9_3); (try clear hfz11_0); (try clear hfz11_1); (try clear hfz11_2); (try clear hfz14_0); (try clear hfz14_1); (try clear hfz14_2); (try clear hfz21_0); (try clear hfz21_1)
           (try clear hfz21_2); (try clear hfz21_3); (try clear hfz25_0); (try clear hfz25_1); (try clear hfz25_2); (try clear hfz25_3); (try clear hfz28_0); (try clear hfz28_1); (try clear hfz28_2); (try clear hfz29_0); (try clear hfz29_1); (try clear hfz29_2); (try clear hfz29_3); (try clear hfz8_0); (try clear hfz8_1); (try clear hfz8_2); (try clear hfz9_0); (try clear hfz9_1); (try clear hfz9_2)
           (try clear hfz9_3); (try clear p2)
           obtain ⟨x5_4, x52_4, rfl, HA, HK4, HO_5, BK128, BK129, HB⟩ := hrel
           cases gk with
           | zero => exact absurd HA.out (by simp [when_Moments.l2])
           | succ k4 =>
            have H := HA.out
            clear HA
            simp only [when_Moments.l2] at H
            by_cases c30 : x52_4 < a1_3
            ·rw [if_pos c30] at H
             have c30b0 : decide (x52_4 < a1_3) = true := decide_eq_true c30
             clear c30
             by_cases c31 : x5_4.length < 17592186044416
             ·rw [if_pos c31] at H
              have LMc31 := zm c31
              clear c31
              obtain ⟨y131, hy131⟩ : ∃ y_ : List Int, y_ = (x5_4 ++ [wrap64 ((wrap64 ((wrap64 ((wrap64 ((wrap64 (x16_1 * a0_1)) + x21_2)) * a0_2)) + a1_2)) + x52_4)]) := ⟨_, rfl⟩
              replace H : (when_Moments.l2 k4 y131 x16_1 (wrap64 ((wrap64 ((wrap64 ((wrap64 (x16_1 * a0_1)) + x21_2)) * a0_2)) + a1_2)) a0_0 x16_1 a0_1 x21_2 a1_3 (wrap64 (x52_4 + 1)) a0_0 a0_1 a0_2 a1_0 a1_1 a1_2 a1_3) = some r := by first | (rw [hy131]; with_reducible exact H) | (have H2_ := (Option.bind_some _ _).symm.trans H; rw [hy131]; with_reducible exact H2_) | (have H2_ := (Option.bind_some _ _).symm.trans H; with_reducible exact H2_) | with_reducible exact H | (rw [hy131]; exact H) | exact H
              have Ny131 := zm hy131
              clear hy131
              have H' := zm H
              clear H
              go_wp2_with (first | ((with_reducible refine gate_builtin (b := .append) (xs := #[.tmp 55, .tmp 59]) rfl ?_); at_builtin; refine Kd.R_append (Kd.int .i64) (w0 := w) w.heap.size rfl (.tmp 55) (.tmp 59) 37 3 (.int .i64 0) 8 rfl Try.underlying37 info3 rfl (by decide) (by omega) u5 x5_4 (wrap64 ((wrap64 ((wrap64 ((wrap64 ((wrap64 (x16_1 * a0_1)) + x21_2)) * a0_2)) + a1_2)) + x52_4)) [.int .i64 (wrap64 ((wrap64 ((wrap64 ((wrap64 ((wrap64 (x16_1 * a0_1)) + x21_2)) * a0_2)) + a1_2)) + x52_4))] (fun _ => True) (fun _ => False) rfl rfl ?aP (fun _ hk => hk.elim) ?aF ?aO ?aB ?aS ?aL ?_; (case aP => exact rfl); (case aB => exact (by apply_rules [HB.out, zb1, zb2, zb3, zb4, GE128.out, zb4, GE129.out])); (case aF => exact (fun _ _ => trivial)); (case aO => exact (by apply_rules [HO_5.out, Kd.R_alloc, Kd.R_drewN, Kd.R_drew])); (case aS => exact (below_size (by apply_rules [HB.out, zb1, zb2, zb3, zb4, GE128.out, zb4, GE129.out]))); (case aL => have := LMc31.out; omega); intro v132 w32 ho hb hg hat; rw [← Ny131.out] at ho; replace BK128 := zm (blk_grown (by apply_rules [BK128.out, zk1, zk2, zk3]) hg (Kd.R_ne HO_5.out BK128.out (by decide))); replace BK129 := zm (blk_grown (by apply_rules [BK129.out, zk1, zk2, zk3]) hg (Kd.R_ne HO_5.out BK129.out (by decide))); have HO133 := zm (ho); replace HB := zm (hb); clear HO_5; clear ho hb hg hat))
              go_roundg k4
              case measure => have := HK1.out; have := HK2.out; have := HJ15.out; have := HK4.out; omega
              case rel => exact ⟨(y131), (wrap64 (x52_4 + 1)), (by first | rfl | (simp; done) | (simp [*]; done)), H', ⟨by have := HK1.out; have := HK2.out; have := HJ15.out; have := HK4.out; omega⟩, ⟨by (with_reducible repeat (first | apply Kd.R_alloc | apply Kd.R_drewN | apply Kd.R_drew)); exact HO133.out⟩, ⟨by (with_reducible repeat (first | refine blk_alloc ?_ _ | refine blk_drewN ?_ _ | refine blk_drew ?_)); exact BK128.out⟩, ⟨by (with_reducible repeat (first | refine blk_alloc ?_ _ | refine blk_drewN ?_ _ | refine blk_drew ?_)); exact BK129.out⟩, ⟨by apply_rules [HB.out, zb1, zb2, zb3, zb4, GE128.out, zb4, GE129.out]⟩⟩
             rw [if_neg c31] at H
             exact absurd H (by simp)
            rw [if_neg c30] at H
            have c30b0 : decide (x52_4 < a1_3) = false := decide_eq_false c30
            clear c30
            have H' := zm H
            clear H
            go_wp2
            go_roundg k4
            case measure => have := HK1.out; have := HK2.out; have := HJ15.out; have := HK4.out; omega
            case rel => exact ⟨(x5_4), (wrap64 (x21_2 + 1)), (by first | rfl | (simp; done) | (simp [*]; done)), H', ⟨by have := HK1.out; have := HK2.out; have := HJ15.out; have := HK4.out; omega⟩, ⟨by (with_reducible repeat (first | apply Kd.R_alloc | apply Kd.R_drewN | apply Kd.R_drew)); exact HO_5.out⟩, ⟨by (with_reducible repeat (first | refine blk_alloc ?_ _ | refine blk_drewN ?_ _ | refine blk_drew ?_)); exact BK128.out⟩, ⟨by (with_reducible repeat (first | refine blk_alloc ?_ _ | refine blk_drewN ?_ _ | refine blk_drew ?_)); exact BK129.out⟩, ⟨by apply_rules [HB.out, zb1, zb2, zb3, zb4, GE128.out, zb4, GE129.out]⟩⟩
       rw [if_neg c15] at H
       have c15b0 : decide (x21_2 < a0_1) = false := decide_eq_false c15
       clear c15
       have H' := zm H
       clear H
       go_wp2
       go_roundg k2
       case measure => have := HK1.out; have := HK2.out; omega
       case rel => exact ⟨(x5_2), (wrap64 (x16_1 + 1)), (by first | rfl | (simp; done) | (simp [*]; done)), H', ⟨by have := HK1.out; have := HK2.out; omega⟩, ⟨by (with_reducible repeat (first | apply Kd.R_alloc | apply Kd.R_drewN | apply Kd.R_drew)); exact HO_5.out⟩, ⟨by (with_reducible repeat (first | refine blk_alloc ?_ _ | refine blk_drewN ?_ _ | refine blk_drew ?_)); exact BK128.out⟩, ⟨by (with_reducible repeat (first | refine blk_alloc ?_ _ | refine blk_drewN ?_ _ | refine blk_drew ?_)); exact BK129.out⟩, ⟨by apply_rules [HB.out, zb1, zb2, zb3, zb4, GE128.out, zb4, GE129.out]⟩⟩
    rw [if_neg c12] at H
    have c12b0 : decide (x16_1 < a0_0) = false := decide_eq_false c12
    clear c12
    obtain rfl := Option.some.inj H
    go_wp2
    go_ret
    exact ⟨_, by first | rfl | (simp [errW_none, errW_some] <;> rfl) | (simp [*, errW_none, errW_some] <;> rfl), by (with_reducible repeat (first | apply Kd.R_alloc | apply Kd.R_drewN | apply Kd.R_drew)); exact HO_5.out, by apply_rules [HB.out, zb1, zb2, zb3, zb4, GE128.out, zb4, GE129.out]⟩
 replace c4 := Bool.eq_false_iff.mpr c4
 subst c4
 have H1 : (some ([] : List Int)) = some r := by rw [if_neg (show ¬ (false = true) by decide)] at H; exact H
 clear H
 have H := H1
 clear H1
 obtain rfl := Option.some.inj H
 go_enter Try.func51, Try.ntmps51
 go_wp2_with (first | ((with_reducible refine gate_dst (N := 2) rfl ?_); refine box_event ?hg (N := 2) ?hd (cs := #[.int .i64 a0_0, .int .i64 a0_1, .int .i64 a0_2]) (t := 23) ?hr ?_; (case hd => rfl); (case hg => rfl); (case hr => go_simp; try rfl); intro gb128 hg w33 hbox hb; have BK128 := zm (hbox); have GW128 := zm ((by rw [hg]; exact (below_size (by apply_rules [HB.out, zb1, zb2, zb3])) : w.heap.size ≤ gb128)); have GE128 := GW128; replace HB := zm (below_step (by apply_rules [HB.out, zb1, zb2, zb3]) hb); clear hb hbox hg) | ((with_reducible refine gate_dst (N := 3) rfl ?_); refine box_event ?hg (N := 3) ?hd (cs := #[.int .u32 a1_0, .int .u8 a1_1, .int .i64 a1_2, .int .i64 a1_3]) (t := 49) ?hr ?_; (case hd => rfl); (case hg => rfl); (case hr => go_simp; try rfl); intro gb129 hg w34 hbox hb; have n0_ := zm (blk_below (by apply_rules [BK128.out, zk1, zk2, zk3]) hb); have n1_ := zm (below_step (by apply_rules [HB.out, zb1, zb2, zb3, zb4, GE128.out]) hb); have n2_ := zm (hbox); have n3_ := zm ((by rw [hg]; exact (below_size (by apply_rules [HB.out, zb1, zb2, zb3, zb4, GE128.out])) : w.heap.size ≤ gb129)); have n4_ := n3_; have n5_ := zm ((by rw [hg]; exact Nat.ne_of_lt (blk_lt (by apply_rules [BK128.out, zk1, zk2, zk3])) : gb128 ≠ gb129)); have n6_ := zm ((by rw [hg]; exact Nat.ne_of_gt (blk_lt (by apply_rules [BK128.out, zk1, zk2, zk3])) : gb129 ≠ gb128)); clear BK128; clear HB; have BK128 := n0_; have HB := n1_; have BK129 := n2_; have GW129 := n3_; have GE129 := n4_; have NB128_129 := n5_; have NB129_128 := n6_; clear n0_ n1_ n2_ n3_ n4_ n5_ n6_; clear hb hbox hg; have hnb35 := NB128_129.out; have hnc35 := NB129_128.out; obtain ⟨hcz36_0, hcz36_1, hcz36_2, hfz36_0, hfz36_1, hfz36_2⟩ := zf3 BK128.out; obtain ⟨hcz37_0, hcz37_1, hcz37_2, hcz37_3, hfz37_0, hfz37_1, hfz37_2, hfz37_3⟩ := zf4 BK129.out) | ((with_reducible refine gate_callee (f := 27) rfl ?_); refine goesL_ (some 12) rfl rfl Try.func27 (by kernel_rfl) rfl #[.agg #[.int .i64 a0_0, .int .i64 a0_1, .int .i64 a0_2], .agg #[.int .u32 a1_0, .int .u8 a1_1, .int .i64 a1_2, .int .i64 a1_3]] rfl (by (try simp only [zt1, zt2, zt3]) <;> rfl) ?_; (with_reducible refine (when_Right.calls a0_0 a0_1 a0_2 a1_0 a1_1 a1_2 a1_3 false _ A3.out).mono ?_); rintro e w38 ⟨rfl, hb⟩; refine ⟨_, rfl, ?_⟩; replace BK128 := zm (blk_below (by apply_rules [BK128.out, zk1, zk2, zk3]) hb); replace BK129 := zm (blk_below (by apply_rules [BK129.out, zk1, zk2, zk3]) hb); replace HB := zm (below_step (by apply_rules [HB.out, zb1, zb2, zb3, zb4, GE128.out, zb4, GE129.out]) hb); (try clear hb)))
 go_ret
 exact ⟨_, by first | rfl | (simp [errW_none, errW_some] <;> rfl) | (simp [*, errW_none, errW_some] <;> rfl), by first | exact Kd.R_nil _ _ _ _ _ | exact Kd.N_nil _ _ _ _ _ | exact Kd.V_nil _ _ _ _ _ | exact Kd.Q_nil _ _ _ _ _ | exact Kd.S_nil _ _ _ _ _, by apply_rules [HB.out, zb1, zb2, zb3, zb4, GE128.out, zb4, GE129.out]⟩
end Go.Proofs.Ytlfnpakpkniipaa.Q
