-- Written by this session's own program (wip/tools/myprint.py over the guide's print): functions of the given program as Lean functions, and that the machine's calls tell the same.
import Derived.Test.YtcpknfcococneaaQx0
import Derived.Test.YtcpknfcococneaaQx25
namespace Go.Proofs.Ytcpknfcococneaa.Q
open Go.RowKit Go.Proofs.YtcpknfcococneaaW.PrintWords Go.Proofs.YtcpknfcococneaaW.PrintLast Go.Proofs.YtcpknfcococneaaW.PrintMore
attribute [local go_sem] max2_int min2_int max_two min_two max_three min_three max_four min_four   -- for this text's walks alone
set_option linter.unusedVariables false
set_option linter.unusedSimpArgs false

/-! ### class_Same: function 26 -/
def class_Same.j0 : Nat → Bool → ByteArray → Int → Int → List Int → List (S58) → List (S60) → Int → ByteArray → Int → Int → List Int → List (S58) → List (S60) → Int → Option (Bool)
  | 0, _, _, _, _, _, _, _, _, _, _, _, _, _, _, _ => none
  | k + 1, x30, x264000, x264001, x264002, x264003, x264004, x264005, x264006, x265000, x265001, x265002, x265003, x265004, x265005, x265006 => if x30 = true then (some false) else ((slices_Equal_int_int.f k x264003 x265003).bind fun t265 => (if t265 = true then ((api_Time.f k x264004 x265004).bind fun t266 => (if t266 = true then ((api_Place.f k x264005 x265005).bind fun t267 => (some t267)) else (some false))) else (some false)))
def class_Same.f (k : Nat) (a0_0 : ByteArray) (a0_1 : Int) (a0_2 : Int) (l0_3 : List Int) (l0_4 : List (S58)) (l0_5 : List (S60)) (a0_6 : Int) (a1_0 : ByteArray) (a1_1 : Int) (a1_2 : Int) (l1_3 : List Int) (l1_4 : List (S58)) (l1_5 : List (S60)) (a1_6 : Int) : Option (Bool) := if a0_0.toList = a1_0.toList then (if a0_1 = a1_1 then (if a0_2 = a1_2 then (class_Same.j0 k (a0_6 != a1_6) a0_0 a0_1 a0_2 l0_3 l0_4 l0_5 a0_6 a1_0 a1_1 a1_2 l1_3 l1_4 l1_5 a1_6) else (class_Same.j0 k true a0_0 a0_1 a0_2 l0_3 l0_4 l0_5 a0_6 a1_0 a1_1 a1_2 l1_3 l1_4 l1_5 a1_6)) else (class_Same.j0 k true a0_0 a0_1 a0_2 l0_3 l0_4 l0_5 a0_6 a1_0 a1_1 a1_2 l1_3 l1_4 l1_5 a1_6)) else (class_Same.j0 k true a0_0 a0_1 a0_2 l0_3 l0_4 l0_5 a0_6 a1_0 a1_1 a1_2 l1_3 l1_4 l1_5 a1_6)
theorem class_Same.mono_l : ∀ k, (∀ y0 y1 y2 y3 y4 y5 y6 y7 y8 y9 y10 y11 y12 y13 y14, LeO (class_Same.j0 k y0 y1 y2 y3 y4 y5 y6 y7 y8 y9 y10 y11 y12 y13 y14) (class_Same.j0 (k + 1) y0 y1 y2 y3 y4 y5 y6 y7 y8 y9 y10 y11 y12 y13 y14))
  | 0 => fun _ _ _ _ _ _ _ _ _ _ _ _ _ _ _ r h => by simp [class_Same.j0] at h
  | k + 1 => by
    have ih0 := class_Same.mono_l k
    · intro y0 y1 y2 y3 y4 y5 y6 y7 y8 y9 y10 y11 y12 y13 y14
      unfold class_Same.j0
      repeat' first
      | (with_reducible exact ih0 _ _ _ _ _ _ _ _ _ _ _ _ _ _ _)
      | (with_reducible exact api_Place.mono _ _ _)
      | (with_reducible exact api_Time.mono _ _ _)
      | (with_reducible exact slices_Equal_int_int.mono _ _ _)
      | (with_reducible exact LeO.refl _)
      | (with_reducible exact LeO.none _)
      | (with_reducible refine LeO.ite ?_ ?_)
      | (with_reducible refine LeO.bind ?_ (fun _ => ?_))
      | exact ih0 _ _ _ _ _ _ _ _ _ _ _ _ _ _ _
      | exact api_Place.mono _ _ _
      | exact api_Time.mono _ _ _
      | exact slices_Equal_int_int.mono _ _ _
      | exact LeO.none _
      | refine LeO.ite ?_ ?_
      | refine LeO.bind ?_ (fun _ => ?_)
theorem class_Same.mono : ∀ a0 a1 a2 a3 a4 a5 a6 a7 a8 a9 a10 a11 a12 a13 k, LeO (class_Same.f k a0 a1 a2 a3 a4 a5 a6 a7 a8 a9 a10 a11 a12 a13) (class_Same.f (k + 1) a0 a1 a2 a3 a4 a5 a6 a7 a8 a9 a10 a11 a12 a13) := by
  intro a0 a1 a2 a3 a4 a5 a6 a7 a8 a9 a10 a11 a12 a13 k
  have ih0 := class_Same.mono_l k
  unfold class_Same.f
  repeat' first
      | (with_reducible exact ih0 _ _ _ _ _ _ _ _ _ _ _ _ _ _ _)
      | (with_reducible exact api_Place.mono _ _ _)
      | (with_reducible exact api_Time.mono _ _ _)
      | (with_reducible exact slices_Equal_int_int.mono _ _ _)
      | (with_reducible exact LeO.refl _)
      | (with_reducible exact LeO.none _)
      | (with_reducible refine LeO.ite ?_ ?_)
      | (with_reducible refine LeO.bind ?_ (fun _ => ?_))
      | exact ih0 _ _ _ _ _ _ _ _ _ _ _ _ _ _ _
      | exact api_Place.mono _ _ _
      | exact api_Time.mono _ _ _
      | exact slices_Equal_int_int.mono _ _ _
      | exact LeO.none _
      | refine LeO.ite ?_ ?_
      | refine LeO.bind ?_ (fun _ => ?_)
set_option maxHeartbeats 8000000 in
set_option maxRecDepth 100000 in
theorem class_Same.calls (k : Nat) (a0_0 : ByteArray) (a0_1 : Int) (a0_2 : Int) (A0_3 : Option Addr) (c0_3 : Nat) (l0_3 : List Int) (A0_4 : Option Addr) (c0_4 : Nat) (l0_4 : List (S58)) (A0_5 : Option Addr) (c0_5 : Nat) (l0_5 : List (S60)) (a0_6 : Int) (a1_0 : ByteArray) (a1_1 : Int) (a1_2 : Int) (A1_3 : Option Addr) (c1_3 : Nat) (l1_3 : List Int) (A1_4 : Option Addr) (c1_4 : Nat) (l1_4 : List (S58)) (A1_5 : Option Addr) (c1_5 : Nat) (l1_5 : List (S60)) (a1_6 : Int) (r : Bool) (w : World) (hr0_3 : Kd.C (Kd.int .i64) w A0_3 l0_3.length l0_3) (hc0_3 : l0_3.length ≤ c0_3) (hr0_4 : Kd.C k58 w A0_4 l0_4.length l0_4) (hc0_4 : l0_4.length ≤ c0_4) (hr0_5 : Kd.C k60 w A0_5 l0_5.length l0_5) (hc0_5 : l0_5.length ≤ c0_5) (hr1_3 : Kd.C (Kd.int .i64) w A1_3 l1_3.length l1_3) (hc1_3 : l1_3.length ≤ c1_3) (hr1_4 : Kd.C k58 w A1_4 l1_4.length l1_4) (hc1_4 : l1_4.length ≤ c1_4) (hr1_5 : Kd.C k60 w A1_5 l1_5.length l1_5) (hc1_5 : l1_5.length ≤ c1_5) (h : class_Same.f k a0_0 a0_1 a0_2 l0_3 l0_4 l0_5 a0_6 a1_0 a1_1 a1_2 l1_3 l1_4 l1_5 a1_6 = some r) :
    Calls Try.prog 26 #[.agg #[.string a0_0, .int .i64 a0_1, .int .u16 a0_2, .slice A0_3 l0_3.length c0_3, .slice A0_4 l0_4.length c0_4, .slice A0_5 l0_5.length c0_5, .int .i64 a0_6], .agg #[.string a1_0, .int .i64 a1_1, .int .u16 a1_2, .slice A1_3 l1_3.length c1_3, .slice A1_4 l1_4.length c1_4, .slice A1_5 l1_5.length c1_5, .int .i64 a1_6]] w fun e w' => e = .returned (.bool r) ∧ Below w.heap.size w w' := by
  have hu30 := Try.underlying30
  have HR0_3 := Aside0.mk hr0_3
  have HC0_3 := Aside0.mk hc0_3
  clear hr0_3 hc0_3
  have HR0_4 := Aside0.mk hr0_4
  have HC0_4 := Aside0.mk hc0_4
  clear hr0_4 hc0_4
  have HR0_5 := Aside0.mk hr0_5
  have HC0_5 := Aside0.mk hc0_5
  clear hr0_5 hc0_5
  have HR1_3 := Aside0.mk hr1_3
  have HC1_3 := Aside0.mk hc1_3
  clear hr1_3 hc1_3
  have HR1_4 := Aside0.mk hr1_4
  have HC1_4 := Aside0.mk hc1_4
  clear hr1_4 hc1_4
  have HR1_5 := Aside0.mk hr1_5
  have HC1_5 := Aside0.mk hc1_5
  clear hr1_5 hc1_5
  have HB := Aside0.mk (Below.refl w.heap.size w)
  have H : (if a0_0.toList = a1_0.toList then (if a0_1 = a1_1 then (if a0_2 = a1_2 then (class_Same.j0 k (a0_6 != a1_6) a0_0 a0_1 a0_2 l0_3 l0_4 l0_5 a0_6 a1_0 a1_1 a1_2 l1_3 l1_4 l1_5 a1_6) else (class_Same.j0 k true a0_0 a0_1 a0_2 l0_3 l0_4 l0_5 a0_6 a1_0 a1_1 a1_2 l1_3 l1_4 l1_5 a1_6)) else (class_Same.j0 k true a0_0 a0_1 a0_2 l0_3 l0_4 l0_5 a0_6 a1_0 a1_1 a1_2 l1_3 l1_4 l1_5 a1_6)) else (class_Same.j0 k true a0_0 a0_1 a0_2 l0_3 l0_4 l0_5 a0_6 a1_0 a1_1 a1_2 l1_3 l1_4 l1_5 a1_6)) = some r := h
  clear h
  have HC3 := Aside0.mk H
  clear H
  go_enter Try.func26, Try.ntmps26
  go_upto_region 1 with (first | ((with_reducible refine gate_dst (N := 2) rfl ?_); refine box_event ?hg (N := 2) ?hd (cs := #[.string a0_0, .int .i64 a0_1, .int .u16 a0_2, .slice A0_3 l0_3.length c0_3, .slice A0_4 l0_4.length c0_4, .slice A0_5 l0_5.length c0_5, .int .i64 a0_6]) (t := 30) ?hr ?_; (case hd => rfl); (case hg => rfl); (case hr => first | (go_simp; done) | (go_simp; rfl)); intro gb263 hg w4 hbox hb; have n0_ := Aside0.mk (below_step (by repeat (first | (with_reducible first | exact HB.out | apply below_alloc | apply pw_below_drewN | apply below_drew1) | exact HB.out)) hb); have n1_ := Aside0.mk (hbox); have n2_ := Aside0.mk ((by rw [hg]; exact (below_size (by repeat (first | (with_reducible first | exact HB.out | apply below_alloc | apply pw_below_drewN | apply below_drew1) | exact HB.out))) : w.heap.size ≤ gb263)); have n3_ := Aside0.mk ((by rw [hg]; exact (below_size (by repeat (first | (with_reducible first | exact HB.out | apply below_alloc | apply pw_below_drewN | apply below_drew1) | exact HB.out))) : w.heap.size ≤ gb263)); clear HB; have HB := n0_; have BK263 := n1_; have GW263 := n2_; have GE263 := n3_; clear n0_ n1_ n2_ n3_; clear hb hbox hg) | ((with_reducible refine gate_dst (N := 3) rfl ?_); refine box_event ?hg (N := 3) ?hd (cs := #[.string a1_0, .int .i64 a1_1, .int .u16 a1_2, .slice A1_3 l1_3.length c1_3, .slice A1_4 l1_4.length c1_4, .slice A1_5 l1_5.length c1_5, .int .i64 a1_6]) (t := 30) ?hr ?_; (case hd => rfl); (case hg => rfl); (case hr => first | (go_simp; done) | (go_simp; rfl)); intro gb264 hg w5 hbox hb; have n0_ := Aside0.mk (blk_below (g := gb263) (o := .cells #[.string a0_0, .int .i64 a0_1, .int .u16 a0_2, .slice A0_3 l0_3.length c0_3, .slice A0_4 l0_4.length c0_4, .slice A0_5 l0_5.length c0_5, .int .i64 a0_6] 30 (0, 0)) (by (with_reducible repeat (first | refine blk_drewN ?_ _ | refine blk_drew ?_ | refine blk_alloc ?_ _)); exact BK263.out) hb); have n1_ := Aside0.mk (below_step (by repeat (first | (with_reducible first | exact HB.out | apply below_alloc | apply pw_below_drewN | apply below_drew1 | refine below_set ?_ GE263.out) | exact HB.out)) hb); have n2_ := Aside0.mk (hbox); have n3_ := Aside0.mk ((by rw [hg]; exact (below_size (by repeat (first | (with_reducible first | exact HB.out | apply below_alloc | apply pw_below_drewN | apply below_drew1 | refine below_set ?_ GE263.out) | exact HB.out))) : w.heap.size ≤ gb264)); have n4_ := Aside0.mk ((by rw [hg]; exact (below_size (by repeat (first | (with_reducible first | exact HB.out | apply below_alloc | apply pw_below_drewN | apply below_drew1 | refine below_set ?_ GE263.out) | exact HB.out))) : w.heap.size ≤ gb264)); have n5_ := Aside0.mk ((by rw [hg]; exact Nat.ne_of_lt (blk_lt (g := gb263) (o := .cells #[.string a0_0, .int .i64 a0_1, .int .u16 a0_2, .slice A0_3 l0_3.length c0_3, .slice A0_4 l0_4.length c0_4, .slice A0_5 l0_5.length c0_5, .int .i64 a0_6] 30 (0, 0)) (by (with_reducible repeat (first | refine blk_drewN ?_ _ | refine blk_drew ?_ | refine blk_alloc ?_ _)); exact BK263.out)) : gb263 ≠ gb264)); have n6_ := Aside0.mk ((by rw [hg]; exact Nat.ne_of_gt (blk_lt (g := gb263) (o := .cells #[.string a0_0, .int .i64 a0_1, .int .u16 a0_2, .slice A0_3 l0_3.length c0_3, .slice A0_4 l0_4.length c0_4, .slice A0_5 l0_5.length c0_5, .int .i64 a0_6] 30 (0, 0)) (by (with_reducible repeat (first | refine blk_drewN ?_ _ | refine blk_drew ?_ | refine blk_alloc ?_ _)); exact BK263.out)) : gb264 ≠ gb263)); clear BK263; clear HB; have BK263 := n0_; have HB := n1_; have BK264 := n2_; have GW264 := n3_; have GE264 := n4_; have NB263_264 := n5_; have NB264_263 := n6_; clear n0_ n1_ n2_ n3_ n4_ n5_ n6_; clear hb hbox hg))
  (try simp only [Act.put, List.setIfInBounds_toArray, List.set_cons_zero, List.set_cons_succ])
  go_cut [30] (fun v30 wc => ∃ (kq : Nat) (x30_2 : Bool), v30 = .bool x30_2 ∧ Aside0 (class_Same.j0 kq x30_2 a0_0 a0_1 a0_2 l0_3 l0_4 l0_5 a0_6 a1_0 a1_1 a1_2 l1_3 l1_4 l1_5 a1_6 = some r) ∧ Aside0 (kq ≤ k) ∧ Aside0 (wc.heap[gb263]? = some (.cells #[.string a0_0, .int .i64 a0_1, .int .u16 a0_2, (.slice A0_3 l0_3.length c0_3), (.slice A0_4 l0_4.length c0_4), (.slice A0_5 l0_5.length c0_5), .int .i64 a0_6] 30 (0, 0))) ∧ Aside0 (wc.heap[gb264]? = some (.cells #[.string a1_0, .int .i64 a1_1, .int .u16 a1_2, (.slice A1_3 l1_3.length c1_3), (.slice A1_4 l1_4.length c1_4), (.slice A1_5 l1_5.length c1_5), .int .i64 a1_6] 30 (0, 0))) ∧ Aside0 (Below w.heap.size w wc))
  case first =>
    have H := HC3.out
    clear HC3
    by_cases c6 : a0_0.toList = a1_0.toList
    · rw [if_pos c6] at H
      have c6b0 : (a0_0.toList == a1_0.toList) = true := beq_iff_eq.mpr c6
      have c6b1 : (a0_0.toList != a1_0.toList) = false := bne_eq_false_iff_eq.mpr c6
      clear c6
      (first | rw [c6b0] | (simp only [i64_w, i32_w]; rw [c6b0]) | skip)
      by_cases c7 : a0_1 = a1_1
      · rw [if_pos c7] at H
        have c7b0 : (a0_1 == a1_1) = true := beq_iff_eq.mpr c7
        have c7b1 : (a0_1 != a1_1) = false := bne_eq_false_iff_eq.mpr c7
        clear c7
        by_cases c8 : a0_2 = a1_2
        · rw [if_pos c8] at H
          have c8b0 : (a0_2 == a1_2) = true := beq_iff_eq.mpr c8
          have c8b1 : (a0_2 != a1_2) = false := bne_eq_false_iff_eq.mpr c8
          clear c8
          have H' := Aside0.mk H
          clear H
          have hnb9 := NB263_264.out
          have hnc9 := NB264_263.out
          have hcz10_0 : w5.cell? ⟨gb263, 0, none⟩ = some (.string a0_0) := (blk_cell BK263.out 0).trans rfl
          have hcz10_1 : w5.cell? ⟨gb263, 1, none⟩ = some (.int .i64 a0_1) := (blk_cell BK263.out 1).trans rfl
          have hcz10_2 : w5.cell? ⟨gb263, 2, none⟩ = some (.int .u16 a0_2) := (blk_cell BK263.out 2).trans rfl
          have hcz10_3 : w5.cell? ⟨gb263, 3, none⟩ = some (.slice A0_3 l0_3.length c0_3) := (blk_cell BK263.out 3).trans rfl
          have hcz10_4 : w5.cell? ⟨gb263, 4, none⟩ = some (.slice A0_4 l0_4.length c0_4) := (blk_cell BK263.out 4).trans rfl
          have hcz10_5 : w5.cell? ⟨gb263, 5, none⟩ = some (.slice A0_5 l0_5.length c0_5) := (blk_cell BK263.out 5).trans rfl
          have hcz10_6 : w5.cell? ⟨gb263, 6, none⟩ = some (.int .i64 a0_6) := (blk_cell BK263.out 6).trans rfl
          have hfz10_0 := blk_frozen BK263.out 0
          have hfz10_1 := blk_frozen BK263.out 1
          have hfz10_2 := blk_frozen BK263.out 2
          have hfz10_3 := blk_frozen BK263.out 3
          have hfz10_4 := blk_frozen BK263.out 4
          have hfz10_5 := blk_frozen BK263.out 5
          have hfz10_6 := blk_frozen BK263.out 6
          have hcz11_0 : w5.cell? ⟨gb264, 0, none⟩ = some (.string a1_0) := (blk_cell BK264.out 0).trans rfl
          have hcz11_1 : w5.cell? ⟨gb264, 1, none⟩ = some (.int .i64 a1_1) := (blk_cell BK264.out 1).trans rfl
          have hcz11_2 : w5.cell? ⟨gb264, 2, none⟩ = some (.int .u16 a1_2) := (blk_cell BK264.out 2).trans rfl
          have hcz11_3 : w5.cell? ⟨gb264, 3, none⟩ = some (.slice A1_3 l1_3.length c1_3) := (blk_cell BK264.out 3).trans rfl
          have hcz11_4 : w5.cell? ⟨gb264, 4, none⟩ = some (.slice A1_4 l1_4.length c1_4) := (blk_cell BK264.out 4).trans rfl
          have hcz11_5 : w5.cell? ⟨gb264, 5, none⟩ = some (.slice A1_5 l1_5.length c1_5) := (blk_cell BK264.out 5).trans rfl
          have hcz11_6 : w5.cell? ⟨gb264, 6, none⟩ = some (.int .i64 a1_6) := (blk_cell BK264.out 6).trans rfl
          have hfz11_0 := blk_frozen BK264.out 0
          have hfz11_1 := blk_frozen BK264.out 1
          have hfz11_2 := blk_frozen BK264.out 2
          have hfz11_3 := blk_frozen BK264.out 3
          have hfz11_4 := blk_frozen BK264.out 4
          have hfz11_5 := blk_frozen BK264.out 5
          have hfz11_6 := blk_frozen BK264.out 6
          go_wp2
          go_meet
          case rel => exact ⟨_, ((a0_6 != a1_6)), (by first | rfl | (simp; done) | (simp [*]; done)), H', ⟨by first | omega | exact Nat.le_refl _⟩, ⟨by (with_reducible repeat (first | refine blk_drewN ?_ _ | refine blk_drew ?_ | refine blk_alloc ?_ _)); exact BK263.out⟩, ⟨by (with_reducible repeat (first | refine blk_drewN ?_ _ | refine blk_drew ?_ | refine blk_alloc ?_ _)); exact BK264.out⟩, ⟨by repeat (first | (with_reducible first | exact HB.out | apply below_alloc | apply pw_below_drewN | apply below_drew1 | refine below_set ?_ GE263.out | refine below_set ?_ GE264.out) | exact HB.out)⟩⟩
        · rw [if_neg c8] at H
          have c8b0 : (a0_2 == a1_2) = false := beq_eq_false_iff_ne.mpr c8
          have c8b1 : (a0_2 != a1_2) = true := bne_iff_ne.mpr c8
          have H' := Aside0.mk H
          clear H
          have hnb12 := NB263_264.out
          have hnc12 := NB264_263.out
          have hcz13_0 : w5.cell? ⟨gb263, 0, none⟩ = some (.string a0_0) := (blk_cell BK263.out 0).trans rfl
          have hcz13_1 : w5.cell? ⟨gb263, 1, none⟩ = some (.int .i64 a0_1) := (blk_cell BK263.out 1).trans rfl
          have hcz13_2 : w5.cell? ⟨gb263, 2, none⟩ = some (.int .u16 a0_2) := (blk_cell BK263.out 2).trans rfl
          have hcz13_3 : w5.cell? ⟨gb263, 3, none⟩ = some (.slice A0_3 l0_3.length c0_3) := (blk_cell BK263.out 3).trans rfl
          have hcz13_4 : w5.cell? ⟨gb263, 4, none⟩ = some (.slice A0_4 l0_4.length c0_4) := (blk_cell BK263.out 4).trans rfl
          have hcz13_5 : w5.cell? ⟨gb263, 5, none⟩ = some (.slice A0_5 l0_5.length c0_5) := (blk_cell BK263.out 5).trans rfl
          have hcz13_6 : w5.cell? ⟨gb263, 6, none⟩ = some (.int .i64 a0_6) := (blk_cell BK263.out 6).trans rfl
          have hfz13_0 := blk_frozen BK263.out 0
          have hfz13_1 := blk_frozen BK263.out 1
          have hfz13_2 := blk_frozen BK263.out 2
          have hfz13_3 := blk_frozen BK263.out 3
          have hfz13_4 := blk_frozen BK263.out 4
          have hfz13_5 := blk_frozen BK263.out 5
          have hfz13_6 := blk_frozen BK263.out 6
          have hcz14_0 : w5.cell? ⟨gb264, 0, none⟩ = some (.string a1_0) := (blk_cell BK264.out 0).trans rfl
          have hcz14_1 : w5.cell? ⟨gb264, 1, none⟩ = some (.int .i64 a1_1) := (blk_cell BK264.out 1).trans rfl
          have hcz14_2 : w5.cell? ⟨gb264, 2, none⟩ = some (.int .u16 a1_2) := (blk_cell BK264.out 2).trans rfl
          have hcz14_3 : w5.cell? ⟨gb264, 3, none⟩ = some (.slice A1_3 l1_3.length c1_3) := (blk_cell BK264.out 3).trans rfl
          have hcz14_4 : w5.cell? ⟨gb264, 4, none⟩ = some (.slice A1_4 l1_4.length c1_4) := (blk_cell BK264.out 4).trans rfl
          have hcz14_5 : w5.cell? ⟨gb264, 5, none⟩ = some (.slice A1_5 l1_5.length c1_5) := (blk_cell BK264.out 5).trans rfl
          have hcz14_6 : w5.cell? ⟨gb264, 6, none⟩ = some (.int .i64 a1_6) := (blk_cell BK264.out 6).trans rfl
          have hfz14_0 := blk_frozen BK264.out 0
          have hfz14_1 := blk_frozen BK264.out 1
          have hfz14_2 := blk_frozen BK264.out 2
          have hfz14_3 := blk_frozen BK264.out 3
          have hfz14_4 := blk_frozen BK264.out 4
          have hfz14_5 := blk_frozen BK264.out 5
          have hfz14_6 := blk_frozen BK264.out 6
          go_wp2
          go_meet
          case rel => exact ⟨_, (true), (by first | rfl | (simp; done) | (simp [*]; done)), H', ⟨by first | omega | exact Nat.le_refl _⟩, ⟨by (with_reducible repeat (first | refine blk_drewN ?_ _ | refine blk_drew ?_ | refine blk_alloc ?_ _)); exact BK263.out⟩, ⟨by (with_reducible repeat (first | refine blk_drewN ?_ _ | refine blk_drew ?_ | refine blk_alloc ?_ _)); exact BK264.out⟩, ⟨by repeat (first | (with_reducible first | exact HB.out | apply below_alloc | apply pw_below_drewN | apply below_drew1 | refine below_set ?_ GE263.out | refine below_set ?_ GE264.out) | exact HB.out)⟩⟩
      · rw [if_neg c7] at H
        have c7b0 : (a0_1 == a1_1) = false := beq_eq_false_iff_ne.mpr c7
        have c7b1 : (a0_1 != a1_1) = true := bne_iff_ne.mpr c7
        have H' := Aside0.mk H
        clear H
        have hnb15 := NB263_264.out
        have hnc15 := NB264_263.out
        have hcz16_0 : w5.cell? ⟨gb263, 0, none⟩ = some (.string a0_0) := (blk_cell BK263.out 0).trans rfl
        have hcz16_1 : w5.cell? ⟨gb263, 1, none⟩ = some (.int .i64 a0_1) := (blk_cell BK263.out 1).trans rfl
        have hcz16_2 : w5.cell? ⟨gb263, 2, none⟩ = some (.int .u16 a0_2) := (blk_cell BK263.out 2).trans rfl
        have hcz16_3 : w5.cell? ⟨gb263, 3, none⟩ = some (.slice A0_3 l0_3.length c0_3) := (blk_cell BK263.out 3).trans rfl
        have hcz16_4 : w5.cell? ⟨gb263, 4, none⟩ = some (.slice A0_4 l0_4.length c0_4) := (blk_cell BK263.out 4).trans rfl
        have hcz16_5 : w5.cell? ⟨gb263, 5, none⟩ = some (.slice A0_5 l0_5.length c0_5) := (blk_cell BK263.out 5).trans rfl
        have hcz16_6 : w5.cell? ⟨gb263, 6, none⟩ = some (.int .i64 a0_6) := (blk_cell BK263.out 6).trans rfl
        have hfz16_0 := blk_frozen BK263.out 0
        have hfz16_1 := blk_frozen BK263.out 1
        have hfz16_2 := blk_frozen BK263.out 2
        have hfz16_3 := blk_frozen BK263.out 3
        have hfz16_4 := blk_frozen BK263.out 4
        have hfz16_5 := blk_frozen BK263.out 5
        have hfz16_6 := blk_frozen BK263.out 6
        have hcz17_0 : w5.cell? ⟨gb264, 0, none⟩ = some (.string a1_0) := (blk_cell BK264.out 0).trans rfl
        have hcz17_1 : w5.cell? ⟨gb264, 1, none⟩ = some (.int .i64 a1_1) := (blk_cell BK264.out 1).trans rfl
        have hcz17_2 : w5.cell? ⟨gb264, 2, none⟩ = some (.int .u16 a1_2) := (blk_cell BK264.out 2).trans rfl
        have hcz17_3 : w5.cell? ⟨gb264, 3, none⟩ = some (.slice A1_3 l1_3.length c1_3) := (blk_cell BK264.out 3).trans rfl
        have hcz17_4 : w5.cell? ⟨gb264, 4, none⟩ = some (.slice A1_4 l1_4.length c1_4) := (blk_cell BK264.out 4).trans rfl
        have hcz17_5 : w5.cell? ⟨gb264, 5, none⟩ = some (.slice A1_5 l1_5.length c1_5) := (blk_cell BK264.out 5).trans rfl
        have hcz17_6 : w5.cell? ⟨gb264, 6, none⟩ = some (.int .i64 a1_6) := (blk_cell BK264.out 6).trans rfl
        have hfz17_0 := blk_frozen BK264.out 0
        have hfz17_1 := blk_frozen BK264.out 1
        have hfz17_2 := blk_frozen BK264.out 2
        have hfz17_3 := blk_frozen BK264.out 3
        have hfz17_4 := blk_frozen BK264.out 4
        have hfz17_5 := blk_frozen BK264.out 5
        have hfz17_6 := blk_frozen BK264.out 6
        go_wp2
        go_meet
        case rel => exact ⟨_, (true), (by first | rfl | (simp; done) | (simp [*]; done)), H', ⟨by first | omega | exact Nat.le_refl _⟩, ⟨by (with_reducible repeat (first | refine blk_drewN ?_ _ | refine blk_drew ?_ | refine blk_alloc ?_ _)); exact BK263.out⟩, ⟨by (with_reducible repeat (first | refine blk_drewN ?_ _ | refine blk_drew ?_ | refine blk_alloc ?_ _)); exact BK264.out⟩, ⟨by repeat (first | (with_reducible first | exact HB.out | apply below_alloc | apply pw_below_drewN | apply below_drew1 | refine below_set ?_ GE263.out | refine below_set ?_ GE264.out) | exact HB.out)⟩⟩
    · rw [if_neg c6] at H
      have c6b0 : (a0_0.toList == a1_0.toList) = false := beq_eq_false_iff_ne.mpr c6
      have c6b1 : (a0_0.toList != a1_0.toList) = true := bne_iff_ne.mpr c6
      (first | rw [c6b0] | (simp only [i64_w, i32_w]; rw [c6b0]) | skip)
      have H' := Aside0.mk H
      clear H
      have hnb18 := NB263_264.out
      have hnc18 := NB264_263.out
      have hcz19_0 : w5.cell? ⟨gb263, 0, none⟩ = some (.string a0_0) := (blk_cell BK263.out 0).trans rfl
      have hcz19_1 : w5.cell? ⟨gb263, 1, none⟩ = some (.int .i64 a0_1) := (blk_cell BK263.out 1).trans rfl
      have hcz19_2 : w5.cell? ⟨gb263, 2, none⟩ = some (.int .u16 a0_2) := (blk_cell BK263.out 2).trans rfl
      have hcz19_3 : w5.cell? ⟨gb263, 3, none⟩ = some (.slice A0_3 l0_3.length c0_3) := (blk_cell BK263.out 3).trans rfl
      have hcz19_4 : w5.cell? ⟨gb263, 4, none⟩ = some (.slice A0_4 l0_4.length c0_4) := (blk_cell BK263.out 4).trans rfl
      have hcz19_5 : w5.cell? ⟨gb263, 5, none⟩ = some (.slice A0_5 l0_5.length c0_5) := (blk_cell BK263.out 5).trans rfl
      have hcz19_6 : w5.cell? ⟨gb263, 6, none⟩ = some (.int .i64 a0_6) := (blk_cell BK263.out 6).trans rfl
      have hfz19_0 := blk_frozen BK263.out 0
      have hfz19_1 := blk_frozen BK263.out 1
      have hfz19_2 := blk_frozen BK263.out 2
      have hfz19_3 := blk_frozen BK263.out 3
      have hfz19_4 := blk_frozen BK263.out 4
      have hfz19_5 := blk_frozen BK263.out 5
      have hfz19_6 := blk_frozen BK263.out 6
      have hcz20_0 : w5.cell? ⟨gb264, 0, none⟩ = some (.string a1_0) := (blk_cell BK264.out 0).trans rfl
      have hcz20_1 : w5.cell? ⟨gb264, 1, none⟩ = some (.int .i64 a1_1) := (blk_cell BK264.out 1).trans rfl
      have hcz20_2 : w5.cell? ⟨gb264, 2, none⟩ = some (.int .u16 a1_2) := (blk_cell BK264.out 2).trans rfl
      have hcz20_3 : w5.cell? ⟨gb264, 3, none⟩ = some (.slice A1_3 l1_3.length c1_3) := (blk_cell BK264.out 3).trans rfl
      have hcz20_4 : w5.cell? ⟨gb264, 4, none⟩ = some (.slice A1_4 l1_4.length c1_4) := (blk_cell BK264.out 4).trans rfl
      have hcz20_5 : w5.cell? ⟨gb264, 5, none⟩ = some (.slice A1_5 l1_5.length c1_5) := (blk_cell BK264.out 5).trans rfl
      have hcz20_6 : w5.cell? ⟨gb264, 6, none⟩ = some (.int .i64 a1_6) := (blk_cell BK264.out 6).trans rfl
      have hfz20_0 := blk_frozen BK264.out 0
      have hfz20_1 := blk_frozen BK264.out 1
      have hfz20_2 := blk_frozen BK264.out 2
      have hfz20_3 := blk_frozen BK264.out 3
      have hfz20_4 := blk_frozen BK264.out 4
      have hfz20_5 := blk_frozen BK264.out 5
      have hfz20_6 := blk_frozen BK264.out 6
      go_wp2
      go_meet
      case rel => exact ⟨_, (true), (by first | rfl | (simp; done) | (simp [*]; done)), H', ⟨by first | omega | exact Nat.le_refl _⟩, ⟨by (with_reducible repeat (first | refine blk_drewN ?_ _ | refine blk_drew ?_ | refine blk_alloc ?_ _)); exact BK263.out⟩, ⟨by (with_reducible repeat (first | refine blk_drewN ?_ _ | refine blk_drew ?_ | refine blk_alloc ?_ _)); exact BK264.out⟩, ⟨by repeat (first | (with_reducible first | exact HB.out | apply below_alloc | apply pw_below_drewN | apply below_drew1 | refine below_set ?_ GE263.out | refine below_set ?_ GE264.out) | exact HB.out)⟩⟩
  case rest =>
    clear HC3
    try clear c1
    try clear c2
    try clear p2
    try clear c6
    try clear c6b0
    try clear c6b1
    try clear c7
    try clear c7b0
    try clear c7b1
    try clear c8
    try clear c8b0
    try clear c8b1
    try clear c9
    try clear c12
    try clear c15
    try clear c18
    try clear hcz10_0
    try clear hcz10_1
    try clear hcz10_2
    try clear hcz10_3
    try clear hcz10_4
    try clear hcz10_5
    try clear hcz10_6
    try clear hcz11_0
    try clear hcz11_1
    try clear hcz11_2
    try clear hcz11_3
    try clear hcz11_4
    try clear hcz11_5
    try clear hcz11_6
    try clear hcz13_0
    try clear hcz13_1
    try clear hcz13_2
    try clear hcz13_3
    try clear hcz13_4
    try clear hcz13_5
    try clear hcz13_6
    try clear hcz14_0
    try clear hcz14_1
    try clear hcz14_2
    try clear hcz14_3
    try clear hcz14_4
    try clear hcz14_5
    try clear hcz14_6
    try clear hcz16_0
    try clear hcz16_1
    try clear hcz16_2
    try clear hcz16_3
    try clear hcz16_4
    try clear hcz16_5
    try clear hcz16_6
    try clear hcz17_0
    try clear hcz17_1
    try clear hcz17_2
    try clear hcz17_3
    try clear hcz17_4
    try clear hcz17_5
    try clear hcz17_6
    try clear hcz19_0
    try clear hcz19_1
    try clear hcz19_2
    try clear hcz19_3
    try clear hcz19_4
    try clear hcz19_5
    try clear hcz19_6
    try clear hcz20_0
    try clear hcz20_1
    try clear hcz20_2
    try clear hcz20_3
    try clear hcz20_4
    try clear hcz20_5
    try clear hcz20_6
    try clear hfz10_0
    try clear hfz10_1
    try clear hfz10_2
    try clear hfz10_3
    try clear hfz10_4
    try clear hfz10_5
    try clear hfz10_6
    try clear hfz11_0
    try clear hfz11_1
    try clear hfz11_2
    try clear hfz11_3
    try clear hfz11_4
    try clear hfz11_5
    try clear hfz11_6
    try clear hfz13_0
    try clear hfz13_1
    try clear hfz13_2
    try clear hfz13_3
    try clear hfz13_4
    try clear hfz13_5
    try clear hfz13_6
    try clear hfz14_0
    try clear hfz14_1
    try clear hfz14_2
    try clear hfz14_3
    try clear hfz14_4
    try clear hfz14_5
    try clear hfz14_6
    try clear hfz16_0
    try clear hfz16_1
    try clear hfz16_2
    try clear hfz16_3
    try clear hfz16_4
    try clear hfz16_5
    try clear hfz16_6
    try clear hfz17_0
    try clear hfz17_1
    try clear hfz17_2
    try clear hfz17_3
    try clear hfz17_4
    try clear hfz17_5
    try clear hfz17_6
    try clear hfz19_0
    try clear hfz19_1
    try clear hfz19_2
    try clear hfz19_3
    try clear hfz19_4
    try clear hfz19_5
    try clear hfz19_6
    try clear hfz20_0
    try clear hfz20_1
    try clear hfz20_2
    try clear hfz20_3
    try clear hfz20_4
    try clear hfz20_5
    try clear hfz20_6
    obtain ⟨kq, x30_2, rfl, HA, HJ2, BK263, BK264, HB⟩ := hcut
    cases kq with
    | zero => exact absurd HA.out (by simp [class_Same.j0])
    | succ kj2 =>
      have H := HA.out
      clear HA
      simp only [class_Same.j0] at H
      by_cases c21 : x30_2 = true
      · subst c21
        have H1 : (some false) = some r := by rw [if_pos rfl] at H; exact H
        clear H
        have H := H1
        clear H1
        obtain rfl := Option.some.inj H
        go_wp2
        go_ret
        exact ⟨by first | rfl | (simp [errW_none, errW_some] <;> rfl) | (simp [*, errW_none, errW_some] <;> rfl), by repeat (first | (with_reducible first | exact HB.out | apply below_alloc | apply pw_below_drewN | apply below_drew1 | refine below_set ?_ GE263.out | refine below_set ?_ GE264.out) | exact HB.out)⟩
      · replace c21 := Bool.eq_false_iff.mpr c21
        subst c21
        have H1 : ((slices_Equal_int_int.f kj2 l0_3 l1_3).bind fun t265 => (if t265 = true then ((api_Time.f kj2 l0_4 l1_4).bind fun t266 => (if t266 = true then ((api_Place.f kj2 l0_5 l1_5).bind fun t267 => (some t267)) else (some false))) else (some false))) = some r := by rw [if_neg (show ¬ (false = true) by decide)] at H; exact H
        clear H
        have H := H1
        clear H1
        replace H := Option.bind_eq_some_iff.mp H
        obtain ⟨t265, A220, H⟩ := H
        replace H : (if t265 = true then ((api_Time.f kj2 l0_4 l1_4).bind fun t266 => (if t266 = true then ((api_Place.f kj2 l0_5 l1_5).bind fun t267 => (some t267)) else (some false))) else (some false)) = some r := H
        have A22 := Aside0.mk A220
        clear A220
        by_cases c23 : t265 = true
        · subst c23
          have H1 : ((api_Time.f kj2 l0_4 l1_4).bind fun t266 => (if t266 = true then ((api_Place.f kj2 l0_5 l1_5).bind fun t267 => (some t267)) else (some false))) = some r := by rw [if_pos rfl] at H; exact H
          clear H
          have H := H1
          clear H1
          replace H := Option.bind_eq_some_iff.mp H
          obtain ⟨t266, A240, H⟩ := H
          replace H : (if t266 = true then ((api_Place.f kj2 l0_5 l1_5).bind fun t267 => (some t267)) else (some false)) = some r := H
          have A24 := Aside0.mk A240
          clear A240
          by_cases c25 : t266 = true
          · subst c25
            have H1 : ((api_Place.f kj2 l0_5 l1_5).bind fun t267 => (some t267)) = some r := by rw [if_pos rfl] at H; exact H
            clear H
            have H := H1
            clear H1
            replace H := Option.bind_eq_some_iff.mp H
            obtain ⟨t267, A260, H⟩ := H
            replace H : (some t267) = some r := H
            have A26 := Aside0.mk A260
            clear A260
            obtain rfl := Option.some.inj H
            have hnb27 := NB263_264.out
            have hnc27 := NB264_263.out
            have hcz28_0 : wc.cell? ⟨gb263, 0, none⟩ = some (.string a0_0) := (blk_cell BK263.out 0).trans rfl
            have hcz28_1 : wc.cell? ⟨gb263, 1, none⟩ = some (.int .i64 a0_1) := (blk_cell BK263.out 1).trans rfl
            have hcz28_2 : wc.cell? ⟨gb263, 2, none⟩ = some (.int .u16 a0_2) := (blk_cell BK263.out 2).trans rfl
            have hcz28_3 : wc.cell? ⟨gb263, 3, none⟩ = some (.slice A0_3 l0_3.length c0_3) := (blk_cell BK263.out 3).trans rfl
            have hcz28_4 : wc.cell? ⟨gb263, 4, none⟩ = some (.slice A0_4 l0_4.length c0_4) := (blk_cell BK263.out 4).trans rfl
            have hcz28_5 : wc.cell? ⟨gb263, 5, none⟩ = some (.slice A0_5 l0_5.length c0_5) := (blk_cell BK263.out 5).trans rfl
            have hcz28_6 : wc.cell? ⟨gb263, 6, none⟩ = some (.int .i64 a0_6) := (blk_cell BK263.out 6).trans rfl
            have hfz28_0 := blk_frozen BK263.out 0
            have hfz28_1 := blk_frozen BK263.out 1
            have hfz28_2 := blk_frozen BK263.out 2
            have hfz28_3 := blk_frozen BK263.out 3
            have hfz28_4 := blk_frozen BK263.out 4
            have hfz28_5 := blk_frozen BK263.out 5
            have hfz28_6 := blk_frozen BK263.out 6
            have hcz29_0 : wc.cell? ⟨gb264, 0, none⟩ = some (.string a1_0) := (blk_cell BK264.out 0).trans rfl
            have hcz29_1 : wc.cell? ⟨gb264, 1, none⟩ = some (.int .i64 a1_1) := (blk_cell BK264.out 1).trans rfl
            have hcz29_2 : wc.cell? ⟨gb264, 2, none⟩ = some (.int .u16 a1_2) := (blk_cell BK264.out 2).trans rfl
            have hcz29_3 : wc.cell? ⟨gb264, 3, none⟩ = some (.slice A1_3 l1_3.length c1_3) := (blk_cell BK264.out 3).trans rfl
            have hcz29_4 : wc.cell? ⟨gb264, 4, none⟩ = some (.slice A1_4 l1_4.length c1_4) := (blk_cell BK264.out 4).trans rfl
            have hcz29_5 : wc.cell? ⟨gb264, 5, none⟩ = some (.slice A1_5 l1_5.length c1_5) := (blk_cell BK264.out 5).trans rfl
            have hcz29_6 : wc.cell? ⟨gb264, 6, none⟩ = some (.int .i64 a1_6) := (blk_cell BK264.out 6).trans rfl
            have hfz29_0 := blk_frozen BK264.out 0
            have hfz29_1 := blk_frozen BK264.out 1
            have hfz29_2 := blk_frozen BK264.out 2
            have hfz29_3 := blk_frozen BK264.out 3
            have hfz29_4 := blk_frozen BK264.out 4
            have hfz29_5 := blk_frozen BK264.out 5
            have hfz29_6 := blk_frozen BK264.out 6
            go_wp2_with (first | ((with_reducible refine gate_callee (f := 39) rfl ?_); refine goesL_ (some 35) rfl rfl Try.func39 (by kernel_rfl) rfl #[.slice A0_3 l0_3.length c0_3, .slice A1_3 l1_3.length c1_3] rfl (by (try simp only [List.map_toArray, List.map_cons, List.map_nil]); first | done | rfl | (simp only [List.length_drop, List.length_take]; rfl)) ?_; (with_reducible refine (slices_Equal_int_int.calls kj2 _ _ l0_3 _ _ l1_3 true _ ?side1 ?side2 ?side3 ?side4 A22.out).mono ?_); (case side1 => repeat (first | exact (Kd.C_below HR0_3.out HB.out) | (with_reducible refine Kd.C_alloc ?_ _) | (with_reducible refine Kd.C_drewN ?_ _) | (with_reducible refine Kd.C_drew ?_))); (case side2 => exact HC0_3.out); (case side3 => repeat (first | exact (Kd.C_below HR1_3.out HB.out) | (with_reducible refine Kd.C_alloc ?_ _) | (with_reducible refine Kd.C_drewN ?_ _) | (with_reducible refine Kd.C_drew ?_))); (case side4 => exact HC1_3.out); rintro e w' ⟨rfl, ⟨nd, rfl⟩⟩; refine ⟨_, rfl, ?_⟩) | (go_at_call 40; (with_reducible refine (api_Time.calls kj2 _ _ l0_4 _ _ l1_4 true _ ?side1 ?side2 ?side3 ?side4 A24.out).mono ?_); (case side1 => repeat (first | exact (Kd.C_below HR0_4.out (by repeat (first | (with_reducible first | exact HB.out | apply below_alloc | apply pw_below_drewN | apply below_drew1 | refine below_set ?_ GE263.out | refine below_set ?_ GE264.out) | exact HB.out))) | (with_reducible refine Kd.C_alloc ?_ _) | (with_reducible refine Kd.C_drewN ?_ _) | (with_reducible refine Kd.C_drew ?_))); (case side2 => exact HC0_4.out); (case side3 => repeat (first | exact (Kd.C_below HR1_4.out (by repeat (first | (with_reducible first | exact HB.out | apply below_alloc | apply pw_below_drewN | apply below_drew1 | refine below_set ?_ GE263.out | refine below_set ?_ GE264.out) | exact HB.out))) | (with_reducible refine Kd.C_alloc ?_ _) | (with_reducible refine Kd.C_drewN ?_ _) | (with_reducible refine Kd.C_drew ?_))); (case side4 => exact HC1_4.out); rintro e w' ⟨rfl, ⟨nd, rfl⟩⟩) | (go_at_call 41; (with_reducible refine (api_Place.calls kj2 _ _ l0_5 _ _ l1_5 t267 _ ?side1 ?side2 ?side3 ?side4 A26.out).mono ?_); (case side1 => repeat (first | exact (Kd.C_below HR0_5.out (by repeat (first | (with_reducible first | exact HB.out | apply below_alloc | apply pw_below_drewN | apply below_drew1 | refine below_set ?_ GE263.out | refine below_set ?_ GE264.out) | exact HB.out))) | (with_reducible refine Kd.C_alloc ?_ _) | (with_reducible refine Kd.C_drewN ?_ _) | (with_reducible refine Kd.C_drew ?_))); (case side2 => exact HC0_5.out); (case side3 => repeat (first | exact (Kd.C_below HR1_5.out (by repeat (first | (with_reducible first | exact HB.out | apply below_alloc | apply pw_below_drewN | apply below_drew1 | refine below_set ?_ GE263.out | refine below_set ?_ GE264.out) | exact HB.out))) | (with_reducible refine Kd.C_alloc ?_ _) | (with_reducible refine Kd.C_drewN ?_ _) | (with_reducible refine Kd.C_drew ?_))); (case side4 => exact HC1_5.out); rintro e w' ⟨rfl, ⟨nd, rfl⟩⟩))
            go_ret
            exact ⟨by first | rfl | (simp [errW_none, errW_some] <;> rfl) | (simp [*, errW_none, errW_some] <;> rfl), by repeat (first | (with_reducible first | exact HB.out | apply below_alloc | apply pw_below_drewN | apply below_drew1 | refine below_set ?_ GE263.out | refine below_set ?_ GE264.out) | exact HB.out)⟩
          · replace c25 := Bool.eq_false_iff.mpr c25
            subst c25
            have H1 : (some false) = some r := by rw [if_neg (show ¬ (false = true) by decide)] at H; exact H
            clear H
            have H := H1
            clear H1
            obtain rfl := Option.some.inj H
            have hnb30 := NB263_264.out
            have hnc30 := NB264_263.out
            have hcz31_0 : wc.cell? ⟨gb263, 0, none⟩ = some (.string a0_0) := (blk_cell BK263.out 0).trans rfl
            have hcz31_1 : wc.cell? ⟨gb263, 1, none⟩ = some (.int .i64 a0_1) := (blk_cell BK263.out 1).trans rfl
            have hcz31_2 : wc.cell? ⟨gb263, 2, none⟩ = some (.int .u16 a0_2) := (blk_cell BK263.out 2).trans rfl
            have hcz31_3 : wc.cell? ⟨gb263, 3, none⟩ = some (.slice A0_3 l0_3.length c0_3) := (blk_cell BK263.out 3).trans rfl
            have hcz31_4 : wc.cell? ⟨gb263, 4, none⟩ = some (.slice A0_4 l0_4.length c0_4) := (blk_cell BK263.out 4).trans rfl
            have hcz31_5 : wc.cell? ⟨gb263, 5, none⟩ = some (.slice A0_5 l0_5.length c0_5) := (blk_cell BK263.out 5).trans rfl
            have hcz31_6 : wc.cell? ⟨gb263, 6, none⟩ = some (.int .i64 a0_6) := (blk_cell BK263.out 6).trans rfl
            have hfz31_0 := blk_frozen BK263.out 0
            have hfz31_1 := blk_frozen BK263.out 1
            have hfz31_2 := blk_frozen BK263.out 2
            have hfz31_3 := blk_frozen BK263.out 3
            have hfz31_4 := blk_frozen BK263.out 4
            have hfz31_5 := blk_frozen BK263.out 5
            have hfz31_6 := blk_frozen BK263.out 6
            have hcz32_0 : wc.cell? ⟨gb264, 0, none⟩ = some (.string a1_0) := (blk_cell BK264.out 0).trans rfl
            have hcz32_1 : wc.cell? ⟨gb264, 1, none⟩ = some (.int .i64 a1_1) := (blk_cell BK264.out 1).trans rfl
            have hcz32_2 : wc.cell? ⟨gb264, 2, none⟩ = some (.int .u16 a1_2) := (blk_cell BK264.out 2).trans rfl
            have hcz32_3 : wc.cell? ⟨gb264, 3, none⟩ = some (.slice A1_3 l1_3.length c1_3) := (blk_cell BK264.out 3).trans rfl
            have hcz32_4 : wc.cell? ⟨gb264, 4, none⟩ = some (.slice A1_4 l1_4.length c1_4) := (blk_cell BK264.out 4).trans rfl
            have hcz32_5 : wc.cell? ⟨gb264, 5, none⟩ = some (.slice A1_5 l1_5.length c1_5) := (blk_cell BK264.out 5).trans rfl
            have hcz32_6 : wc.cell? ⟨gb264, 6, none⟩ = some (.int .i64 a1_6) := (blk_cell BK264.out 6).trans rfl
            have hfz32_0 := blk_frozen BK264.out 0
            have hfz32_1 := blk_frozen BK264.out 1
            have hfz32_2 := blk_frozen BK264.out 2
            have hfz32_3 := blk_frozen BK264.out 3
            have hfz32_4 := blk_frozen BK264.out 4
            have hfz32_5 := blk_frozen BK264.out 5
            have hfz32_6 := blk_frozen BK264.out 6
            go_wp2_with (first | ((with_reducible refine gate_callee (f := 39) rfl ?_); refine goesL_ (some 35) rfl rfl Try.func39 (by kernel_rfl) rfl #[.slice A0_3 l0_3.length c0_3, .slice A1_3 l1_3.length c1_3] rfl (by (try simp only [List.map_toArray, List.map_cons, List.map_nil]); first | done | rfl | (simp only [List.length_drop, List.length_take]; rfl)) ?_; (with_reducible refine (slices_Equal_int_int.calls kj2 _ _ l0_3 _ _ l1_3 true _ ?side1 ?side2 ?side3 ?side4 A22.out).mono ?_); (case side1 => repeat (first | exact (Kd.C_below HR0_3.out HB.out) | (with_reducible refine Kd.C_alloc ?_ _) | (with_reducible refine Kd.C_drewN ?_ _) | (with_reducible refine Kd.C_drew ?_))); (case side2 => exact HC0_3.out); (case side3 => repeat (first | exact (Kd.C_below HR1_3.out HB.out) | (with_reducible refine Kd.C_alloc ?_ _) | (with_reducible refine Kd.C_drewN ?_ _) | (with_reducible refine Kd.C_drew ?_))); (case side4 => exact HC1_3.out); rintro e w' ⟨rfl, ⟨nd, rfl⟩⟩; refine ⟨_, rfl, ?_⟩) | (go_at_call 40; (with_reducible refine (api_Time.calls kj2 _ _ l0_4 _ _ l1_4 false _ ?side1 ?side2 ?side3 ?side4 A24.out).mono ?_); (case side1 => repeat (first | exact (Kd.C_below HR0_4.out (by repeat (first | (with_reducible first | exact HB.out | apply below_alloc | apply pw_below_drewN | apply below_drew1 | refine below_set ?_ GE263.out | refine below_set ?_ GE264.out) | exact HB.out))) | (with_reducible refine Kd.C_alloc ?_ _) | (with_reducible refine Kd.C_drewN ?_ _) | (with_reducible refine Kd.C_drew ?_))); (case side2 => exact HC0_4.out); (case side3 => repeat (first | exact (Kd.C_below HR1_4.out (by repeat (first | (with_reducible first | exact HB.out | apply below_alloc | apply pw_below_drewN | apply below_drew1 | refine below_set ?_ GE263.out | refine below_set ?_ GE264.out) | exact HB.out))) | (with_reducible refine Kd.C_alloc ?_ _) | (with_reducible refine Kd.C_drewN ?_ _) | (with_reducible refine Kd.C_drew ?_))); (case side4 => exact HC1_4.out); rintro e w' ⟨rfl, ⟨nd, rfl⟩⟩))
            go_ret
            exact ⟨by first | rfl | (simp [errW_none, errW_some] <;> rfl) | (simp [*, errW_none, errW_some] <;> rfl), by repeat (first | (with_reducible first | exact HB.out | apply below_alloc | apply pw_below_drewN | apply below_drew1 | refine below_set ?_ GE263.out | refine below_set ?_ GE264.out) | exact HB.out)⟩
        · replace c23 := Bool.eq_false_iff.mpr c23
          subst c23
          have H1 : (some false) = some r := by rw [if_neg (show ¬ (false = true) by decide)] at H; exact H
          clear H
          have H := H1
          clear H1
          obtain rfl := Option.some.inj H
          have hnb33 := NB263_264.out
          have hnc33 := NB264_263.out
          have hcz34_0 : wc.cell? ⟨gb263, 0, none⟩ = some (.string a0_0) := (blk_cell BK263.out 0).trans rfl
          have hcz34_1 : wc.cell? ⟨gb263, 1, none⟩ = some (.int .i64 a0_1) := (blk_cell BK263.out 1).trans rfl
          have hcz34_2 : wc.cell? ⟨gb263, 2, none⟩ = some (.int .u16 a0_2) := (blk_cell BK263.out 2).trans rfl
          have hcz34_3 : wc.cell? ⟨gb263, 3, none⟩ = some (.slice A0_3 l0_3.length c0_3) := (blk_cell BK263.out 3).trans rfl
          have hcz34_4 : wc.cell? ⟨gb263, 4, none⟩ = some (.slice A0_4 l0_4.length c0_4) := (blk_cell BK263.out 4).trans rfl
          have hcz34_5 : wc.cell? ⟨gb263, 5, none⟩ = some (.slice A0_5 l0_5.length c0_5) := (blk_cell BK263.out 5).trans rfl
          have hcz34_6 : wc.cell? ⟨gb263, 6, none⟩ = some (.int .i64 a0_6) := (blk_cell BK263.out 6).trans rfl
          have hfz34_0 := blk_frozen BK263.out 0
          have hfz34_1 := blk_frozen BK263.out 1
          have hfz34_2 := blk_frozen BK263.out 2
          have hfz34_3 := blk_frozen BK263.out 3
          have hfz34_4 := blk_frozen BK263.out 4
          have hfz34_5 := blk_frozen BK263.out 5
          have hfz34_6 := blk_frozen BK263.out 6
          have hcz35_0 : wc.cell? ⟨gb264, 0, none⟩ = some (.string a1_0) := (blk_cell BK264.out 0).trans rfl
          have hcz35_1 : wc.cell? ⟨gb264, 1, none⟩ = some (.int .i64 a1_1) := (blk_cell BK264.out 1).trans rfl
          have hcz35_2 : wc.cell? ⟨gb264, 2, none⟩ = some (.int .u16 a1_2) := (blk_cell BK264.out 2).trans rfl
          have hcz35_3 : wc.cell? ⟨gb264, 3, none⟩ = some (.slice A1_3 l1_3.length c1_3) := (blk_cell BK264.out 3).trans rfl
          have hcz35_4 : wc.cell? ⟨gb264, 4, none⟩ = some (.slice A1_4 l1_4.length c1_4) := (blk_cell BK264.out 4).trans rfl
          have hcz35_5 : wc.cell? ⟨gb264, 5, none⟩ = some (.slice A1_5 l1_5.length c1_5) := (blk_cell BK264.out 5).trans rfl
          have hcz35_6 : wc.cell? ⟨gb264, 6, none⟩ = some (.int .i64 a1_6) := (blk_cell BK264.out 6).trans rfl
          have hfz35_0 := blk_frozen BK264.out 0
          have hfz35_1 := blk_frozen BK264.out 1
          have hfz35_2 := blk_frozen BK264.out 2
          have hfz35_3 := blk_frozen BK264.out 3
          have hfz35_4 := blk_frozen BK264.out 4
          have hfz35_5 := blk_frozen BK264.out 5
          have hfz35_6 := blk_frozen BK264.out 6
          go_wp2_with (first | ((with_reducible refine gate_callee (f := 39) rfl ?_); refine goesL_ (some 35) rfl rfl Try.func39 (by kernel_rfl) rfl #[.slice A0_3 l0_3.length c0_3, .slice A1_3 l1_3.length c1_3] rfl (by (try simp only [List.map_toArray, List.map_cons, List.map_nil]); first | done | rfl | (simp only [List.length_drop, List.length_take]; rfl)) ?_; (with_reducible refine (slices_Equal_int_int.calls kj2 _ _ l0_3 _ _ l1_3 false _ ?side1 ?side2 ?side3 ?side4 A22.out).mono ?_); (case side1 => repeat (first | exact (Kd.C_below HR0_3.out HB.out) | (with_reducible refine Kd.C_alloc ?_ _) | (with_reducible refine Kd.C_drewN ?_ _) | (with_reducible refine Kd.C_drew ?_))); (case side2 => exact HC0_3.out); (case side3 => repeat (first | exact (Kd.C_below HR1_3.out HB.out) | (with_reducible refine Kd.C_alloc ?_ _) | (with_reducible refine Kd.C_drewN ?_ _) | (with_reducible refine Kd.C_drew ?_))); (case side4 => exact HC1_3.out); rintro e w' ⟨rfl, ⟨nd, rfl⟩⟩; refine ⟨_, rfl, ?_⟩))
          go_ret
          exact ⟨by first | rfl | (simp [errW_none, errW_some] <;> rfl) | (simp [*, errW_none, errW_some] <;> rfl), by repeat (first | (with_reducible first | exact HB.out | apply below_alloc | apply pw_below_drewN | apply below_drew1 | refine below_set ?_ GE263.out | refine below_set ?_ GE264.out) | exact HB.out)⟩

/-! ### horariumref03_Ints: function 42 -/
def horariumref03_Ints.l0 : Nat → List Int → List Int → Int → Option (Bool)
  | 0, _, _, _ => none
  | k + 1, x0, x1, x5 => if x5 < (x0.length : Int) then (if 0 ≤ x5 then (if x5 < (x1.length : Int) then (if (rd x0 x5) = (rd x1 x5) then (horariumref03_Ints.l0 k x0 x1 (wrap64 (x5 + 1))) else (some false)) else (none)) else (none)) else (some true)
def horariumref03_Ints.f (k : Nat) (l0 : List Int) (l1 : List Int) : Option (Bool) := if (l0.length : Int) = (l1.length : Int) then (horariumref03_Ints.l0 k l0 l1 0) else (some false)
theorem horariumref03_Ints.mono_l : ∀ k, (∀ y0 y1 y2, LeO (horariumref03_Ints.l0 k y0 y1 y2) (horariumref03_Ints.l0 (k + 1) y0 y1 y2))
  | 0 => fun _ _ _ r h => by simp [horariumref03_Ints.l0] at h
  | k + 1 => by
    have ih0 := horariumref03_Ints.mono_l k
    · intro y0 y1 y2
      unfold horariumref03_Ints.l0
      repeat' first
      | (with_reducible exact ih0 _ _ _)
      | (with_reducible exact LeO.refl _)
      | (with_reducible exact LeO.none _)
      | (with_reducible refine LeO.ite ?_ ?_)
      | (with_reducible refine LeO.bind ?_ (fun _ => ?_))
      | exact ih0 _ _ _
      | exact LeO.none _
      | refine LeO.ite ?_ ?_
      | refine LeO.bind ?_ (fun _ => ?_)
theorem horariumref03_Ints.mono : ∀ a0 a1 k, LeO (horariumref03_Ints.f k a0 a1) (horariumref03_Ints.f (k + 1) a0 a1) := by
  intro a0 a1 k
  have ih0 := horariumref03_Ints.mono_l k
  unfold horariumref03_Ints.f
  repeat' first
      | (with_reducible exact ih0 _ _ _)
      | (with_reducible exact LeO.refl _)
      | (with_reducible exact LeO.none _)
      | (with_reducible refine LeO.ite ?_ ?_)
      | (with_reducible refine LeO.bind ?_ (fun _ => ?_))
      | exact ih0 _ _ _
      | exact LeO.none _
      | refine LeO.ite ?_ ?_
      | refine LeO.bind ?_ (fun _ => ?_)
set_option maxHeartbeats 8000000 in
set_option maxRecDepth 100000 in
theorem horariumref03_Ints.calls (k : Nat) (A0 : Option Addr) (c0 : Nat) (l0 : List Int) (A1 : Option Addr) (c1 : Nat) (l1 : List Int) (r : Bool) (w : World) (hr0 : Kd.C (Kd.int .i64) w A0 l0.length l0) (hc0 : l0.length ≤ c0) (hr1 : Kd.C (Kd.int .i64) w A1 l1.length l1) (hc1 : l1.length ≤ c1) (h : horariumref03_Ints.f k l0 l1 = some r) :
    Calls Try.prog 42 #[.slice A0 l0.length c0, .slice A1 l1.length c1] w fun e w' => e = .returned (.bool r) ∧ Drawn0 w w' := by
  have HR0 := Aside0.mk hr0
  have HC0 := Aside0.mk hc0
  clear hr0 hc0
  have HR1 := Aside0.mk hr1
  have HC1 := Aside0.mk hc1
  clear hr1 hc1
  have H : (if (l0.length : Int) = (l1.length : Int) then (horariumref03_Ints.l0 k l0 l1 0) else (some false)) = some r := h
  clear h
  by_cases c3 : (l0.length : Int) = (l1.length : Int)
  · rw [if_pos c3] at H
    have c3b0 : ((l0.length : Int) == (l1.length : Int)) = true := beq_iff_eq.mpr c3
    have c3b1 : ((l0.length : Int) != (l1.length : Int)) = false := bne_eq_false_iff_eq.mpr c3
    have c3b2 : (l0.length == l1.length) = true := by first | simpa using c3 | (simp at c3 ⊢; omega)
    clear c3
    have H' := Aside0.mk H
    clear H
    go_enter Try.func42, Try.ntmps42
    go_wp2
    repeat (go_quiet (fail); try go_wp2)
    go_loopg [5] k (fun kq v5 w' => ∃ (x5_1 : Int), v5 = .int .i64 x5_1 ∧ Aside0 (horariumref03_Ints.l0 kq l0 l1 x5_1 = some r) ∧ Aside0 (kq ≤ k) ∧ Drawn0 w w')
    case atStart => exact ⟨(0), (by first | rfl | (simp; done) | (simp [*]; done)), H', ⟨Nat.le_refl _⟩, by repeat (first | exact Drawn0.refl _ | apply Drawn0.step)⟩
    case round =>
      clear H'
      try clear c1
      try clear p2
      try clear c3
      try clear c3b0
      try clear c3b1
      try clear c3b2
      obtain ⟨x5_1, rfl, HA, HK1, ⟨m1, rfl⟩⟩ := hrel
      cases gk with
      | zero => exact absurd HA.out (by simp [horariumref03_Ints.l0])
      | succ k1 =>
        have H := HA.out
        clear HA
        simp only [horariumref03_Ints.l0] at H
        by_cases c4 : x5_1 < (l0.length : Int)
        · rw [if_pos c4] at H
          have c4b0 : decide (x5_1 < (l0.length : Int)) = true := decide_eq_true c4
          clear c4
          by_cases c5 : 0 ≤ x5_1
          · rw [if_pos c5] at H
            have c5b0 : decide (0 ≤ x5_1) = true := decide_eq_true c5
            clear c5
            by_cases c6 : x5_1 < (l1.length : Int)
            · rw [if_pos c6] at H
              have c6b0 : decide (x5_1 < (l1.length : Int)) = true := decide_eq_true c6
              clear c6
              by_cases c7 : (rd l0 x5_1) = (rd l1 x5_1)
              · rw [if_pos c7] at H
                have c7b0 : ((rd l0 x5_1) == (rd l1 x5_1)) = true := beq_iff_eq.mpr c7
                have c7b1 : ((rd l0 x5_1) != (rd l1 x5_1)) = false := bne_eq_false_iff_eq.mpr c7
                clear c7
                have H' := Aside0.mk H
                clear H
                have p268 : 0 ≤ (x5_1 : Int) := of_decide_eq_true (by first | (with_reducible assumption) | assumption)
                have q268 : x5_1 < (l0.length : Int) := of_decide_eq_true (by first | (with_reducible assumption) | assumption)
                obtain ⟨ad268, e268, hx268_0⟩ := Kd.at_int HR0.out x5_1 p268 q268
                cases e268
                replace p268 := eq_true p268
                replace q268 := eq_true q268
                have p269 : 0 ≤ (x5_1 : Int) := of_decide_eq_true (by first | (with_reducible assumption) | assumption)
                have q269 : x5_1 < (l1.length : Int) := of_decide_eq_true (by first | (with_reducible assumption) | assumption)
                obtain ⟨ad269, e269, hx269_0⟩ := Kd.at_int HR1.out x5_1 p269 q269
                cases e269
                replace p269 := eq_true p269
                replace q269 := eq_true q269
                go_wp2
                repeat (go_quiet (fail); try go_wp2)
                go_roundg k1
                case measure => have := HK1.out; omega
                case rel => exact ⟨(wrap64 (x5_1 + 1)), (by first | rfl | (simp; done) | (simp [*]; done)), H', ⟨by have := HK1.out; omega⟩, by repeat (first | exact Drawn0.refl _ | apply Drawn0.step)⟩
              · rw [if_neg c7] at H
                have c7b0 : ((rd l0 x5_1) == (rd l1 x5_1)) = false := beq_eq_false_iff_ne.mpr c7
                have c7b1 : ((rd l0 x5_1) != (rd l1 x5_1)) = true := bne_iff_ne.mpr c7
                obtain rfl := Option.some.inj H
                have p268 : 0 ≤ (x5_1 : Int) := of_decide_eq_true (by first | (with_reducible assumption) | assumption)
                have q268 : x5_1 < (l0.length : Int) := of_decide_eq_true (by first | (with_reducible assumption) | assumption)
                obtain ⟨ad268, e268, hx268_0⟩ := Kd.at_int HR0.out x5_1 p268 q268
                cases e268
                replace p268 := eq_true p268
                replace q268 := eq_true q268
                have p269 : 0 ≤ (x5_1 : Int) := of_decide_eq_true (by first | (with_reducible assumption) | assumption)
                have q269 : x5_1 < (l1.length : Int) := of_decide_eq_true (by first | (with_reducible assumption) | assumption)
                obtain ⟨ad269, e269, hx269_0⟩ := Kd.at_int HR1.out x5_1 p269 q269
                cases e269
                replace p269 := eq_true p269
                replace q269 := eq_true q269
                go_wp2
                repeat (go_quiet (fail); try go_wp2)
                go_ret
                exact ⟨by first | rfl | (simp; done) | (simp [*]; done), by repeat (first | exact Drawn0.refl _ | apply Drawn0.step)⟩
            · rw [if_neg c6] at H
              exact absurd H (by simp)
          · rw [if_neg c5] at H
            exact absurd H (by simp)
        · rw [if_neg c4] at H
          have c4b0 : decide (x5_1 < (l0.length : Int)) = false := decide_eq_false c4
          clear c4
          obtain rfl := Option.some.inj H
          go_wp2
          repeat (go_quiet (fail); try go_wp2)
          go_ret
          exact ⟨by first | rfl | (simp; done) | (simp [*]; done), by repeat (first | exact Drawn0.refl _ | apply Drawn0.step)⟩
  · rw [if_neg c3] at H
    have c3b0 : ((l0.length : Int) == (l1.length : Int)) = false := beq_eq_false_iff_ne.mpr c3
    have c3b1 : ((l0.length : Int) != (l1.length : Int)) = true := bne_iff_ne.mpr c3
    have c3b2 : (l0.length == l1.length) = false := by first | simpa using c3 | (simp at c3 ⊢; omega)
    obtain rfl := Option.some.inj H
    go_enter Try.func42, Try.ntmps42
    go_wp2
    repeat (go_quiet (fail); try go_wp2)
    go_ret
    exact ⟨by first | rfl | (simp; done) | (simp [*]; done), by repeat (first | exact Drawn0.refl _ | apply Drawn0.step)⟩

end Go.Proofs.Ytcpknfcococneaa.Q
