/-
The walk of horarium/horariumlaw13.ClassLeast, by hand.
-/
import Derived.RangeFuncNested
import Derived.RangeFuncBound
import Derived.RangeFuncCalls
import Derived.RangeFuncLeaves
import Derived.Shelf.Abstract
import Derived.WalkKit
import Derived.OwnWalkIn
import Derived.TacticsInMore
import Derived.LoopNIn
import Derived.LoopIn
import Derived.Deep.RegionHeld3
import Derived.Test.YtcpknfcococneaaQx0
import Derived.Test.YtcpknfcococneaaQx1
import Derived.Test.YtcpknfcococneaaQx3
import Derived.Test.YtcpknfcococneaaQx9
import Derived.Test.YtcpknfcococneaaQx10
import Derived.Test.YtcpknfcococneaaQx11
import Derived.Test.YtcpknfcococneaaQx12
import Derived.Test.YtcpknfcococneaaQx13
import Derived.Test.YtcpknfcococneaaQx14
import Derived.Test.YtcpknfcococneaaQx20
import Derived.Test.YtcpknfcococneaaH
set_option linter.unusedVariables false
set_option linter.unusedSimpArgs false
namespace Go.Proofs.Ytcpknfcococneaa.Q
open Go.RowKit Go.Proofs.YtcpknfcococneaaW.PrintWords Go.Proofs.YtcpknfcococneaaW.PrintLast Go.Proofs.YtcpknfcococneaaW.PrintMore
attribute [local go_sem] max2_int min2_int max_two min_two max_three min_three max_four min_four
theorem results_cb {P : Program} {fn : Func} {p : Tmp} {ty : TypeId} (h : fn.results = #[.cell p ty]) (tmps : Array Value) (w : World) (g : Nat) (v : Value) (hp : tmps.getD p undef = .pointer (some ⟨g, 0, none⟩)) (hu : P.underlying ty = some .bool) (hc : w.cell? ⟨g, 0, none⟩ = some v) : (results fn tmps).run P w = .ok v w := by
  have hp' : tmps[p]?.getD undef = .pointer (some ⟨g, 0, none⟩) := by simpa using hp
  simp [results, h, hp', asAddr, loadVar, isAgg, go_sem, run_underlying hu, hc]
attribute [local go_sem] Oper.semAt_some
attribute [local go_sem high] eqA41
set_option maxHeartbeats 8000000 in
set_option maxRecDepth 100000 in
/-- The walk of a class with few times, and at least one: the answers that it reaches are given. -/
theorem horariumlaw13_ClassLeast.few (k : Nat) (a0_0 : ByteArray) (a0_1 : Int) (a0_2 : Int) (A0_3 : Option Addr) (c0_3 : Nat) (l0_3 : List Int) (A0_4 : Option Addr) (c0_4 : Nat) (l0_4 : List (S58)) (A0_5 : Option Addr) (c0_5 : Nat) (l0_5 : List (S60)) (a0_6 : Int) (cs : Int × Int → Int × Int) (b0 b1 lst : Int) (w : World) (hr0_3 : Kd.C (Kd.int .i64) w A0_3 l0_3.length l0_3) (hc0_3 : l0_3.length ≤ c0_3) (hr0_4 : Kd.C k58 w A0_4 l0_4.length l0_4) (hc0_4 : l0_4.length ≤ c0_4) (hr0_5 : Kd.C k60 w A0_5 l0_5.length l0_5) (hc0_5 : l0_5.length ≤ c0_5)
    (hF : horariumlaw13_few.f k a0_0 a0_1 a0_2 l0_3 l0_4 l0_5 a0_6 = some true) (hT : l0_4.length ≠ 0) (hB : class_Cheapest.f a0_0 a0_1 a0_2 l0_3 l0_4 l0_5 a0_6 = some (b0, b1, lst)) (hW : class_Whole.f a0_0 a0_1 a0_2 l0_3 l0_4 l0_5 a0_6 b0 b1 = some true)
    (hcost : ∀ x ∈ sall l0_4.length (ch.from l0_5.length) (ch.many l0_5.length), class_Cost.f a0_0 a0_1 a0_2 l0_3 l0_4 l0_5 a0_6 x.1 x.2 = some (cs x)) (hwh : ∀ x ∈ sall l0_4.length (ch.from l0_5.length) (ch.many l0_5.length), class_Whole.f a0_0 a0_1 a0_2 l0_3 l0_4 l0_5 a0_6 x.1 x.2 = some true) (hge : ∀ x ∈ sall l0_4.length (ch.from l0_5.length) (ch.many l0_5.length), decide ((cs x).1 < wrap64 (lst - (cs x).2)) = false)
    (hmet : (sall l0_4.length (ch.from l0_5.length) (ch.many l0_5.length)).any (fun x => (x.1 == b0 && x.2 == b1) && (cs x).1 == wrap64 (lst - (cs x).2)) = true) (nS : Nat) (hnS : (sall l0_4.length (ch.from l0_5.length) (ch.many l0_5.length)).length = nS) (hl : nS ≤ 400)
    (hC : class_Count.f a0_0 a0_1 a0_2 l0_3 l0_4 l0_5 a0_6 = some (nS : Int)) :
    Calls Try.prog 7 #[.agg #[.string a0_0, .int .i64 a0_1, .int .u16 a0_2, .slice A0_3 l0_3.length c0_3, .slice A0_4 l0_4.length c0_4, .slice A0_5 l0_5.length c0_5, .int .i64 a0_6]] w fun e w' => e = .returned (.bool true) ∧ Below w.heap.size w w' := by
  have hu30 := Try.underlying30
  have hu41 := Try.underlying41
  have HR3 := Aside0.mk hr0_3
  have HR4 := Aside0.mk hr0_4
  have HR5 := Aside0.mk hr0_5
  have HC3 := Aside0.mk hc0_3
  have HC4 := Aside0.mk hc0_4
  have HC5 := Aside0.mk hc0_5
  have HF := Aside0.mk hF
  have HB := Aside0.mk hB
  have HW := Aside0.mk hW
  have HCO := Aside0.mk hcost
  have HWH := Aside0.mk hwh
  have HGE := Aside0.mk hge
  have HMET := Aside0.mk hmet
  have HC := Aside0.mk hC
  have HLEN := Aside0.mk hnS
  have HL4 := Aside0.mk (show l0_4.length ≤ 9223372036854775807 from hr0_4.2.1)
  have HL5 := Aside0.mk (show l0_5.length ≤ 9223372036854775807 from hr0_5.2.1)
  have hT0 : ((l0_4.length : Int) == 0) = false := by simp [hT]
  clear hr0_3 hr0_4 hr0_5 hc0_3 hc0_4 hc0_5 hF hB hW hcost hwh hge hmet hC hnS
  refine (callsIn_wide (n := 5)).1 ?_
  refine callsIn_of_wp_marks Try.func7 rfl trivial ?_ rfl
  simp only [Try.ntmps7, List.size_toArray, List.length_cons, List.length_nil, Nat.reduceAdd, Nat.reduceSub, Array.replicate_succ, Array.replicate_zero, List.push_toArray, List.append_toArray, List.nil_append, List.cons_append]
  gi_wp2_with fail
  refine ⟨trivial, ?_⟩
  gi_at_call 12
  refine (callsIn_wide.2 (horariumlaw13_few.calls k a0_0 a0_1 a0_2 A0_3 c0_3 l0_3 A0_4 c0_4 l0_4 A0_5 c0_5 l0_5 a0_6 true _ (Kd.C_alloc (Kd.C_alloc HR3.out _) _) HC3.out (Kd.C_alloc (Kd.C_alloc HR4.out _) _) HC4.out (Kd.C_alloc (Kd.C_alloc HR5.out _) _) HC5.out HF.out)).mono ?_
  rintro e w1 ⟨rfl, hb1⟩
  have HB1 := Aside0.mk (below_step (below_alloc (below_alloc (Below.refl w.heap.size w) _) _) hb1)
  have HGC := Aside0.mk (blk_below (blk_alloc (blk_new w (.cells #[.string a0_0, .int .i64 a0_1, .int .u16 a0_2, .slice A0_3 l0_3.length c0_3, .slice A0_4 l0_4.length c0_4, .slice A0_5 l0_5.length c0_5, .int .i64 a0_6] 30 (0, 0))) _) hb1)
  have HGR := Aside0.mk (blk_below (Go.Proofs.YtcpknfcococneaaH.blk_new' _ (.cells #[.bool false] 4 (0, 0)) (w.heap.size + 1) (by simp)) hb1)
  clear hb1
  have y0 := (blk_cell HGC.out 0).trans rfl
  have y1 := (blk_cell HGC.out 1).trans rfl
  have y2 := (blk_cell HGC.out 2).trans rfl
  have y3 := (blk_cell HGC.out 3).trans rfl
  have y4 := (blk_cell HGC.out 4).trans rfl
  have y5 := (blk_cell HGC.out 5).trans rfl
  have y6 := (blk_cell HGC.out 6).trans rfl
  have L1 := blk_lt HGR.out
  have L2 := blk_lt HGC.out
  gi_wp2_with fail
  refine ⟨trivial, ?_⟩
  gi_at_call 24
  refine (callsIn_wide.2 (class_Cheapest.calls a0_0 a0_1 a0_2 A0_3 c0_3 l0_3 A0_4 c0_4 l0_4 A0_5 c0_5 l0_5 a0_6 b0 b1 lst _ (Kd.C_below HR3.out HB1.out) HC3.out (Kd.C_below HR4.out HB1.out) HC4.out (Kd.C_below HR5.out HB1.out) HC5.out HB.out)).mono ?_
  rintro e w2 ⟨rfl, hb2⟩
  have n1 := Aside0.mk (blk_below HGC.out hb2)
  have n2 := Aside0.mk (blk_below HGR.out hb2)
  have n3 := Aside0.mk (below_step HB1.out hb2)
  clear HGC HGR HB1 y0 y1 y2 y3 y4 y5 y6 L1 L2 hb2
  have HGC := n1
  have HGR := n2
  have HB2 := n3
  clear n1 n2 n3
  have y0 := (blk_cell HGC.out 0).trans rfl
  have y1 := (blk_cell HGC.out 1).trans rfl
  have y2 := (blk_cell HGC.out 2).trans rfl
  have y3 := (blk_cell HGC.out 3).trans rfl
  have y4 := (blk_cell HGC.out 4).trans rfl
  have y5 := (blk_cell HGC.out 5).trans rfl
  have y6 := (blk_cell HGC.out 6).trans rfl
  have L1 := blk_lt HGR.out
  have L2 := blk_lt HGC.out
  gi_wp2_with fail
  refine ⟨trivial, ?_⟩
  gi_at_call 14
  refine (callsIn_wide.2 (class_Seats.calls a0_0 a0_1 a0_2 _ A0_4 c0_4 l0_4.length A0_5 c0_5 l0_5.length a0_6 _)).mono ?_
  rintro e w3 ⟨B3, B4, B5, rfl, hB5, hB3, hB4, ⟨hle5, hle3, hle4⟩, hb3⟩
  simp only [World.size_alloc] at hle5 hle3 hle4
  have n1 := Aside0.mk (blk_below (blk_alloc (blk_alloc HGC.out _) _) hb3)
  have n2 := Aside0.mk (blk_below (blk_alloc (blk_alloc HGR.out _) _) hb3)
  have n3 := Aside0.mk (below_step (below_alloc (below_alloc HB2.out _) _) hb3)
  have HGB := Aside0.mk (blk_below (blk_alloc (Go.Proofs.YtcpknfcococneaaH.blk_new' w2 (.cells #[.int .i64 b0, .int .i64 b1] 41 (0, 0)) w2.heap.size rfl) _) hb3)
  have HGL := Aside0.mk (blk_below (Go.Proofs.YtcpknfcococneaaH.blk_new' _ (.cells #[.int .i64 lst] 3 (0, 0)) (w2.heap.size + 1) (by simp)) hb3)
  clear HGC HGR HB2 y0 y1 y2 y3 y4 y5 y6 hb3
  obtain ⟨gb, hgb⟩ : ∃ gb, gb = w2.heap.size := ⟨_, rfl⟩
  obtain ⟨gl, hgl⟩ : ∃ gl, gl = w2.heap.size + 1 := ⟨_, rfl⟩
  rw [← hgl] at HGL ⊢
  rw [← hgb] at HGB ⊢
  have o1 : w.heap.size + 1 < gb := by omega
  have o2 : gb < gl := by omega
  have o5 : gl < B5 := by omega
  have o3 : gl < B3 := by omega
  have o4 : gl < B4 := by omega
  clear hgb hgl hle5 hle3 hle4 L1 L2
  have HGC := n1
  have HGR := n2
  have HB3 := n3
  clear n1 n2 n3
  have y0 := (blk_cell HGC.out 0).trans rfl
  have y1 := (blk_cell HGC.out 1).trans rfl
  have y2 := (blk_cell HGC.out 2).trans rfl
  have y3 := (blk_cell HGC.out 3).trans rfl
  have y4 := (blk_cell HGC.out 4).trans rfl
  have y5 := (blk_cell HGC.out 5).trans rfl
  have y6 := (blk_cell HGC.out 6).trans rfl
  have z0 := (blk_cell HGB.out 0).trans rfl
  have z1 := (blk_cell HGB.out 1).trans rfl
  have hnil : ∀ W : World, (binOp BinOp.eql 38 (Value.func (Fn.func 38) #[] #[.pointer (some ⟨B5, 0, none⟩), .pointer (some ⟨B3, 0, none⟩), .pointer (some ⟨B4, 0, none⟩)]) Value.nilFunc).run Try.prog W = .ok (.bool false) W := fun W => by rfl
  have hb4' : Aside0 (w3.heap[B4]? = some (.cells #[.int .i64 (ch.from l0_5.length + (ch.many l0_5.length : Int))] 3 (0, 0))) := ⟨by rw [ch.to]; exact hB4⟩
  have hb3' : Aside0 (w3.heap[B3]? = some (.cells #[.int .i64 (ch.from l0_5.length)] 3 (0, 0))) := ⟨hB3⟩
  have hb5' := Aside0.mk hB5
  clear hB4 hB3 hB5
  gi_wp2_with fail
  refine ⟨trivial, ?_⟩
  gi_at_call 22
  refine (callsIn_wide.2 (class_Whole.calls a0_0 a0_1 a0_2 A0_3 c0_3 l0_3 A0_4 c0_4 l0_4 A0_5 c0_5 l0_5 a0_6 b0 b1 true _ (Kd.C_below HR3.out HB3.out) HC3.out (Kd.C_below HR4.out HB3.out) HC4.out (Kd.C_below HR5.out HB3.out) HC5.out HW.out)).mono ?_
  rintro e w4 ⟨rfl, hb4⟩
  have n1 := Aside0.mk (blk_below HGC.out hb4)
  have n2 := Aside0.mk (blk_below HGR.out hb4)
  have n3 := Aside0.mk (below_step HB3.out hb4)
  have n4 := Aside0.mk (blk_below HGB.out hb4)
  have n5 := Aside0.mk (blk_below HGL.out hb4)
  have n6 := Aside0.mk (blk_below hb5'.out hb4)
  have n7 := Aside0.mk (blk_below hb3'.out hb4)
  have n8 := Aside0.mk (blk_below hb4'.out hb4)
  clear HGC HGR HB3 HGB HGL hb5' hb3' hb4' y0 y1 y2 y3 y4 y5 y6 z0 z1 hb4
  have HGC := n1
  have HGR := n2
  have HB4 := n3
  have HGB := n4
  have HGL := n5
  have h5' := n6
  have h3' := n7
  have h4' := n8
  clear n1 n2 n3 n4 n5 n6 n7 n8
  have l5 := blk_lt h5'.out
  have l3 := blk_lt h3'.out
  have l4 := blk_lt h4'.out
  gi_wp2
  rename_i K1 hK1
  obtain ⟨gn, hgn⟩ : ∃ gn, gn = w4.heap.size := ⟨_, rfl⟩
  obtain ⟨gt, hgt⟩ : ∃ gt, gt = w4.heap.size + 1 := ⟨_, rfl⟩
  rw [← hgt, ← hgn]
  have HB5 := Aside0.mk (below_alloc (below_alloc (Below.refl w4.heap.size w4) (.cells #[.int .i64 0] 3 (0, 0))) (.cells #[.bool false] 4 (0, 0)))
  have HGN := Aside0.mk (blk_alloc (Go.Proofs.YtcpknfcococneaaH.blk_new' w4 (.cells #[.int .i64 0] 3 (0, 0)) gn hgn) (.cells #[.bool false] 4 (0, 0)))
  have HGT := Aside0.mk (Go.Proofs.YtcpknfcococneaaH.blk_new' (w4.alloc (.cells #[.int .i64 0] 3 (0, 0))) (.cells #[.bool false] 4 (0, 0)) gt (by rw [hgt]; simp))
  have hc5 := Aside0.mk (blk_alloc (blk_alloc h5'.out (.cells #[.int .i64 0] 3 (0, 0))) (.cells #[.bool false] 4 (0, 0)))
  have hc3 := Aside0.mk (blk_alloc (blk_alloc h3'.out (.cells #[.int .i64 0] 3 (0, 0))) (.cells #[.bool false] 4 (0, 0)))
  have hc4 := Aside0.mk (blk_alloc (blk_alloc h4'.out (.cells #[.int .i64 0] 3 (0, 0))) (.cells #[.bool false] 4 (0, 0)))
  obtain ⟨w5, hw5⟩ : ∃ w5, w5 = (w4.alloc (.cells #[.int .i64 0] 3 (0, 0))).alloc (.cells #[.bool false] 4 (0, 0)) := ⟨_, rfl⟩
  rw [← hw5] at HB5 HGN HGT hc5 hc3 hc4 ⊢
  have hs5 : w5.heap.size = w4.heap.size + 2 := by rw [hw5]; simp
  have o6 : w4.heap.size ≤ gn := by omega
  have o7 : gn < gt := by omega
  have o8 : gt < w5.heap.size := by omega
  rw [← hgn] at l5 l3 l4
  clear hw5 hgn hgt h5' h3' h4'
  refine wpIn_rangeFunc_ownH (F := Fence.wide) (α := { x : Int × Int // x ∈ sall l0_4.length (ch.from l0_5.length) (ch.many l0_5.length) }) rfl (by omega) (gf := 38) (lb := #[.pointer (some ⟨B5, 0, none⟩), .pointer (some ⟨B3, 0, none⟩), .pointer (some ⟨B4, 0, none⟩)]) rfl trivial (enters_of Try.func38 (by kernel_rfl) rfl)
    (class_Seats_1.stops Fence.wide 4 trivial rfl (by omega) B5 B3 B4 l0_4.length (ch.from l0_5.length) (ch.many l0_5.length) HL4.out (by unfold ch.from; split <;> omega) (by rw [ch.to]; have := HL5.out; omega) w5 (blk_lt hc5.out) (blk_lt hc3.out) (blk_lt hc4.out) hc5.out hc3.out hc4.out)
    Kept3.trans (Kept3.put (blk_lt hc5.out) (blk_lt hc3.out) (blk_lt hc4.out)) (Below.refl _ _) (fun _ => rfl)
    (fun pre W => Aside0 (W.heap[gn]? = some (.cells #[.int .i64 (pre.length : Int)] 3 (0, 0))) ∧ Aside0 (W.heap[gt]? = some (.cells #[.bool ((pre.map (·.1)).any (fun x : Int × Int => (x.1 == b0 && x.2 == b1) && (cs x).1 == wrap64 (lst - (cs x).2)))] 4 (0, 0))) ∧ Aside0 (Below w4.heap.size w4 W) ∧ Aside0 (gt < W.heap.size))
    (fun _ _ _ => False)
    ?own ?ownx ?start
    (fun x a' W => ∃ Bx, Aside0 (gt < Bx) ∧ Aside0 (W.heap[Bx]? = some (.cells #[.int .i64 x.1.1, .int .i64 x.1.2] 41 (0, 0))) ∧ a' = { tmps := #[.agg #[.string a0_0, .int .i64 a0_1, .int .u16 a0_2, .slice A0_3 l0_3.length c0_3, .slice A0_4 l0_4.length c0_4, .slice A0_5 l0_5.length c0_5, .int .i64 a0_6], .pointer (some ⟨w.heap.size, 0, none⟩), .pointer (some ⟨(w.heap.size + 1), 0, none⟩), .pointer (some ⟨gb, 0, none⟩), .pointer (some ⟨gl, 0, none⟩), .func (.func 38) #[] #[.pointer (some ⟨B5, 0, none⟩), .pointer (some ⟨B3, 0, none⟩), .pointer (some ⟨B4, 0, none⟩)], .pointer (some ⟨gn, 0, none⟩), .pointer (some ⟨gt, 0, none⟩), .pointer (some ⟨Bx, 0, none⟩), undef, undef, .agg #[.string a0_0, .int .i64 a0_1, .int .u16 a0_2, .slice A0_3 l0_3.length c0_3, .slice A0_4 l0_4.length c0_4, .slice A0_5 l0_5.length c0_5, .int .i64 a0_6], .bool true, .bool false, .bool false, .pointer (some ⟨w.heap.size, 4, none⟩), .slice A0_4 l0_4.length c0_4, .int .i64 (l0_4.length : Int), .bool false, .bool false, undef, .tuple #[.agg #[.int .i64 b0, .int .i64 b1], .int .i64 lst], .agg #[.string a0_0, .int .i64 a0_1, .int .u16 a0_2, .slice A0_3 l0_3.length c0_3, .slice A0_4 l0_4.length c0_4, .slice A0_5 l0_5.length c0_5, .int .i64 a0_6], .tuple #[.agg #[.int .i64 b0, .int .i64 b1], .int .i64 lst], .agg #[.int .i64 b0, .int .i64 b1], .int .i64 lst, .agg #[.string a0_0, .int .i64 a0_1, .int .u16 a0_2, .slice A0_3 l0_3.length c0_3, .slice A0_4 l0_4.length c0_4, .slice A0_5 l0_5.length c0_5, .int .i64 a0_6], .func (.func 38) #[] #[.pointer (some ⟨B5, 0, none⟩), .pointer (some ⟨B3, 0, none⟩), .pointer (some ⟨B4, 0, none⟩)], .func (.func 38) #[] #[.pointer (some ⟨B5, 0, none⟩), .pointer (some ⟨B3, 0, none⟩), .pointer (some ⟨B4, 0, none⟩)], .bool false, .bool false, .agg #[.string a0_0, .int .i64 a0_1, .int .u16 a0_2, .slice A0_3 l0_3.length c0_3, .slice A0_4 l0_4.length c0_4, .slice A0_5 l0_5.length c0_5, .int .i64 a0_6], .agg #[.int .i64 b0, .int .i64 b1], .bool true, .bool false, .bool false, .func (.func 38) #[] #[.pointer (some ⟨B5, 0, none⟩), .pointer (some ⟨B3, 0, none⟩), .pointer (some ⟨B4, 0, none⟩)], .agg #[.int .i64 x.1.1, .int .i64 x.1.2], undef, undef, undef, undef, undef, undef, undef, undef, undef, undef, undef, undef, undef, undef, undef, undef, undef, undef, undef, undef, undef, undef, undef, undef, undef, undef, undef, undef, undef, undef, undef, undef, undef, undef, undef, undef, undef, undef, undef, undef, undef, undef, undef, undef, undef, undef], defers := [] })
    ?ownax ?assign ?body ?done ?stop
  case own =>
    rintro pre W W' row ⟨h1, h2, h3, h4⟩ hg hr
    exact ⟨⟨heap_keep h1.out hg hr⟩, ⟨heap_keep h2.out hg hr⟩, ⟨h3.out.grown hg h3.out.size (fun k e => by have := (hr k e).1; omega)⟩, ⟨Nat.lt_of_lt_of_le h4.out hg.size⟩⟩
  case ownx => exact fun _ _ _ _ _ hs _ _ => hs
  case start => exact ⟨HGN, HGT, HB5, ⟨o8⟩⟩
  case ownax =>
    rintro x a' _ W W' row ⟨Bx, h1, h2, h3⟩ hg hr
    exact ⟨Bx, h1, ⟨heap_keep h2.out hg hr⟩, h3⟩
  case assign =>
    rintro l pre x W K ⟨h1, h2, h3, h4⟩ hK
    have b5 : B5 < W.heap.size := by have := h4.out; omega
    have b3 : B3 < W.heap.size := by have := h4.out; omega
    have b4 : B4 < W.heap.size := by have := h4.out; omega
    gi_wp2
    exact hK _ _ ((KeepsOthers.alloc _ _).from _) (kept3_of_below (below_alloc (Below.refl _ _) _) b5 b3 b4) ⟨⟨blk_alloc h1.out _⟩, ⟨blk_alloc h2.out _⟩, ⟨below_alloc h3.out _⟩, ⟨by have := h4.out; simp; omega⟩⟩ ⟨W.heap.size, h4, ⟨blk_new W _⟩, rfl⟩
  case body =>
    rintro l pre x a' W hl ⟨rc, hrc⟩ ⟨h1, h2, h3, h4⟩ ⟨Bx, hBx, hX, rfl⟩ hlt
    have b5 : Aside0 (B5 < W.heap.size) := ⟨by have := h4.out; omega⟩
    have b3 : Aside0 (B3 < W.heap.size) := ⟨by have := h4.out; omega⟩
    have b4 : Aside0 (B4 < W.heap.size) := ⟨by have := h4.out; omega⟩
    rw [← sall_length l0_4.length (ch.from l0_5.length) (ch.many l0_5.length), HLEN.out] at hlt
    have HC := Aside0.mk (HCO.out x.1 x.2)
    have HWX := Aside0.mk (HWH.out x.1 x.2)
    have hge := HGE.out x.1 x.2
    have el : (((pre ++ [x]).length : Nat) : Int) = (pre.length : Int) + 1 := by simp
    have em : ((pre ++ [x]).map (·.1)).any (fun x : Int × Int => (x.1 == b0 && x.2 == b1) && (cs x).1 == wrap64 (lst - (cs x).2)) = ((pre.map (·.1)).any (fun x : Int × Int => (x.1 == b0 && x.2 == b1) && (cs x).1 == wrap64 (lst - (cs x).2)) || (fun x : Int × Int => (x.1 == b0 && x.2 == b1) && (cs x).1 == wrap64 (lst - (cs x).2)) x.1) := by simp
    generalize hM : ((pre.map (·.1)).any (fun x : Int × Int => (x.1 == b0 && x.2 == b1) && (cs x).1 == wrap64 (lst - (cs x).2))) = M at h2 em
    obtain ⟨⟨x0, x1⟩, hxm⟩ := x
    obtain ⟨c, hc⟩ : ∃ c, c = cs (x0, x1) := ⟨_, rfl⟩
    dsimp only at *
    rw [← hc] at HC hge em
    obtain ⟨c1, c2⟩ := c
    dsimp only at *
    have EL := Aside0.mk el
    have EM := Aside0.mk em
    have hn4 : decide ((pre.length : Int) > 400) = false := decide_eq_false (by omega)
    have k0a := Aside0.mk (blk_below HGC.out h3.out)
    have k1a := h1
    have k2a := h2
    have k3a := hX
    have k4a := Aside0.mk (blk_below HGB.out h3.out)
    have k5a := Aside0.mk (blk_below HGL.out h3.out)
    have hBa := h3
    have y0a := (blk_cell k0a.out 0).trans rfl
    have y1a := (blk_cell k0a.out 1).trans rfl
    have y2a := (blk_cell k0a.out 2).trans rfl
    have y3a := (blk_cell k0a.out 3).trans rfl
    have y4a := (blk_cell k0a.out 4).trans rfl
    have y5a := (blk_cell k0a.out 5).trans rfl
    have y6a := (blk_cell k0a.out 6).trans rfl
    have n0a := (blk_cell k1a.out 0).trans rfl
    have t0a := (blk_cell k2a.out 0).trans rfl
    have s0a := (blk_cell k3a.out 0).trans rfl
    have s1a := (blk_cell k3a.out 1).trans rfl
    have b0a := (blk_cell k4a.out 0).trans rfl
    have b1a := (blk_cell k4a.out 1).trans rfl
    have q0a := (blk_cell k5a.out 0).trans rfl
    have fna := blk_frozen k1a.out 0
    have fta := blk_frozen k2a.out 0
    have hpb : (pre.length : Int) + 1 ≤ 401 := by omega
    clear hM hc hrc hl el em hlt
    cases M
    · cases hq : (x0 == b0 && x1 == b1)
      · gi_wp2_with (refine ⟨trivial, ?_⟩; first | (gi_at_call 18; refine (CallsIn.inRound l (callsIn_wide.2 (class_Cost.calls a0_0 a0_1 a0_2 A0_3 c0_3 l0_3 A0_4 c0_4 l0_4 A0_5 c0_5 l0_5 a0_6 x0 x1 c1 c2 _ (Kd.C_below HR3.out (below_step HB4.out hBa.out)) HC3.out (Kd.C_below HR4.out (below_step HB4.out hBa.out)) HC4.out (Kd.C_below HR5.out (below_step HB4.out hBa.out)) HC5.out HC.out))).mono ?_; rintro e wb ⟨rfl, hbb⟩; have k0b := Aside0.mk (blk_below k0a.out hbb); have k1b := Aside0.mk (blk_below k1a.out hbb); have k2b := Aside0.mk (blk_below k2a.out hbb); have k3b := Aside0.mk (blk_below k3a.out hbb); have k4b := Aside0.mk (blk_below k4a.out hbb); have k5b := Aside0.mk (blk_below k5a.out hbb); have hBb := Aside0.mk (below_step hBa.out hbb); have y0b := (blk_cell k0b.out 0).trans rfl; have y1b := (blk_cell k0b.out 1).trans rfl; have y2b := (blk_cell k0b.out 2).trans rfl; have y3b := (blk_cell k0b.out 3).trans rfl; have y4b := (blk_cell k0b.out 4).trans rfl; have y5b := (blk_cell k0b.out 5).trans rfl; have y6b := (blk_cell k0b.out 6).trans rfl; have n0b := (blk_cell k1b.out 0).trans rfl; have t0b := (blk_cell k2b.out 0).trans rfl; have s0b := (blk_cell k3b.out 0).trans rfl; have s1b := (blk_cell k3b.out 1).trans rfl; have b0b := (blk_cell k4b.out 0).trans rfl; have b1b := (blk_cell k4b.out 1).trans rfl; have q0b := (blk_cell k5b.out 0).trans rfl; have fnb := blk_frozen k1b.out 0; have ftb := blk_frozen k2b.out 0) | (gi_at_call 22; refine (CallsIn.inRound l (callsIn_wide.2 (class_Whole.calls a0_0 a0_1 a0_2 A0_3 c0_3 l0_3 A0_4 c0_4 l0_4 A0_5 c0_5 l0_5 a0_6 x0 x1 true _ (Kd.C_below HR3.out (below_step HB4.out hBb.out)) HC3.out (Kd.C_below HR4.out (below_step HB4.out hBb.out)) HC4.out (Kd.C_below HR5.out (below_step HB4.out hBb.out)) HC5.out HWX.out))).mono ?_; rintro e wc ⟨rfl, hbc⟩; have k0c := Aside0.mk (blk_below k0b.out hbc); have k1c := Aside0.mk (blk_below k1b.out hbc); have k2c := Aside0.mk (blk_below k2b.out hbc); have k3c := Aside0.mk (blk_below k3b.out hbc); have k4c := Aside0.mk (blk_below k4b.out hbc); have k5c := Aside0.mk (blk_below k5b.out hbc); have hBc := Aside0.mk (below_step hBb.out hbc); have y0c := (blk_cell k0c.out 0).trans rfl; have y1c := (blk_cell k0c.out 1).trans rfl; have y2c := (blk_cell k0c.out 2).trans rfl; have y3c := (blk_cell k0c.out 3).trans rfl; have y4c := (blk_cell k0c.out 4).trans rfl; have y5c := (blk_cell k0c.out 5).trans rfl; have y6c := (blk_cell k0c.out 6).trans rfl; have n0c := (blk_cell k1c.out 0).trans rfl; have t0c := (blk_cell k2c.out 0).trans rfl; have s0c := (blk_cell k3c.out 0).trans rfl; have s1c := (blk_cell k3c.out 1).trans rfl; have b0c := (blk_cell k4c.out 0).trans rfl; have b1c := (blk_cell k4c.out 1).trans rfl; have q0c := (blk_cell k5c.out 0).trans rfl; have fnc := blk_frozen k1c.out 0; have ftc := blk_frozen k2c.out 0))
        have kf := ((keeps_of_below (B := w5.heap.size) hbb).trans (keeps_of_below hbc)).trans (((KeepsOthers.setCell wc ⟨gt, 0, none⟩ (.bool false)).from _).trans ((KeepsOthers.setCell _ ⟨gn, 0, none⟩ (.int .i64 ((pre.length : Int) + 1))).from _))
        have k3 := ((kept3_of_below (B5 := B5) (B3 := B3) (B4 := B4) hbb b5.out b3.out b4.out).trans (kept3_of_below hbc (Nat.lt_of_lt_of_le b5.out hbb.size) (Nat.lt_of_lt_of_le b3.out hbb.size) (Nat.lt_of_lt_of_le b4.out hbb.size))).trans ((kept3_set (W := wc) (g := gt) (j := 0) (v := .bool false) (by omega) (by omega) (by omega)).trans (kept3_set (g := gn) (j := 0) (v := .int .i64 ((pre.length : Int) + 1)) (by omega) (by omega) (by omega)))
        refine ⟨⟨kf.1, kf.2⟩, ⟨k3.1, k3.2, k3.3⟩, ⟨?_⟩, ⟨?_⟩, ⟨below_set (below_set hBc.out (by show w4.heap.size ≤ gt; omega)) (by show w4.heap.size ≤ gn; omega)⟩, ⟨by have := h4.out; have := hbb.size; have := hbc.size; simp [World.setCell]; omega⟩⟩
        · rw [EL.out]
          exact blk_put (cs' := #[.int .i64 ((pre.length : Int) + 1)]) (blk_far k1c.out (by show gn ≠ gt; omega) _) 0 _ rfl
        · skip
          have hv := EM.out
          rw [hq] at hv
          simp only [Bool.false_or, Bool.false_and, Bool.true_and] at hv
          rw [hv]
          exact blk_far (blk_put (cs' := #[.bool false]) k2c.out 0 _ rfl) (by show gt ≠ gn; omega) _
      · gi_wp2_with (refine ⟨trivial, ?_⟩; first | (gi_at_call 18; refine (CallsIn.inRound l (callsIn_wide.2 (class_Cost.calls a0_0 a0_1 a0_2 A0_3 c0_3 l0_3 A0_4 c0_4 l0_4 A0_5 c0_5 l0_5 a0_6 x0 x1 c1 c2 _ (Kd.C_below HR3.out (below_step HB4.out hBa.out)) HC3.out (Kd.C_below HR4.out (below_step HB4.out hBa.out)) HC4.out (Kd.C_below HR5.out (below_step HB4.out hBa.out)) HC5.out HC.out))).mono ?_; rintro e wb ⟨rfl, hbb⟩; have k0b := Aside0.mk (blk_below k0a.out hbb); have k1b := Aside0.mk (blk_below k1a.out hbb); have k2b := Aside0.mk (blk_below k2a.out hbb); have k3b := Aside0.mk (blk_below k3a.out hbb); have k4b := Aside0.mk (blk_below k4a.out hbb); have k5b := Aside0.mk (blk_below k5a.out hbb); have hBb := Aside0.mk (below_step hBa.out hbb); have y0b := (blk_cell k0b.out 0).trans rfl; have y1b := (blk_cell k0b.out 1).trans rfl; have y2b := (blk_cell k0b.out 2).trans rfl; have y3b := (blk_cell k0b.out 3).trans rfl; have y4b := (blk_cell k0b.out 4).trans rfl; have y5b := (blk_cell k0b.out 5).trans rfl; have y6b := (blk_cell k0b.out 6).trans rfl; have n0b := (blk_cell k1b.out 0).trans rfl; have t0b := (blk_cell k2b.out 0).trans rfl; have s0b := (blk_cell k3b.out 0).trans rfl; have s1b := (blk_cell k3b.out 1).trans rfl; have b0b := (blk_cell k4b.out 0).trans rfl; have b1b := (blk_cell k4b.out 1).trans rfl; have q0b := (blk_cell k5b.out 0).trans rfl; have fnb := blk_frozen k1b.out 0; have ftb := blk_frozen k2b.out 0) | (gi_at_call 22; refine (CallsIn.inRound l (callsIn_wide.2 (class_Whole.calls a0_0 a0_1 a0_2 A0_3 c0_3 l0_3 A0_4 c0_4 l0_4 A0_5 c0_5 l0_5 a0_6 x0 x1 true _ (Kd.C_below HR3.out (below_step HB4.out hBb.out)) HC3.out (Kd.C_below HR4.out (below_step HB4.out hBb.out)) HC4.out (Kd.C_below HR5.out (below_step HB4.out hBb.out)) HC5.out HWX.out))).mono ?_; rintro e wc ⟨rfl, hbc⟩; have k0c := Aside0.mk (blk_below k0b.out hbc); have k1c := Aside0.mk (blk_below k1b.out hbc); have k2c := Aside0.mk (blk_below k2b.out hbc); have k3c := Aside0.mk (blk_below k3b.out hbc); have k4c := Aside0.mk (blk_below k4b.out hbc); have k5c := Aside0.mk (blk_below k5b.out hbc); have hBc := Aside0.mk (below_step hBb.out hbc); have y0c := (blk_cell k0c.out 0).trans rfl; have y1c := (blk_cell k0c.out 1).trans rfl; have y2c := (blk_cell k0c.out 2).trans rfl; have y3c := (blk_cell k0c.out 3).trans rfl; have y4c := (blk_cell k0c.out 4).trans rfl; have y5c := (blk_cell k0c.out 5).trans rfl; have y6c := (blk_cell k0c.out 6).trans rfl; have n0c := (blk_cell k1c.out 0).trans rfl; have t0c := (blk_cell k2c.out 0).trans rfl; have s0c := (blk_cell k3c.out 0).trans rfl; have s1c := (blk_cell k3c.out 1).trans rfl; have b0c := (blk_cell k4c.out 0).trans rfl; have b1c := (blk_cell k4c.out 1).trans rfl; have q0c := (blk_cell k5c.out 0).trans rfl; have fnc := blk_frozen k1c.out 0; have ftc := blk_frozen k2c.out 0))
        have kf := ((keeps_of_below (B := w5.heap.size) hbb).trans (keeps_of_below hbc)).trans (((KeepsOthers.setCell wc ⟨gt, 0, none⟩ (.bool (c1 == wrap64 (lst - c2)))).from _).trans ((KeepsOthers.setCell _ ⟨gn, 0, none⟩ (.int .i64 ((pre.length : Int) + 1))).from _))
        have k3 := ((kept3_of_below (B5 := B5) (B3 := B3) (B4 := B4) hbb b5.out b3.out b4.out).trans (kept3_of_below hbc (Nat.lt_of_lt_of_le b5.out hbb.size) (Nat.lt_of_lt_of_le b3.out hbb.size) (Nat.lt_of_lt_of_le b4.out hbb.size))).trans ((kept3_set (W := wc) (g := gt) (j := 0) (v := .bool (c1 == wrap64 (lst - c2))) (by omega) (by omega) (by omega)).trans (kept3_set (g := gn) (j := 0) (v := .int .i64 ((pre.length : Int) + 1)) (by omega) (by omega) (by omega)))
        refine ⟨⟨kf.1, kf.2⟩, ⟨k3.1, k3.2, k3.3⟩, ⟨?_⟩, ⟨?_⟩, ⟨below_set (below_set hBc.out (by show w4.heap.size ≤ gt; omega)) (by show w4.heap.size ≤ gn; omega)⟩, ⟨by have := h4.out; have := hbb.size; have := hbc.size; simp [World.setCell]; omega⟩⟩
        · rw [EL.out]
          exact blk_put (cs' := #[.int .i64 ((pre.length : Int) + 1)]) (blk_far k1c.out (by show gn ≠ gt; omega) _) 0 _ rfl
        · skip
          have hv := EM.out
          rw [hq] at hv
          simp only [Bool.false_or, Bool.false_and, Bool.true_and] at hv
          rw [hv]
          exact blk_far (blk_put (cs' := #[.bool (c1 == wrap64 (lst - c2))]) k2c.out 0 _ rfl) (by show gt ≠ gn; omega) _
    · gi_wp2_with (refine ⟨trivial, ?_⟩; first | (gi_at_call 18; refine (CallsIn.inRound l (callsIn_wide.2 (class_Cost.calls a0_0 a0_1 a0_2 A0_3 c0_3 l0_3 A0_4 c0_4 l0_4 A0_5 c0_5 l0_5 a0_6 x0 x1 c1 c2 _ (Kd.C_below HR3.out (below_step HB4.out hBa.out)) HC3.out (Kd.C_below HR4.out (below_step HB4.out hBa.out)) HC4.out (Kd.C_below HR5.out (below_step HB4.out hBa.out)) HC5.out HC.out))).mono ?_; rintro e wb ⟨rfl, hbb⟩; have k0b := Aside0.mk (blk_below k0a.out hbb); have k1b := Aside0.mk (blk_below k1a.out hbb); have k2b := Aside0.mk (blk_below k2a.out hbb); have k3b := Aside0.mk (blk_below k3a.out hbb); have k4b := Aside0.mk (blk_below k4a.out hbb); have k5b := Aside0.mk (blk_below k5a.out hbb); have hBb := Aside0.mk (below_step hBa.out hbb); have y0b := (blk_cell k0b.out 0).trans rfl; have y1b := (blk_cell k0b.out 1).trans rfl; have y2b := (blk_cell k0b.out 2).trans rfl; have y3b := (blk_cell k0b.out 3).trans rfl; have y4b := (blk_cell k0b.out 4).trans rfl; have y5b := (blk_cell k0b.out 5).trans rfl; have y6b := (blk_cell k0b.out 6).trans rfl; have n0b := (blk_cell k1b.out 0).trans rfl; have t0b := (blk_cell k2b.out 0).trans rfl; have s0b := (blk_cell k3b.out 0).trans rfl; have s1b := (blk_cell k3b.out 1).trans rfl; have b0b := (blk_cell k4b.out 0).trans rfl; have b1b := (blk_cell k4b.out 1).trans rfl; have q0b := (blk_cell k5b.out 0).trans rfl; have fnb := blk_frozen k1b.out 0; have ftb := blk_frozen k2b.out 0) | (gi_at_call 22; refine (CallsIn.inRound l (callsIn_wide.2 (class_Whole.calls a0_0 a0_1 a0_2 A0_3 c0_3 l0_3 A0_4 c0_4 l0_4 A0_5 c0_5 l0_5 a0_6 x0 x1 true _ (Kd.C_below HR3.out (below_step HB4.out hBb.out)) HC3.out (Kd.C_below HR4.out (below_step HB4.out hBb.out)) HC4.out (Kd.C_below HR5.out (below_step HB4.out hBb.out)) HC5.out HWX.out))).mono ?_; rintro e wc ⟨rfl, hbc⟩; have k0c := Aside0.mk (blk_below k0b.out hbc); have k1c := Aside0.mk (blk_below k1b.out hbc); have k2c := Aside0.mk (blk_below k2b.out hbc); have k3c := Aside0.mk (blk_below k3b.out hbc); have k4c := Aside0.mk (blk_below k4b.out hbc); have k5c := Aside0.mk (blk_below k5b.out hbc); have hBc := Aside0.mk (below_step hBb.out hbc); have y0c := (blk_cell k0c.out 0).trans rfl; have y1c := (blk_cell k0c.out 1).trans rfl; have y2c := (blk_cell k0c.out 2).trans rfl; have y3c := (blk_cell k0c.out 3).trans rfl; have y4c := (blk_cell k0c.out 4).trans rfl; have y5c := (blk_cell k0c.out 5).trans rfl; have y6c := (blk_cell k0c.out 6).trans rfl; have n0c := (blk_cell k1c.out 0).trans rfl; have t0c := (blk_cell k2c.out 0).trans rfl; have s0c := (blk_cell k3c.out 0).trans rfl; have s1c := (blk_cell k3c.out 1).trans rfl; have b0c := (blk_cell k4c.out 0).trans rfl; have b1c := (blk_cell k4c.out 1).trans rfl; have q0c := (blk_cell k5c.out 0).trans rfl; have fnc := blk_frozen k1c.out 0; have ftc := blk_frozen k2c.out 0))
      have kf := ((keeps_of_below (B := w5.heap.size) hbb).trans (keeps_of_below hbc)).trans (((KeepsOthers.setCell wc ⟨gt, 0, none⟩ (.bool true)).from _).trans ((KeepsOthers.setCell _ ⟨gn, 0, none⟩ (.int .i64 ((pre.length : Int) + 1))).from _))
      have k3 := ((kept3_of_below (B5 := B5) (B3 := B3) (B4 := B4) hbb b5.out b3.out b4.out).trans (kept3_of_below hbc (Nat.lt_of_lt_of_le b5.out hbb.size) (Nat.lt_of_lt_of_le b3.out hbb.size) (Nat.lt_of_lt_of_le b4.out hbb.size))).trans ((kept3_set (W := wc) (g := gt) (j := 0) (v := .bool true) (by omega) (by omega) (by omega)).trans (kept3_set (g := gn) (j := 0) (v := .int .i64 ((pre.length : Int) + 1)) (by omega) (by omega) (by omega)))
      refine ⟨⟨kf.1, kf.2⟩, ⟨k3.1, k3.2, k3.3⟩, ⟨?_⟩, ⟨?_⟩, ⟨below_set (below_set hBc.out (by show w4.heap.size ≤ gt; omega)) (by show w4.heap.size ≤ gn; omega)⟩, ⟨by have := h4.out; have := hbb.size; have := hbc.size; simp [World.setCell]; omega⟩⟩
      · rw [EL.out]
        exact blk_put (cs' := #[.int .i64 ((pre.length : Int) + 1)]) (blk_far k1c.out (by show gn ≠ gt; omega) _) 0 _ rfl
      · skip
        have hv := EM.out
        simp only [Bool.true_or] at hv
        rw [hv]
        exact blk_far (blk_put (cs' := #[.bool true]) k2c.out 0 _ rfl) (by show gt ≠ gn; omega) _
  case done =>
    rintro D xs W hD hS ⟨h1, h2, h3, h4⟩ hKD
    have hlen : xs.length = nS := by
      have e := congrArg List.length hS
      rw [List.length_map] at e
      exact e.trans HLEN.out
    have h1' := h1.out
    have h2' := h2.out
    rw [hlen] at h1'
    rw [hS, HMET.out] at h2'
    refine hK1 _ _ ?_
    refine wpIn_wide.2 ?_
    have hgc := blk_below HGC.out h3.out
    have HGR5 := Aside0.mk (blk_below HGR.out h3.out)
    have y0 := (blk_cell hgc 0).trans rfl
    have y1 := (blk_cell hgc 1).trans rfl
    have y2 := (blk_cell hgc 2).trans rfl
    have y3 := (blk_cell hgc 3).trans rfl
    have y4 := (blk_cell hgc 4).trans rfl
    have y5 := (blk_cell hgc 5).trans rfl
    have y6 := (blk_cell hgc 6).trans rfl
    have e0 := (blk_cell h2' 0).trans rfl
    have e1 := (blk_cell h1' 0).trans rfl
    have HBW := Aside0.mk (below_step HB4.out h3.out)
    have HKD := Aside0.mk hKD
    clear hgc h1' h2' hKD h1 h2 hlen hS
    go_wp2
    go_region_held3 (fun W' : World => W'.cell? ⟨gt, 0, none⟩ = some (.bool true) ∧ W'.cell? ⟨gn, 0, none⟩ = some (.int .i64 (nS : Int)) ∧ W'.cell? ⟨w.heap.size, 0, none⟩ = some (.string a0_0) ∧ W'.cell? ⟨w.heap.size, 1, none⟩ = some (.int .i64 a0_1) ∧ W'.cell? ⟨w.heap.size, 2, none⟩ = some (.int .u16 a0_2) ∧ W'.cell? ⟨w.heap.size, 3, none⟩ = some (.slice A0_3 l0_3.length c0_3) ∧ W'.cell? ⟨w.heap.size, 4, none⟩ = some (.slice A0_4 l0_4.length c0_4) ∧ W'.cell? ⟨w.heap.size, 5, none⟩ = some (.slice A0_5 l0_5.length c0_5) ∧ W'.cell? ⟨w.heap.size, 6, none⟩ = some (.int .i64 a0_6)) (first | exact ⟨e0, e1, y0, y1, y2, y3, y4, y5, y6⟩ | exact ⟨pw_cell_below hb5 e0, pw_cell_below hb5 e1, pw_cell_below hb5 y0, pw_cell_below hb5 y1, pw_cell_below hb5 y2, pw_cell_below hb5 y3, pw_cell_below hb5 y4, pw_cell_below hb5 y5, pw_cell_below hb5 y6⟩ | exact ⟨pw_cell_below hb6 (pw_cell_below hb5 e0), pw_cell_below hb6 (pw_cell_below hb5 e1), pw_cell_below hb6 (pw_cell_below hb5 y0), pw_cell_below hb6 (pw_cell_below hb5 y1), pw_cell_below hb6 (pw_cell_below hb5 y2), pw_cell_below hb6 (pw_cell_below hb5 y3), pw_cell_below hb6 (pw_cell_below hb5 y4), pw_cell_below hb6 (pw_cell_below hb5 y5), pw_cell_below hb6 (pw_cell_below hb5 y6)⟩ | exact ⟨(cell_far (by dsimp only; omega) _).trans (pw_cell_below hb6 (pw_cell_below hb5 e0)), (cell_far (by dsimp only; omega) _).trans (pw_cell_below hb6 (pw_cell_below hb5 e1)), (cell_far (by dsimp only; omega) _).trans (pw_cell_below hb6 (pw_cell_below hb5 y0)), (cell_far (by dsimp only; omega) _).trans (pw_cell_below hb6 (pw_cell_below hb5 y1)), (cell_far (by dsimp only; omega) _).trans (pw_cell_below hb6 (pw_cell_below hb5 y2)), (cell_far (by dsimp only; omega) _).trans (pw_cell_below hb6 (pw_cell_below hb5 y3)), (cell_far (by dsimp only; omega) _).trans (pw_cell_below hb6 (pw_cell_below hb5 y4)), (cell_far (by dsimp only; omega) _).trans (pw_cell_below hb6 (pw_cell_below hb5 y5)), (cell_far (by dsimp only; omega) _).trans (pw_cell_below hb6 (pw_cell_below hb5 y6))⟩) (first | (go_at_call 15; refine (class_Count.calls a0_0 a0_1 a0_2 A0_3 c0_3 l0_3 A0_4 c0_4 l0_4 A0_5 c0_5 l0_5 a0_6 (nS : Int) _ (Kd.C_below HR3.out (below_drew HBW.out)) HC3.out (Kd.C_below HR4.out (below_drew HBW.out)) HC4.out (Kd.C_below HR5.out (below_drew HBW.out)) HC5.out HC.out).mono ?_; rintro e w7 ⟨rfl, hb5⟩; have z5 := Aside0.mk (blk_below (w := W.drew) HGR5.out hb5); have zd := Aside0.mk (blk_below (w := W.drew) HKD.out hb5); have zb := Aside0.mk (below_step (below_drew HBW.out) hb5)) | (go_at_call 9; refine (horariumlaw13_heads.calls true _ rfl).mono ?_; rintro e w6 ⟨rfl, hb6⟩; have z6 := Aside0.mk (blk_below z5.out hb6); have zd6 := Aside0.mk (blk_below zd.out hb6); have zb6 := Aside0.mk (below_step zb.out hb6); have s0 := (blk_cell z6.out 0).trans rfl; have s1 := blk_frozen z6.out 0))
    go_wp2
    have hd' : (w6.setCell ⟨w.heap.size + 1, 0, none⟩ (.bool true)).heap[D]? = some (.deferred (some [])) := (Below.heap_setCell _ ⟨w.heap.size + 1, 0, none⟩ _ D (by show D ≠ w.heap.size + 1; omega)).trans zd6.out
    refine ⟨by simp, .inl ⟨_, _, rfl, run_takeDeferred hd', ?_⟩⟩
    have hr2 := heap_keep (B := 0) (blk_put (cs' := #[.bool true]) z6.out 0 _ rfl) (grownBy_putObj' _ D (.deferred none)) (fun r e => by cases e; exact ⟨Nat.zero_le _, _, hd', rfl⟩)
    refine ⟨_, results_cb rfl _ _ (w.heap.size + 1) (.bool true) rfl (by kernel_rfl) ((blk_cell hr2 0).trans rfl), rfl, (below_set zb6.out (by omega)).trans (belowK_b (w := w5) (by omega) _ D _ _ hD hd' rfl rfl)⟩
  case stop =>
    rintro D c pre W _ _ h _
    exact h.elim
set_option maxHeartbeats 8000000 in
set_option maxRecDepth 100000 in
/-- The walk of any other class: the chapter's heads. -/
theorem horariumlaw13_ClassLeast.many (k : Nat) (a0_0 : ByteArray) (a0_1 : Int) (a0_2 : Int) (A0_3 : Option Addr) (c0_3 : Nat) (l0_3 : List Int) (A0_4 : Option Addr) (c0_4 : Nat) (l0_4 : List (S58)) (A0_5 : Option Addr) (c0_5 : Nat) (l0_5 : List (S60)) (a0_6 : Int) (w : World) (hr0_3 : Kd.C (Kd.int .i64) w A0_3 l0_3.length l0_3) (hc0_3 : l0_3.length ≤ c0_3) (hr0_4 : Kd.C k58 w A0_4 l0_4.length l0_4) (hc0_4 : l0_4.length ≤ c0_4) (hr0_5 : Kd.C k60 w A0_5 l0_5.length l0_5) (hc0_5 : l0_5.length ≤ c0_5)
    (hF : horariumlaw13_few.f k a0_0 a0_1 a0_2 l0_3 l0_4 l0_5 a0_6 = some false) :
    Calls Try.prog 7 #[.agg #[.string a0_0, .int .i64 a0_1, .int .u16 a0_2, .slice A0_3 l0_3.length c0_3, .slice A0_4 l0_4.length c0_4, .slice A0_5 l0_5.length c0_5, .int .i64 a0_6]] w fun e w' => e = .returned (.bool true) ∧ Below w.heap.size w w' := by
  have hu30 := Try.underlying30
  have HR3 := Aside0.mk hr0_3
  have HR4 := Aside0.mk hr0_4
  have HR5 := Aside0.mk hr0_5
  have HC3 := Aside0.mk hc0_3
  have HC4 := Aside0.mk hc0_4
  have HC5 := Aside0.mk hc0_5
  have HF := Aside0.mk hF
  clear hr0_3 hr0_4 hr0_5 hc0_3 hc0_4 hc0_5 hF
  refine (callsIn_wide (n := 5)).1 ?_
  refine callsIn_of_wp_marks Try.func7 rfl trivial ?_ rfl
  simp only [Try.ntmps7, List.size_toArray, List.length_cons, List.length_nil, Nat.reduceAdd, Nat.reduceSub, Array.replicate_succ, Array.replicate_zero, List.push_toArray, List.append_toArray, List.nil_append, List.cons_append]
  gi_wp2_with fail
  refine ⟨trivial, ?_⟩
  gi_at_call 12
  refine (callsIn_wide.2 (horariumlaw13_few.calls k a0_0 a0_1 a0_2 A0_3 c0_3 l0_3 A0_4 c0_4 l0_4 A0_5 c0_5 l0_5 a0_6 false _ (Kd.C_alloc (Kd.C_alloc HR3.out _) _) HC3.out (Kd.C_alloc (Kd.C_alloc HR4.out _) _) HC4.out (Kd.C_alloc (Kd.C_alloc HR5.out _) _) HC5.out HF.out)).mono ?_
  rintro e w1 ⟨rfl, hb1⟩
  have HB1 := Aside0.mk (below_step (below_alloc (below_alloc (Below.refl w.heap.size w) _) _) hb1)
  have HGC := Aside0.mk (blk_below (blk_alloc (blk_new w (.cells #[.string a0_0, .int .i64 a0_1, .int .u16 a0_2, .slice A0_3 l0_3.length c0_3, .slice A0_4 l0_4.length c0_4, .slice A0_5 l0_5.length c0_5, .int .i64 a0_6] 30 (0, 0))) _) hb1)
  have HGR := Aside0.mk (blk_below (Go.Proofs.YtcpknfcococneaaH.blk_new' _ (.cells #[.bool false] 4 (0, 0)) (w.heap.size + 1) (by simp)) hb1)
  have y4 := (blk_cell HGC.out 4).trans rfl
  clear hb1
  gi_wp2_with (refine ⟨trivial, ?_⟩; gi_at_call 9; refine (callsIn_wide.2 (horariumlaw13_heads.calls true _ rfl)).mono ?_; rintro e w2 ⟨rfl, hb2⟩; have k1 := Aside0.mk (blk_below HGR.out hb2); have k2 := Aside0.mk (below_step HB1.out hb2); have s0 := (blk_cell k1.out 0).trans rfl; have s1 := blk_frozen k1.out 0)
  exact ⟨_, results_cb rfl _ _ (w.heap.size + 1) (.bool true) rfl (by kernel_rfl) ((blk_cell (blk_put (cs' := #[.bool true]) k1.out 0 _ rfl) 0).trans rfl), rfl, below_set k2.out (by omega)⟩
set_option maxHeartbeats 8000000 in
set_option maxRecDepth 100000 in
/-- The walk of a class without times. -/
theorem horariumlaw13_ClassLeast.none (k : Nat) (a0_0 : ByteArray) (a0_1 : Int) (a0_2 : Int) (A0_3 : Option Addr) (c0_3 : Nat) (l0_3 : List Int) (A0_4 : Option Addr) (c0_4 : Nat) (l0_4 : List (S58)) (A0_5 : Option Addr) (c0_5 : Nat) (l0_5 : List (S60)) (a0_6 : Int) (w : World) (hr0_3 : Kd.C (Kd.int .i64) w A0_3 l0_3.length l0_3) (hc0_3 : l0_3.length ≤ c0_3) (hr0_4 : Kd.C k58 w A0_4 l0_4.length l0_4) (hc0_4 : l0_4.length ≤ c0_4) (hr0_5 : Kd.C k60 w A0_5 l0_5.length l0_5) (hc0_5 : l0_5.length ≤ c0_5)
    (hF : horariumlaw13_few.f k a0_0 a0_1 a0_2 l0_3 l0_4 l0_5 a0_6 = some true) (hT : l0_4.length = 0) :
    Calls Try.prog 7 #[.agg #[.string a0_0, .int .i64 a0_1, .int .u16 a0_2, .slice A0_3 l0_3.length c0_3, .slice A0_4 l0_4.length c0_4, .slice A0_5 l0_5.length c0_5, .int .i64 a0_6]] w fun e w' => e = .returned (.bool true) ∧ Below w.heap.size w w' := by
  have hu30 := Try.underlying30
  have HR3 := Aside0.mk hr0_3
  have HR4 := Aside0.mk hr0_4
  have HR5 := Aside0.mk hr0_5
  have HC3 := Aside0.mk hc0_3
  have HC4 := Aside0.mk hc0_4
  have HC5 := Aside0.mk hc0_5
  have HF := Aside0.mk hF
  have hT0 : ((l0_4.length : Int) == 0) = true := by simp [hT]
  clear hT
  clear hr0_3 hr0_4 hr0_5 hc0_3 hc0_4 hc0_5 hF
  refine (callsIn_wide (n := 5)).1 ?_
  refine callsIn_of_wp_marks Try.func7 rfl trivial ?_ rfl
  simp only [Try.ntmps7, List.size_toArray, List.length_cons, List.length_nil, Nat.reduceAdd, Nat.reduceSub, Array.replicate_succ, Array.replicate_zero, List.push_toArray, List.append_toArray, List.nil_append, List.cons_append]
  gi_wp2_with fail
  refine ⟨trivial, ?_⟩
  gi_at_call 12
  refine (callsIn_wide.2 (horariumlaw13_few.calls k a0_0 a0_1 a0_2 A0_3 c0_3 l0_3 A0_4 c0_4 l0_4 A0_5 c0_5 l0_5 a0_6 true _ (Kd.C_alloc (Kd.C_alloc HR3.out _) _) HC3.out (Kd.C_alloc (Kd.C_alloc HR4.out _) _) HC4.out (Kd.C_alloc (Kd.C_alloc HR5.out _) _) HC5.out HF.out)).mono ?_
  rintro e w1 ⟨rfl, hb1⟩
  have HB1 := Aside0.mk (below_step (below_alloc (below_alloc (Below.refl w.heap.size w) _) _) hb1)
  have HGC := Aside0.mk (blk_below (blk_alloc (blk_new w (.cells #[.string a0_0, .int .i64 a0_1, .int .u16 a0_2, .slice A0_3 l0_3.length c0_3, .slice A0_4 l0_4.length c0_4, .slice A0_5 l0_5.length c0_5, .int .i64 a0_6] 30 (0, 0))) _) hb1)
  have HGR := Aside0.mk (blk_below (Go.Proofs.YtcpknfcococneaaH.blk_new' _ (.cells #[.bool false] 4 (0, 0)) (w.heap.size + 1) (by simp)) hb1)
  have y4 := (blk_cell HGC.out 4).trans rfl
  clear hb1
  gi_wp2_with (refine ⟨trivial, ?_⟩; gi_at_call 9; refine (callsIn_wide.2 (horariumlaw13_heads.calls true _ rfl)).mono ?_; rintro e w2 ⟨rfl, hb2⟩; have k1 := Aside0.mk (blk_below HGR.out hb2); have k2 := Aside0.mk (below_step HB1.out hb2); have s0 := (blk_cell k1.out 0).trans rfl; have s1 := blk_frozen k1.out 0)
  exact ⟨_, results_cb rfl _ _ (w.heap.size + 1) (.bool true) rfl (by kernel_rfl) ((blk_cell (blk_put (cs' := #[.bool true]) k1.out 0 _ rfl) 0).trans rfl), rfl, below_set k2.out (by omega)⟩
end Go.Proofs.Ytcpknfcococneaa.Q
