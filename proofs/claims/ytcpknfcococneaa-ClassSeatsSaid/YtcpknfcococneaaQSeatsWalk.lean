/-
The walk of horarium/horariumlaw13.ClassSeats, by hand.
-/
import Derived.RangeFuncNested
import Derived.RangeFuncBound
import Derived.RangeFuncCalls
import Derived.RangeFuncLeaves
import Derived.Shelf.Abstract
import Derived.WalkKit
import Derived.OwnWalkIn
import Derived.TacticsInMore
import Derived.LoopNIn
import Derived.LoopIn
import Derived.Deep.RegionHeld3
import Derived.Test.YtcpknfcococneaaQx0
import Derived.Test.YtcpknfcococneaaQx1
import Derived.Test.YtcpknfcococneaaQx3
import Derived.Test.YtcpknfcococneaaQx9
import Derived.Test.YtcpknfcococneaaQx10
import Derived.Test.YtcpknfcococneaaQx11
import Derived.Test.YtcpknfcococneaaQx13
import Derived.Test.YtcpknfcococneaaQx14
import Derived.Test.YtcpknfcococneaaQx20
import Derived.Test.YtcpknfcococneaaQx21
import Derived.Test.YtcpknfcococneaaH
set_option linter.unusedVariables false
set_option linter.unusedSimpArgs false
namespace Go.Proofs.Ytcpknfcococneaa.Q
open Go.RowKit Go.Proofs.YtcpknfcococneaaW.PrintWords Go.Proofs.YtcpknfcococneaaW.PrintLast Go.Proofs.YtcpknfcococneaaW.PrintMore
attribute [local go_sem] max2_int min2_int max_two min_two max_three min_three max_four min_four
theorem results_cb {P : Program} {fn : Func} {p : Tmp} {ty : TypeId} (h : fn.results = #[.cell p ty]) (tmps : Array Value) (w : World) (g : Nat) (v : Value) (hp : tmps.getD p undef = .pointer (some ⟨g, 0, none⟩)) (hu : P.underlying ty = some .bool) (hc : w.cell? ⟨g, 0, none⟩ = some v) : (results fn tmps).run P w = .ok v w := by
  have hp' : tmps[p]?.getD undef = .pointer (some ⟨g, 0, none⟩) := by simpa using hp
  simp [results, h, hp', asAddr, loadVar, isAgg, go_sem, run_underlying hu, hc]
theorem prefix_snoc {α : Type} {p l : List α} {a : α} (h : p <+: l) (ha : l[p.length]? = some a) : p ++ [a] <+: l := by
  obtain ⟨t, rfl⟩ := h
  rw [List.getElem?_append_right (Nat.le_refl _), Nat.sub_self] at ha
  cases t with
  | nil => simp at ha
  | cons b t =>
    simp only [List.getElem?_cons_zero, Option.some.injEq] at ha
    subst ha
    exact ⟨t, by simp⟩
theorem prefix_last {α : Type} {p l : List α} {a : α} (h : p ++ [a] <+: l) : l[p.length]? = some a := by
  obtain ⟨t, rfl⟩ := h
  simp
theorem seat_at {L : List S41} {l : List (Int × Int)} (hL : L.map (fun s => (s.f0, s.f1)) = l) {n : Nat} (hn : n < L.length) : l[n]? = some ((rd_T41 L (n : Int)).f0, (rd_T41 L (n : Int)).f1) := by
  rw [← hL, List.getElem?_map]
  unfold rd_T41
  rw [Int.toNat_natCast, List.getD_eq_getElem?_getD, List.getElem?_eq_getElem hn]
  rfl
attribute [local go_sem] Oper.semAt_some
attribute [local go_sem high] eqA41
set_option maxHeartbeats 8000000 in
set_option maxRecDepth 100000 in
/-- The walk of a class with few times: the answers that it reaches are given. -/
theorem horariumlaw13_ClassSeats.few (k : Nat) (a0_0 : ByteArray) (a0_1 : Int) (a0_2 : Int) (A0_3 : Option Addr) (c0_3 : Nat) (l0_3 : List Int) (A0_4 : Option Addr) (c0_4 : Nat) (l0_4 : List (S58)) (A0_5 : Option Addr) (c0_5 : Nat) (l0_5 : List (S60)) (a0_6 : Int) (m : Nat) (hm : m < 256) (L : List (S41)) (w : World) (hr0_3 : Kd.C (Kd.int .i64) w A0_3 l0_3.length l0_3) (hc0_3 : l0_3.length ≤ c0_3) (hr0_4 : Kd.C k58 w A0_4 l0_4.length l0_4) (hc0_4 : l0_4.length ≤ c0_4) (hr0_5 : Kd.C k60 w A0_5 l0_5.length l0_5) (hc0_5 : l0_5.length ≤ c0_5)
    (hF : horariumlaw13_few.f k a0_0 a0_1 a0_2 l0_3 l0_4 l0_5 a0_6 = some true) (hS : horariumref13_Seats.f k a0_0 a0_1 a0_2 l0_3 l0_4 l0_5 a0_6 = some L) (hL : L.map (fun s => (s.f0, s.f1)) = sall l0_4.length (ch.from l0_5.length) (ch.many l0_5.length)) (hl : L.length ≤ 400)
    (hC : class_Count.f a0_0 a0_1 a0_2 l0_3 l0_4 l0_5 a0_6 = some (L.length : Int)) :
    Calls Try.prog 4 #[.agg #[.string a0_0, .int .i64 a0_1, .int .u16 a0_2, .slice A0_3 l0_3.length c0_3, .slice A0_4 l0_4.length c0_4, .slice A0_5 l0_5.length c0_5, .int .i64 a0_6], .int .u8 m] w fun e w' => e = .returned (.bool true) ∧ Below w.heap.size w w' := by
  have hu30 := Try.underlying30
  have hu41 := Try.underlying41
  have HR3 := Aside0.mk hr0_3
  have HR4 := Aside0.mk hr0_4
  have HR5 := Aside0.mk hr0_5
  have HC3 := Aside0.mk hc0_3
  have HC4 := Aside0.mk hc0_4
  have HC5 := Aside0.mk hc0_5
  have HF := Aside0.mk hF
  have HS := Aside0.mk hS
  have HL := Aside0.mk hL
  have HC := Aside0.mk hC
  have HL4 := Aside0.mk (show l0_4.length ≤ 9223372036854775807 from hr0_4.2.1)
  have HL5 := Aside0.mk (show l0_5.length ≤ 9223372036854775807 from hr0_5.2.1)
  clear hr0_3 hr0_4 hr0_5 hc0_3 hc0_4 hc0_5 hF hS hL hC
  refine (callsIn_wide (n := 5)).1 ?_
  refine callsIn_of_wp_marks Try.func4 rfl trivial ?_ rfl
  simp only [Try.ntmps4, List.size_toArray, List.length_cons, List.length_nil, Nat.reduceAdd, Nat.reduceSub, Array.replicate_succ, Array.replicate_zero, List.push_toArray, List.append_toArray, List.nil_append, List.cons_append]
  gi_wp2_with fail
  refine ⟨trivial, ?_⟩
  gi_at_call 12
  refine (callsIn_wide.2 (horariumlaw13_few.calls k a0_0 a0_1 a0_2 A0_3 c0_3 l0_3 A0_4 c0_4 l0_4 A0_5 c0_5 l0_5 a0_6 true _ (Kd.C_alloc (Kd.C_alloc (Kd.C_alloc HR3.out _) _) _) HC3.out (Kd.C_alloc (Kd.C_alloc (Kd.C_alloc HR4.out _) _) _) HC4.out (Kd.C_alloc (Kd.C_alloc (Kd.C_alloc HR5.out _) _) _) HC5.out HF.out)).mono ?_
  rintro e w1 ⟨rfl, hb1⟩
  have HB1 := Aside0.mk (below_step (below_alloc (below_alloc (below_alloc (Below.refl w.heap.size w) _) _) _) hb1)
  have HGC := Aside0.mk (blk_below (blk_alloc (blk_alloc (blk_new w (.cells #[.string a0_0, .int .i64 a0_1, .int .u16 a0_2, .slice A0_3 l0_3.length c0_3, .slice A0_4 l0_4.length c0_4, .slice A0_5 l0_5.length c0_5, .int .i64 a0_6] 30 (0, 0))) _) _) hb1)
  have HGM := Aside0.mk (blk_below (blk_alloc (Go.Proofs.YtcpknfcococneaaH.blk_new' _ (.cells #[.int .u8 m] 5 (0, 0)) (w.heap.size + 1) (by simp)) _) hb1)
  have HGR := Aside0.mk (blk_below (Go.Proofs.YtcpknfcococneaaH.blk_new' _ (.cells #[.bool false] 4 (0, 0)) (w.heap.size + 1 + 1) (by simp)) hb1)
  clear hb1
  have y0 := (blk_cell HGC.out 0).trans rfl
  have y1 := (blk_cell HGC.out 1).trans rfl
  have y2 := (blk_cell HGC.out 2).trans rfl
  have y3 := (blk_cell HGC.out 3).trans rfl
  have y4 := (blk_cell HGC.out 4).trans rfl
  have y5 := (blk_cell HGC.out 5).trans rfl
  have y6 := (blk_cell HGC.out 6).trans rfl
  have L1 := blk_lt HGR.out
  have L2 := blk_lt HGM.out
  have L3 := blk_lt HGC.out
  gi_wp2_with fail
  refine ⟨trivial, ?_⟩
  gi_at_call 13
  refine (callsIn_wide.2 (horariumref13_Seats.calls k a0_0 a0_1 a0_2 A0_3 c0_3 l0_3 A0_4 c0_4 l0_4 A0_5 c0_5 l0_5 a0_6 L _ (Kd.C_below HR3.out HB1.out) HC3.out (Kd.C_below HR4.out HB1.out) HC4.out (Kd.C_below HR5.out HB1.out) HC5.out HS.out)).mono ?_
  rintro e w2 ⟨v2, rfl, hv2, hb2⟩
  obtain ⟨A2, c2, rfl⟩ := Kd.R_slice hv2
  have HV2 := Aside0.mk (Kd.R_reads' hv2).2.2
  clear hv2
  have n1 := Aside0.mk (blk_below HGC.out hb2)
  have n2 := Aside0.mk (blk_below HGM.out hb2)
  have n3 := Aside0.mk (blk_below HGR.out hb2)
  have n4 := Aside0.mk (below_step HB1.out hb2)
  clear HGC HGM HGR HB1 y0 y1 y2 y3 y4 y5 y6 L1 L2 L3 hb2
  have HGC := n1
  have HGM := n2
  have HGR := n3
  have HB2 := n4
  clear n1 n2 n3 n4
  have y0 := (blk_cell HGC.out 0).trans rfl
  have y1 := (blk_cell HGC.out 1).trans rfl
  have y2 := (blk_cell HGC.out 2).trans rfl
  have y3 := (blk_cell HGC.out 3).trans rfl
  have y4 := (blk_cell HGC.out 4).trans rfl
  have y5 := (blk_cell HGC.out 5).trans rfl
  have y6 := (blk_cell HGC.out 6).trans rfl
  have L1 := blk_lt HGR.out
  have L2 := blk_lt HGM.out
  have L3 := blk_lt HGC.out
  gi_wp2_with fail
  refine ⟨trivial, ?_⟩
  gi_at_call 14
  refine (callsIn_wide.2 (class_Seats.calls a0_0 a0_1 a0_2 _ A0_4 c0_4 l0_4.length A0_5 c0_5 l0_5.length a0_6 _)).mono ?_
  rintro e w3 ⟨B3, B4, B5, rfl, hB5, hB3, hB4, ⟨hle5, hle3, hle4⟩, hb3⟩
  have HGW := Aside0.mk (blk_below (Go.Proofs.YtcpknfcococneaaH.blk_new' w2 (.cells #[.slice A2 L.length c2] 35 (0, 0)) w2.heap.size rfl) hb3)
  have HB3 := Aside0.mk (below_step (below_alloc (Below.refl w2.heap.size w2) _) hb3)
  simp only [World.size_alloc] at hle5 hle3 hle4
  clear hb3
  obtain ⟨gw, hgw⟩ : ∃ gw, gw = w2.heap.size := ⟨_, rfl⟩
  rw [← hgw] at HGW ⊢
  have hle5' : gw < B5 := by omega
  have hle3' : gw < B3 := by omega
  have hle4' : gw < B4 := by omega
  clear hle5 hle3 hle4 y0 y1 y2 y3 y4 y5 y6
  have hb4 : Aside0 (w3.heap[B4]? = some (.cells #[.int .i64 (ch.from l0_5.length + (ch.many l0_5.length : Int))] 3 (0, 0))) := ⟨by rw [ch.to]; exact hB4⟩
  have hb3 : Aside0 (w3.heap[B3]? = some (.cells #[.int .i64 (ch.from l0_5.length)] 3 (0, 0))) := ⟨hB3⟩
  have hb5 := Aside0.mk hB5
  clear hB4 hB3 hB5
  have L4 := blk_lt HGW.out
  have hnil : ∀ W : World, (binOp BinOp.eql 38 (Value.func (Fn.func 38) #[] #[.pointer (some ⟨B5, 0, none⟩), .pointer (some ⟨B3, 0, none⟩), .pointer (some ⟨B4, 0, none⟩)]) Value.nilFunc).run Try.prog W = .ok (.bool false) W := fun W => by rfl
  gi_wp2
  rename_i K1 hK1
  obtain ⟨gn, hgn⟩ : ∃ gn, gn = w3.heap.size := ⟨_, rfl⟩
  rw [← hgn, ← hgw]
  have HB4 := Aside0.mk (below_alloc HB3.out (.cells #[.int .i64 0] 3 (0, 0)))
  have HGN := Aside0.mk (Go.Proofs.YtcpknfcococneaaH.blk_new' w3 (.cells #[.int .i64 0] 3 (0, 0)) gn hgn)
  have HGW4 := Aside0.mk (blk_alloc HGW.out (.cells #[.int .i64 0] 3 (0, 0)))
  obtain ⟨w4, hw4⟩ : ∃ w4, w4 = w3.alloc (.cells #[.int .i64 0] 3 (0, 0)) := ⟨_, rfl⟩
  have hc5 := Aside0.mk (blk_alloc hb5.out (.cells #[.int .i64 0] 3 (0, 0)))
  have hc3 := Aside0.mk (blk_alloc hb3.out (.cells #[.int .i64 0] 3 (0, 0)))
  have hc4 := Aside0.mk (blk_alloc hb4.out (.cells #[.int .i64 0] 3 (0, 0)))
  have l5 := blk_lt hb5.out
  have l3 := blk_lt hb3.out
  have l4 := blk_lt hb4.out
  rw [← hw4] at HB4 HGN HGW4 hc5 hc3 hc4 ⊢
  have hs4 : w4.heap.size = gn + 1 := by rw [hw4, hgn]; simp
  have hwg : w2.heap.size ≤ gw := by omega
  have hwn : gw < gn := by omega
  have hw2n : w2.heap.size < gn := by omega
  rw [← hgn] at l5 l3 l4
  clear hw4 HGW HB3 hb3 hb4 hb5 L4 hgn hgw
  have hlen := Aside0.mk (show (sall l0_4.length (ch.from l0_5.length) (ch.many l0_5.length)).length = L.length by rw [← HL.out]; simp)
  have tail : ∀ (D : Nat) (W : World) (nn : Nat), nn = min m L.length → w4.heap.size ≤ D → W.heap[gn]? = some (.cells #[.int .i64 (nn : Int)] 3 (0, 0)) → W.heap[gw]? = some (.cells #[.slice A2 L.length c2] 35 (0, 0)) → Below w2.heap.size w2 W → W.heap[D]? = some (.deferred (some [])) →
      K1 { tmps := #[.agg #[.string a0_0, .int .i64 a0_1, .int .u16 a0_2, .slice A0_3 l0_3.length c0_3, .slice A0_4 l0_4.length c0_4, .slice A0_5 l0_5.length c0_5, .int .i64 a0_6], .int .u8 m, .pointer (some ⟨w.heap.size, 0, none⟩), .pointer (some ⟨(w.heap.size + 1), 0, none⟩), .pointer (some ⟨(w.heap.size + 1 + 1), 0, none⟩), .pointer (some ⟨gw, 0, none⟩), .func (.func 38) #[] #[.pointer (some ⟨B5, 0, none⟩), .pointer (some ⟨B3, 0, none⟩), .pointer (some ⟨B4, 0, none⟩)], .pointer (some ⟨gn, 0, none⟩), undef, .agg #[.string a0_0, .int .i64 a0_1, .int .u16 a0_2, .slice A0_3 l0_3.length c0_3, .slice A0_4 l0_4.length c0_4, .slice A0_5 l0_5.length c0_5, .int .i64 a0_6], .bool true, .bool false, undef, .agg #[.string a0_0, .int .i64 a0_1, .int .u16 a0_2, .slice A0_3 l0_3.length c0_3, .slice A0_4 l0_4.length c0_4, .slice A0_5 l0_5.length c0_5, .int .i64 a0_6], .slice A2 L.length c2, .agg #[.string a0_0, .int .i64 a0_1, .int .u16 a0_2, .slice A0_3 l0_3.length c0_3, .slice A0_4 l0_4.length c0_4, .slice A0_5 l0_5.length c0_5, .int .i64 a0_6], .func (.func 38) #[] #[.pointer (some ⟨B5, 0, none⟩), .pointer (some ⟨B3, 0, none⟩), .pointer (some ⟨B4, 0, none⟩)], .func (.func 38) #[] #[.pointer (some ⟨B5, 0, none⟩), .pointer (some ⟨B3, 0, none⟩), .pointer (some ⟨B4, 0, none⟩)], .bool false, .func (.func 38) #[] #[.pointer (some ⟨B5, 0, none⟩), .pointer (some ⟨B3, 0, none⟩), .pointer (some ⟨B4, 0, none⟩)], undef, undef, undef, undef, undef, undef, undef, undef, undef, undef, undef, undef, undef, undef, undef, undef, undef, undef, undef, undef, undef, undef, undef, undef, undef, undef, undef, undef, undef, undef, undef, undef, undef, undef, undef, undef], defers := [{ target := .collected D, args := #[] }] } W := by
    intro D W nn hnn hD h3 h4 h5 hKD
    refine hK1 _ _ ?_
    refine wpIn_wide.2 ?_
    have hgc := blk_below HGC.out h5
    have hgm := blk_below HGM.out h5
    have hgr := blk_below HGR.out h5
    have y0 := (blk_cell hgc 0).trans rfl
    have y1 := (blk_cell hgc 1).trans rfl
    have y2 := (blk_cell hgc 2).trans rfl
    have y3 := (blk_cell hgc 3).trans rfl
    have y4 := (blk_cell hgc 4).trans rfl
    have y5 := (blk_cell hgc 5).trans rfl
    have y6 := (blk_cell hgc 6).trans rfl
    have e0 := (blk_cell h3 0).trans rfl
    have e1 := (blk_cell h4 0).trans rfl
    have e2 := (blk_cell hgm 0).trans rfl
    have HBW := Aside0.mk (below_step HB2.out h5)
    have HKD := Aside0.mk hKD
    have HGR5 := Aside0.mk hgr
    have H3 := Aside0.mk h3
    have H4 := Aside0.mk h4
    have HG5 := Aside0.mk hgc
    have HM5 := Aside0.mk hgm
    clear hgc hgm hgr h3 h4 hKD h5
    rcases Nat.lt_or_ge L.length m with hlm | hlm
    · obtain rfl : nn = L.length := by omega
      clear hnn
      have hw : IntKind.i64.wrap (m : Int) = (m : Int) := Go.IntWalk.i64_in _ (by omega)
      have hif : (if (L.length : Int) < (m : Int) then (L.length : Int) else (m : Int)) = (L.length : Int) := if_pos (by omega)
      go_wp2
      go_region_held3 (fun W' : World => W'.cell? ⟨gn, 0, none⟩ = some (.int .i64 (L.length : Int)) ∧ W'.cell? ⟨gw, 0, none⟩ = some (.slice A2 L.length c2) ∧ W'.cell? ⟨w.heap.size + 1, 0, none⟩ = some (.int .u8 m) ∧ W'.cell? ⟨w.heap.size, 0, none⟩ = some (.string a0_0) ∧ W'.cell? ⟨w.heap.size, 1, none⟩ = some (.int .i64 a0_1) ∧ W'.cell? ⟨w.heap.size, 2, none⟩ = some (.int .u16 a0_2) ∧ W'.cell? ⟨w.heap.size, 3, none⟩ = some (.slice A0_3 l0_3.length c0_3) ∧ W'.cell? ⟨w.heap.size, 4, none⟩ = some (.slice A0_4 l0_4.length c0_4) ∧ W'.cell? ⟨w.heap.size, 5, none⟩ = some (.slice A0_5 l0_5.length c0_5) ∧ W'.cell? ⟨w.heap.size, 6, none⟩ = some (.int .i64 a0_6)) (first | exact ⟨e0, e1, e2, y0, y1, y2, y3, y4, y5, y6⟩ | exact ⟨pw_cell_below hb5 e0, pw_cell_below hb5 e1, pw_cell_below hb5 e2, pw_cell_below hb5 y0, pw_cell_below hb5 y1, pw_cell_below hb5 y2, pw_cell_below hb5 y3, pw_cell_below hb5 y4, pw_cell_below hb5 y5, pw_cell_below hb5 y6⟩ | exact ⟨pw_cell_below hb6 (pw_cell_below hb5 e0), pw_cell_below hb6 (pw_cell_below hb5 e1), pw_cell_below hb6 (pw_cell_below hb5 e2), pw_cell_below hb6 (pw_cell_below hb5 y0), pw_cell_below hb6 (pw_cell_below hb5 y1), pw_cell_below hb6 (pw_cell_below hb5 y2), pw_cell_below hb6 (pw_cell_below hb5 y3), pw_cell_below hb6 (pw_cell_below hb5 y4), pw_cell_below hb6 (pw_cell_below hb5 y5), pw_cell_below hb6 (pw_cell_below hb5 y6)⟩ | exact ⟨(cell_far (by dsimp only; omega) _).trans (pw_cell_below hb6 (pw_cell_below hb5 e0)), (cell_far (by dsimp only; omega) _).trans (pw_cell_below hb6 (pw_cell_below hb5 e1)), (cell_far (by dsimp only; omega) _).trans (pw_cell_below hb6 (pw_cell_below hb5 e2)), (cell_far (by dsimp only; omega) _).trans (pw_cell_below hb6 (pw_cell_below hb5 y0)), (cell_far (by dsimp only; omega) _).trans (pw_cell_below hb6 (pw_cell_below hb5 y1)), (cell_far (by dsimp only; omega) _).trans (pw_cell_below hb6 (pw_cell_below hb5 y2)), (cell_far (by dsimp only; omega) _).trans (pw_cell_below hb6 (pw_cell_below hb5 y3)), (cell_far (by dsimp only; omega) _).trans (pw_cell_below hb6 (pw_cell_below hb5 y4)), (cell_far (by dsimp only; omega) _).trans (pw_cell_below hb6 (pw_cell_below hb5 y5)), (cell_far (by dsimp only; omega) _).trans (pw_cell_below hb6 (pw_cell_below hb5 y6))⟩) (first | (go_at_call 15; refine (class_Count.calls a0_0 a0_1 a0_2 A0_3 c0_3 l0_3 A0_4 c0_4 l0_4 A0_5 c0_5 l0_5 a0_6 (L.length : Int) _ (Kd.C_below HR3.out (below_drew HBW.out)) HC3.out (Kd.C_below HR4.out (below_drew HBW.out)) HC4.out (Kd.C_below HR5.out (below_drew HBW.out)) HC5.out HC.out).mono ?_; rintro e w5 ⟨rfl, hb5⟩; have z5 := Aside0.mk (blk_below (w := W.drew) HGR5.out hb5); have zd := Aside0.mk (blk_below (w := W.drew) HKD.out hb5); have zb := Aside0.mk (below_step (below_drew HBW.out) hb5)) | (go_at_call 9; refine (horariumlaw13_heads.calls true _ rfl).mono ?_; rintro e w6 ⟨rfl, hb6⟩; have z6 := Aside0.mk (blk_below z5.out hb6); have zd6 := Aside0.mk (blk_below zd.out hb6); have zb6 := Aside0.mk (below_step zb.out hb6); have s0 := (blk_cell z6.out 0).trans rfl; have s1 := blk_frozen z6.out 0))
      go_wp2
      have hd' : (w6.setCell ⟨w.heap.size + 1 + 1, 0, none⟩ (.bool true)).heap[D]? = some (.deferred (some [])) := (Below.heap_setCell _ ⟨w.heap.size + 1 + 1, 0, none⟩ _ D (by show D ≠ w.heap.size + 1 + 1; omega)).trans zd6.out
      refine ⟨by simp, .inl ⟨_, _, rfl, run_takeDeferred hd', ?_⟩⟩
      have hr2 := heap_keep (B := 0) (blk_put (cs' := #[.bool true]) z6.out 0 _ rfl) (grownBy_putObj' _ D (.deferred none)) (fun r e => by cases e; exact ⟨Nat.zero_le _, _, hd', rfl⟩)
      refine ⟨_, results_cb rfl _ _ (w.heap.size + 1 + 1) (.bool true) rfl (by kernel_rfl) ((blk_cell hr2 0).trans rfl), rfl, (below_set zb6.out (by omega)).trans (belowK_b (w := w4) (by omega) _ D _ _ hD hd' rfl rfl)⟩
    · obtain rfl : nn = m := by omega
      clear hnn
      have hlm2 : (L.length < nn) = False := eq_false (by omega)
      have hw : IntKind.i64.wrap (nn : Int) = (nn : Int) := Go.IntWalk.i64_in _ (by omega)
      have hif : (if (L.length : Int) < (nn : Int) then (L.length : Int) else (nn : Int)) = (nn : Int) := if_neg (by omega)
      go_wp2
      go_region_held3 (fun W' : World => W'.cell? ⟨gn, 0, none⟩ = some (.int .i64 (nn : Int)) ∧ W'.cell? ⟨gw, 0, none⟩ = some (.slice A2 L.length c2) ∧ W'.cell? ⟨w.heap.size + 1, 0, none⟩ = some (.int .u8 nn) ∧ W'.cell? ⟨w.heap.size, 0, none⟩ = some (.string a0_0) ∧ W'.cell? ⟨w.heap.size, 1, none⟩ = some (.int .i64 a0_1) ∧ W'.cell? ⟨w.heap.size, 2, none⟩ = some (.int .u16 a0_2) ∧ W'.cell? ⟨w.heap.size, 3, none⟩ = some (.slice A0_3 l0_3.length c0_3) ∧ W'.cell? ⟨w.heap.size, 4, none⟩ = some (.slice A0_4 l0_4.length c0_4) ∧ W'.cell? ⟨w.heap.size, 5, none⟩ = some (.slice A0_5 l0_5.length c0_5) ∧ W'.cell? ⟨w.heap.size, 6, none⟩ = some (.int .i64 a0_6)) (first | exact ⟨e0, e1, e2, y0, y1, y2, y3, y4, y5, y6⟩ | exact ⟨pw_cell_below hb5 e0, pw_cell_below hb5 e1, pw_cell_below hb5 e2, pw_cell_below hb5 y0, pw_cell_below hb5 y1, pw_cell_below hb5 y2, pw_cell_below hb5 y3, pw_cell_below hb5 y4, pw_cell_below hb5 y5, pw_cell_below hb5 y6⟩ | exact ⟨pw_cell_below hb6 (pw_cell_below hb5 e0), pw_cell_below hb6 (pw_cell_below hb5 e1), pw_cell_below hb6 (pw_cell_below hb5 e2), pw_cell_below hb6 (pw_cell_below hb5 y0), pw_cell_below hb6 (pw_cell_below hb5 y1), pw_cell_below hb6 (pw_cell_below hb5 y2), pw_cell_below hb6 (pw_cell_below hb5 y3), pw_cell_below hb6 (pw_cell_below hb5 y4), pw_cell_below hb6 (pw_cell_below hb5 y5), pw_cell_below hb6 (pw_cell_below hb5 y6)⟩ | exact ⟨(cell_far (by dsimp only; omega) _).trans (pw_cell_below hb6 (pw_cell_below hb5 e0)), (cell_far (by dsimp only; omega) _).trans (pw_cell_below hb6 (pw_cell_below hb5 e1)), (cell_far (by dsimp only; omega) _).trans (pw_cell_below hb6 (pw_cell_below hb5 e2)), (cell_far (by dsimp only; omega) _).trans (pw_cell_below hb6 (pw_cell_below hb5 y0)), (cell_far (by dsimp only; omega) _).trans (pw_cell_below hb6 (pw_cell_below hb5 y1)), (cell_far (by dsimp only; omega) _).trans (pw_cell_below hb6 (pw_cell_below hb5 y2)), (cell_far (by dsimp only; omega) _).trans (pw_cell_below hb6 (pw_cell_below hb5 y3)), (cell_far (by dsimp only; omega) _).trans (pw_cell_below hb6 (pw_cell_below hb5 y4)), (cell_far (by dsimp only; omega) _).trans (pw_cell_below hb6 (pw_cell_below hb5 y5)), (cell_far (by dsimp only; omega) _).trans (pw_cell_below hb6 (pw_cell_below hb5 y6))⟩) (first | (go_at_call 15; refine (class_Count.calls a0_0 a0_1 a0_2 A0_3 c0_3 l0_3 A0_4 c0_4 l0_4 A0_5 c0_5 l0_5 a0_6 (L.length : Int) _ (Kd.C_below HR3.out (below_drew HBW.out)) HC3.out (Kd.C_below HR4.out (below_drew HBW.out)) HC4.out (Kd.C_below HR5.out (below_drew HBW.out)) HC5.out HC.out).mono ?_; rintro e w5 ⟨rfl, hb5⟩; have z5 := Aside0.mk (blk_below (w := W.drew) HGR5.out hb5); have zd := Aside0.mk (blk_below (w := W.drew) HKD.out hb5); have zb := Aside0.mk (below_step (below_drew HBW.out) hb5)) | (go_at_call 9; refine (horariumlaw13_heads.calls true _ rfl).mono ?_; rintro e w6 ⟨rfl, hb6⟩; have z6 := Aside0.mk (blk_below z5.out hb6); have zd6 := Aside0.mk (blk_below zd.out hb6); have zb6 := Aside0.mk (below_step zb.out hb6); have s0 := (blk_cell z6.out 0).trans rfl; have s1 := blk_frozen z6.out 0))
      go_wp2
      have hd' : (w6.setCell ⟨w.heap.size + 1 + 1, 0, none⟩ (.bool true)).heap[D]? = some (.deferred (some [])) := (Below.heap_setCell _ ⟨w.heap.size + 1 + 1, 0, none⟩ _ D (by show D ≠ w.heap.size + 1 + 1; omega)).trans zd6.out
      refine ⟨by simp, .inl ⟨_, _, rfl, run_takeDeferred hd', ?_⟩⟩
      have hr2 := heap_keep (B := 0) (blk_put (cs' := #[.bool true]) z6.out 0 _ rfl) (grownBy_putObj' _ D (.deferred none)) (fun r e => by cases e; exact ⟨Nat.zero_le _, _, hd', rfl⟩)
      refine ⟨_, results_cb rfl _ _ (w.heap.size + 1 + 1) (.bool true) rfl (by kernel_rfl) ((blk_cell hr2 0).trans rfl), rfl, (below_set zb6.out (by omega)).trans (belowK_b (w := w4) (by omega) _ D _ _ hD hd' rfl rfl)⟩
  refine wpIn_rangeFunc_ownH (F := Fence.wide) (α := { x : Int × Int // x ∈ sall l0_4.length (ch.from l0_5.length) (ch.many l0_5.length) }) rfl (by omega) (gf := 38) (lb := #[.pointer (some ⟨B5, 0, none⟩), .pointer (some ⟨B3, 0, none⟩), .pointer (some ⟨B4, 0, none⟩)]) rfl trivial (enters_of Try.func38 (by kernel_rfl) rfl)
    (class_Seats_1.stops Fence.wide 4 trivial rfl (by omega) B5 B3 B4 l0_4.length (ch.from l0_5.length) (ch.many l0_5.length) HL4.out (by unfold ch.from; split <;> omega) (by rw [ch.to]; have := HL5.out; omega) w4 (blk_lt hc5.out) (blk_lt hc3.out) (blk_lt hc4.out) hc5.out hc3.out hc4.out)
    Kept3.trans (Kept3.put (blk_lt hc5.out) (blk_lt hc3.out) (blk_lt hc4.out)) (Below.refl _ _) (fun _ => rfl)
    (fun pre W => Aside0 (pre.map (·.1) <+: sall l0_4.length (ch.from l0_5.length) (ch.many l0_5.length)) ∧ Aside0 (pre.length ≤ m) ∧ Aside0 (W.heap[gn]? = some (.cells #[.int .i64 (pre.length : Int)] 3 (0, 0))) ∧ Aside0 (W.heap[gw]? = some (.cells #[.slice A2 L.length c2] 35 (0, 0))) ∧ Aside0 (Below w2.heap.size w2 W) ∧ Aside0 (gn < W.heap.size))
    (fun c pre W => (c = .exit 0 ∧ Aside0 (pre.length = m + 1) ∧ Aside0 (W.heap[gn]? = some (.cells #[.int .i64 (m : Int)] 3 (0, 0))) ∧ Aside0 (W.heap[gw]? = some (.cells #[.slice A2 L.length c2] 35 (0, 0))) ∧ Aside0 (Below w2.heap.size w2 W) ∧ Aside0 (gn < W.heap.size)) ∨ (¬ pre.map (·.1) <+: sall l0_4.length (ch.from l0_5.length) (ch.many l0_5.length)))
    ?own ?ownx ?start
    (fun x a' W => ∃ Bx, Aside0 (gn < Bx) ∧ Aside0 (W.heap[Bx]? = some (.cells #[.int .i64 x.1.1, .int .i64 x.1.2] 41 (0, 0))) ∧ a' = { tmps := #[.agg #[.string a0_0, .int .i64 a0_1, .int .u16 a0_2, .slice A0_3 l0_3.length c0_3, .slice A0_4 l0_4.length c0_4, .slice A0_5 l0_5.length c0_5, .int .i64 a0_6], .int .u8 m, .pointer (some ⟨w.heap.size, 0, none⟩), .pointer (some ⟨(w.heap.size + 1), 0, none⟩), .pointer (some ⟨(w.heap.size + 1 + 1), 0, none⟩), .pointer (some ⟨gw, 0, none⟩), .func (.func 38) #[] #[.pointer (some ⟨B5, 0, none⟩), .pointer (some ⟨B3, 0, none⟩), .pointer (some ⟨B4, 0, none⟩)], .pointer (some ⟨gn, 0, none⟩), .pointer (some ⟨Bx, 0, none⟩), .agg #[.string a0_0, .int .i64 a0_1, .int .u16 a0_2, .slice A0_3 l0_3.length c0_3, .slice A0_4 l0_4.length c0_4, .slice A0_5 l0_5.length c0_5, .int .i64 a0_6], .bool true, .bool false, undef, .agg #[.string a0_0, .int .i64 a0_1, .int .u16 a0_2, .slice A0_3 l0_3.length c0_3, .slice A0_4 l0_4.length c0_4, .slice A0_5 l0_5.length c0_5, .int .i64 a0_6], .slice A2 L.length c2, .agg #[.string a0_0, .int .i64 a0_1, .int .u16 a0_2, .slice A0_3 l0_3.length c0_3, .slice A0_4 l0_4.length c0_4, .slice A0_5 l0_5.length c0_5, .int .i64 a0_6], .func (.func 38) #[] #[.pointer (some ⟨B5, 0, none⟩), .pointer (some ⟨B3, 0, none⟩), .pointer (some ⟨B4, 0, none⟩)], .func (.func 38) #[] #[.pointer (some ⟨B5, 0, none⟩), .pointer (some ⟨B3, 0, none⟩), .pointer (some ⟨B4, 0, none⟩)], .bool false, .func (.func 38) #[] #[.pointer (some ⟨B5, 0, none⟩), .pointer (some ⟨B3, 0, none⟩), .pointer (some ⟨B4, 0, none⟩)], .agg #[.int .i64 x.1.1, .int .i64 x.1.2], undef, undef, undef, undef, undef, undef, undef, undef, undef, undef, undef, undef, undef, undef, undef, undef, undef, undef, undef, undef, undef, undef, undef, undef, undef, undef, undef, undef, undef, undef, undef, undef, undef, undef, undef], defers := [] })
    ?ownax ?assign ?body ?done ?stop
  case own =>
    rintro pre W W' row ⟨h1, h2, h3, h4, h5, h6⟩ hg hr
    exact ⟨h1, h2, ⟨heap_keep h3.out hg hr⟩, ⟨heap_keep h4.out hg hr⟩, ⟨h5.out.grown hg h5.out.size (fun k e => by have := (hr k e).1; have := HB4.out.size; omega)⟩, ⟨Nat.lt_of_lt_of_le h6.out hg.size⟩⟩
  case ownx =>
    rintro c pre W W' row h hg hr
    rcases h with ⟨h1, h2, h3, h4, h5, h6⟩ | h
    · exact .inl ⟨h1, h2, ⟨heap_keep h3.out hg hr⟩, ⟨heap_keep h4.out hg hr⟩, ⟨h5.out.grown hg h5.out.size (fun k e => by have := (hr k e).1; have := HB4.out.size; omega)⟩, ⟨Nat.lt_of_lt_of_le h6.out hg.size⟩⟩
    · exact .inr h
  case start => exact ⟨⟨List.nil_prefix⟩, ⟨Nat.zero_le _⟩, HGN, HGW4, HB4, ⟨by omega⟩⟩
  case ownax =>
    rintro x a' _ W W' row ⟨Bx, h1, h2, h3⟩ hg hr
    exact ⟨Bx, h1, ⟨heap_keep h2.out hg hr⟩, h3⟩
  case assign =>
    rintro l pre x W K ⟨h1, h2, h3, h4, h5, h6⟩ hK
    have b5 : B5 < W.heap.size := by have := h6.out; omega
    have b3 : B3 < W.heap.size := by have := h6.out; omega
    have b4 : B4 < W.heap.size := by have := h6.out; omega
    gi_wp2
    exact hK _ _ ((KeepsOthers.alloc _ _).from _) (kept3_of_below (below_alloc (Below.refl _ _) _) b5 b3 b4) ⟨h1, h2, ⟨blk_alloc h3.out _⟩, ⟨blk_alloc h4.out _⟩, ⟨below_alloc h5.out _⟩, ⟨by have := h6.out; simp; omega⟩⟩ ⟨W.heap.size, h6, ⟨blk_new W _⟩, rfl⟩
  case body =>
    rintro l pre x a' W hl ⟨rc, hrc⟩ ⟨h1, h2, h3, h4, h5, h6⟩ ⟨Bx, hBx, hX, rfl⟩ hlt
    have b5 : B5 < W.heap.size := by have := h6.out; omega
    have b3 : B3 < W.heap.size := by have := h6.out; omega
    have b4 : B4 < W.heap.size := by have := h6.out; omega
    rw [← sall_length l0_4.length (ch.from l0_5.length) (ch.many l0_5.length), hlen.out] at hlt
    have HGM5 := Aside0.mk (blk_below HGM.out h5.out)
    have e0 := (blk_cell h3.out 0).trans rfl
    have e1 := (blk_cell h4.out 0).trans rfl
    have e2 := (blk_cell hX.out 0).trans rfl
    have e3 := (blk_cell hX.out 1).trans rfl
    have e4 := (blk_cell HGM5.out 0).trans rfl
    have f0 := blk_frozen h3.out 0
    clear hrc hl
    by_cases hq : m ≤ pre.length
    · have hm' := h2.out
      have hd : decide ((pre.length : Int) ≥ (m : Int)) = true := decide_eq_true (by omega)
      gi_wp2
      have e : pre.length = m := by omega
      have h3' := h3.out
      rw [e] at h3'
      exact ⟨keeps_of_below (Below.refl _ _), .inl ⟨rfl, ⟨by simp [e]⟩, ⟨h3'⟩, h4, h5, h6⟩⟩
    · have hd : decide ((pre.length : Int) ≥ (m : Int)) = false := decide_eq_false (by omega)
      have hd2 : decide ((pre.length : Int) ≥ (L.length : Int)) = false := decide_eq_false (by omega)
      obtain ⟨ad, rfl, hx0, hx1⟩ := at_T41 (Kd.C_below HV2.out h5.out) (pre.length : Int) (by omega) (by omega)
      have q0 : (0 : Int) ≤ (pre.length : Int) := by omega
      have q1 : (pre.length : Int) < (L.length : Int) := by omega
      simp only [Int.toNat_natCast] at hx0 hx1
      generalize hs0 : (rd_T41 L (pre.length : Int)).f0 = s0 at hx0
      generalize hs1 : (rd_T41 L (pre.length : Int)).f1 = s1 at hx1
      have HS0 := Aside0.mk hs0
      have HS1 := Aside0.mk hs1
      clear hs0 hs1
      gi_wp2
      refine Code.wpIn_mono (Q := fun e a2 W2 => e = .normal ∧ a2 = { tmps := #[.agg #[.string a0_0, .int .i64 a0_1, .int .u16 a0_2, .slice A0_3 l0_3.length c0_3, .slice A0_4 l0_4.length c0_4, .slice A0_5 l0_5.length c0_5, .int .i64 a0_6], .int .u8 m, .pointer (some ⟨w.heap.size, 0, none⟩), .pointer (some ⟨(w.heap.size + 1), 0, none⟩), .pointer (some ⟨(w.heap.size + 1 + 1), 0, none⟩), .pointer (some ⟨gw, 0, none⟩), .func (.func 38) #[] #[.pointer (some ⟨B5, 0, none⟩), .pointer (some ⟨B3, 0, none⟩), .pointer (some ⟨B4, 0, none⟩)], .pointer (some ⟨gn, 0, none⟩), .pointer (some ⟨Bx, 0, none⟩), .agg #[.string a0_0, .int .i64 a0_1, .int .u16 a0_2, .slice A0_3 l0_3.length c0_3, .slice A0_4 l0_4.length c0_4, .slice A0_5 l0_5.length c0_5, .int .i64 a0_6], .bool true, .bool false, undef, .agg #[.string a0_0, .int .i64 a0_1, .int .u16 a0_2, .slice A0_3 l0_3.length c0_3, .slice A0_4 l0_4.length c0_4, .slice A0_5 l0_5.length c0_5, .int .i64 a0_6], .slice (some ad) L.length c2, .agg #[.string a0_0, .int .i64 a0_1, .int .u16 a0_2, .slice A0_3 l0_3.length c0_3, .slice A0_4 l0_4.length c0_4, .slice A0_5 l0_5.length c0_5, .int .i64 a0_6], .func (.func 38) #[] #[.pointer (some ⟨B5, 0, none⟩), .pointer (some ⟨B3, 0, none⟩), .pointer (some ⟨B4, 0, none⟩)], .func (.func 38) #[] #[.pointer (some ⟨B5, 0, none⟩), .pointer (some ⟨B3, 0, none⟩), .pointer (some ⟨B4, 0, none⟩)], .bool false, .func (.func 38) #[] #[.pointer (some ⟨B5, 0, none⟩), .pointer (some ⟨B3, 0, none⟩), .pointer (some ⟨B4, 0, none⟩)], .agg #[.int .i64 x.1.1, .int .i64 x.1.2], .int .i64 (pre.length : Int), .int .u8 m, .int .i64 m, .bool false, .int .i64 (pre.length : Int), .slice (some ad) L.length c2, .int .i64 (L.length : Int), .bool (decide (L.length ≤ pre.length)), .bool (decide (L.length ≤ pre.length)), .agg #[.int .i64 x.1.1, .int .i64 x.1.2], .slice (some ad) L.length c2, .int .i64 (pre.length : Int), .pointer (some (ad.add (pre.length * 2))), .agg #[.int .i64 s0, .int .i64 s1], .bool (!x.1.1 == s0 || !x.1.2 == s1), .bool (decide (L.length ≤ pre.length) || (!x.1.1 == s0 || !x.1.2 == s1)), undef, undef, undef, undef, undef, undef, undef, undef, undef, undef, undef, undef, undef, undef, undef, undef, undef, undef, undef], defers := [] } ∧ W2 = W.drew) ?_ ?_
      rotate_left
      · clear HR3 HR4 HR5 HC3 HC4 HC5 HF HS HC HL4 HL5 HGC HGR HB2 HGM HV2 HB4 HGN HGW4 HGM5 hlen HS0 HS1 HL hK1 hc5 hc3 hc4
        gi_region
        all_goals exact ⟨rfl, rfl, rfl⟩
      rintro _ _ _ ⟨rfl, rfl, rfl⟩
      have hnot : decide (L.length ≤ pre.length) = false := decide_eq_false (by omega)
      rw [hnot, Bool.false_or]
      generalize hx : (!x.1.1 == s0 || !x.1.2 == s1) = bq
      have HX := Aside0.mk hx
      have hpm : pre.length < m := by omega
      have hpl : pre.length < L.length := by omega
      have hat := Aside0.mk (seat_at HL.out hpl)
      rw [HS0.out, HS1.out] at hat
      clear hx hnot hd2 hx0 hx1 hq q0 q1
      cases bq
      · gi_wp2
        have hp : pre.map (·.1) ++ [x.1] <+: sall l0_4.length (ch.from l0_5.length) (ch.many l0_5.length) := by
          refine prefix_snoc h1.out ?_
          rw [List.length_map, hat.out]
          have hx := HX.out
          simp only [Bool.or_eq_false_iff, Bool.not_eq_false', beq_iff_eq] at hx
          rw [← hx.1, ← hx.2]
        have el : (((pre ++ [x]).length : Nat) : Int) = (pre.length : Int) + 1 := by simp
        have kf : KeepsFrom w4.heap.size W (W.setCell ⟨gn, 0, none⟩ (.int .i64 ((pre.length : Int) + 1))) := (KeepsOthers.setCell _ _ _).from _
        have k3 : Kept3 B5 B3 B4 W (W.setCell ⟨gn, 0, none⟩ (.int .i64 ((pre.length : Int) + 1))) := kept3_set (by omega) (by omega) (by omega)
        refine ⟨⟨kf.1, kf.2⟩, ⟨k3.1, k3.2, k3.3⟩, ⟨by rw [List.map_append]; exact hp⟩, ⟨by rw [List.length_append, List.length_singleton]; omega⟩, ⟨?_⟩, ⟨blk_far h4.out (by show gw ≠ gn; omega) _⟩, ⟨below_drew (below_set h5.out (by show w2.heap.size ≤ gn; omega))⟩, ⟨by have := h6.out; simpa [World.setCell] using this⟩⟩
        rw [el]
        exact blk_put (cs' := #[.int .i64 ((pre.length : Int) + 1)]) h3.out 0 _ rfl
      · have r0 := (blk_cell (blk_below HGR.out h5.out) 0).trans rfl
        have r1 := blk_frozen (blk_below HGR.out h5.out) 0
        gi_wp2
        have kf : KeepsFrom w4.heap.size W (W.setCell ⟨w.heap.size + 1 + 1, 0, none⟩ (.bool false)) := (KeepsOthers.setCell _ _ _).from _
        refine ⟨⟨kf.1, kf.2⟩, .inr ?_⟩
        rw [List.map_append]
        intro hp
        have hq := prefix_last hp
        rw [List.length_map, hat.out] at hq
        have hx := HX.out
        simp only [Option.some.injEq] at hq
        rw [← hq] at hx
        simp at hx
  case done =>
    rintro D xs W hD hS ⟨h1, h2, h3, h4, h5, h6⟩ hKD
    refine tail D W xs.length ?_ hD h3.out h4.out h5.out hKD
    have e := congrArg List.length hS
    rw [List.length_map, hlen.out] at e
    have := h2.out
    omega
  case stop =>
    rintro D c pre W hD hp (⟨rfl, h2, h3, h4, h5, h6⟩ | h) hKD
    · gi_wp2
      refine tail D W m ?_ hD h3.out h4.out h5.out hKD
      have e := hp.length_le
      rw [List.length_map, hlen.out] at e
      have := h2.out
      omega
    · exact absurd hp h
set_option maxHeartbeats 8000000 in
set_option maxRecDepth 100000 in
/-- The walk of any other class: the chapter's heads. -/
theorem horariumlaw13_ClassSeats.many (k : Nat) (a0_0 : ByteArray) (a0_1 : Int) (a0_2 : Int) (A0_3 : Option Addr) (c0_3 : Nat) (l0_3 : List Int) (A0_4 : Option Addr) (c0_4 : Nat) (l0_4 : List (S58)) (A0_5 : Option Addr) (c0_5 : Nat) (l0_5 : List (S60)) (a0_6 : Int) (m : Int) (w : World) (hr0_3 : Kd.C (Kd.int .i64) w A0_3 l0_3.length l0_3) (hc0_3 : l0_3.length ≤ c0_3) (hr0_4 : Kd.C k58 w A0_4 l0_4.length l0_4) (hc0_4 : l0_4.length ≤ c0_4) (hr0_5 : Kd.C k60 w A0_5 l0_5.length l0_5) (hc0_5 : l0_5.length ≤ c0_5)
    (hF : horariumlaw13_few.f k a0_0 a0_1 a0_2 l0_3 l0_4 l0_5 a0_6 = some false) :
    Calls Try.prog 4 #[.agg #[.string a0_0, .int .i64 a0_1, .int .u16 a0_2, .slice A0_3 l0_3.length c0_3, .slice A0_4 l0_4.length c0_4, .slice A0_5 l0_5.length c0_5, .int .i64 a0_6], .int .u8 m] w fun e w' => e = .returned (.bool true) ∧ Below w.heap.size w w' := by
  have hu30 := Try.underlying30
  have HR3 := Aside0.mk hr0_3
  have HR4 := Aside0.mk hr0_4
  have HR5 := Aside0.mk hr0_5
  have HC3 := Aside0.mk hc0_3
  have HC4 := Aside0.mk hc0_4
  have HC5 := Aside0.mk hc0_5
  have HF := Aside0.mk hF
  clear hr0_3 hr0_4 hr0_5 hc0_3 hc0_4 hc0_5 hF
  refine (callsIn_wide (n := 5)).1 ?_
  refine callsIn_of_wp_marks Try.func4 rfl trivial ?_ rfl
  simp only [Try.ntmps4, List.size_toArray, List.length_cons, List.length_nil, Nat.reduceAdd, Nat.reduceSub, Array.replicate_succ, Array.replicate_zero, List.push_toArray, List.append_toArray, List.nil_append, List.cons_append]
  gi_wp2_with fail
  refine ⟨trivial, ?_⟩
  gi_at_call 12
  refine (callsIn_wide.2 (horariumlaw13_few.calls k a0_0 a0_1 a0_2 A0_3 c0_3 l0_3 A0_4 c0_4 l0_4 A0_5 c0_5 l0_5 a0_6 false _ (Kd.C_alloc (Kd.C_alloc (Kd.C_alloc HR3.out _) _) _) HC3.out (Kd.C_alloc (Kd.C_alloc (Kd.C_alloc HR4.out _) _) _) HC4.out (Kd.C_alloc (Kd.C_alloc (Kd.C_alloc HR5.out _) _) _) HC5.out HF.out)).mono ?_
  rintro e w1 ⟨rfl, hb1⟩
  have HB1 := Aside0.mk (below_step (below_alloc (below_alloc (below_alloc (Below.refl w.heap.size w) _) _) _) hb1)
  have HGR := Aside0.mk (blk_below (Go.Proofs.YtcpknfcococneaaH.blk_new' _ (.cells #[.bool false] 4 (0, 0)) (w.heap.size + 1 + 1) (by simp)) hb1)
  clear hb1
  gi_wp2_with (refine ⟨trivial, ?_⟩; gi_at_call 9; refine (callsIn_wide.2 (horariumlaw13_heads.calls true _ rfl)).mono ?_; rintro e w2 ⟨rfl, hb2⟩; have k1 := Aside0.mk (blk_below HGR.out hb2); have k2 := Aside0.mk (below_step HB1.out hb2); have s0 := (blk_cell k1.out 0).trans rfl; have s1 := blk_frozen k1.out 0)
  exact ⟨_, results_cb rfl _ _ (w.heap.size + 1 + 1) (.bool true) rfl (by kernel_rfl) ((blk_cell (blk_put (cs' := #[.bool true]) k1.out 0 _ rfl) 0).trans rfl), rfl, below_set k2.out (by omega)⟩
end Go.Proofs.Ytcpknfcococneaa.Q
