-- Written by this session's own program (wip/tools/myprint.py over the guide's print): functions of the given program as Lean functions, and that the machine's calls tell the same.
import Derived.Test.YtcpknfcococneaaQx0
import Derived.Test.YtcpknfcococneaaQx11
import Derived.Test.YtcpknfcococneaaQx12
import Derived.RangeFuncNested
import Derived.RangeFuncBound
import Derived.RangeFuncCalls
import Derived.RangeFuncLeaves
import Derived.Shelf.Abstract
import Derived.WalkKit
import Derived.OwnWalkIn
import Derived.TacticsInMore
import Derived.LoopNIn
import Derived.LoopIn
namespace Go.Proofs.Ytcpknfcococneaa.Q
open Go.RowKit Go.Proofs.YtcpknfcococneaaW.PrintWords Go.Proofs.YtcpknfcococneaaW.PrintLast Go.Proofs.YtcpknfcococneaaW.PrintMore
attribute [local go_sem] max2_int min2_int max_two min_two max_three min_three max_four min_four   -- for this text's walks alone
set_option linter.unusedVariables false
set_option linter.unusedSimpArgs false

/-! ### class_Cheapest: function 24 -/
/-- One seat more: what is the cheapest so far. -/
def ch.step (cost : Int → Int → Option (Int × Int)) (st : Int × Int × Int × Bool) (x : Int × Int) : Option (Int × Int × Int × Bool) :=
  (cost x.1 x.2).bind fun c => if st.2.2.2 = true then (if wrap64 (c.1 + c.2) < st.2.2.1 then some (x.1, x.2, wrap64 (c.1 + c.2), true) else some st) else some (x.1, x.2, wrap64 (c.1 + c.2), true)
def ch.run (cost : Int → Int → Option (Int × Int)) : List (Int × Int) → Int × Int × Int × Bool → Option (Int × Int × Int × Bool)
  | [], st => some st
  | x :: xs, st => (ch.step cost st x).bind (ch.run cost xs)
theorem ch.run_append (cost : Int → Int → Option (Int × Int)) : ∀ xs ys st, ch.run cost (xs ++ ys) st = (ch.run cost xs st).bind (ch.run cost ys)
  | [], ys, st => rfl
  | x :: xs, ys, st => by
    simp only [List.cons_append, ch.run, Option.bind_assoc]
    congr 1
    funext s
    exact ch.run_append cost xs ys s
theorem ch.run_cost (cost : Int → Int → Option (Int × Int)) : ∀ xs st r, ch.run cost xs st = some r → ∀ x ∈ xs, ∃ c, cost x.1 x.2 = some c
  | [], _, _, _, x, hx => by simp at hx
  | y :: ys, st, r, h, x, hx => by
    simp only [ch.run] at h
    obtain ⟨s, hs, h⟩ := Option.bind_eq_some_iff.mp h
    rcases List.mem_cons.1 hx with rfl | hx
    · obtain ⟨c, hc, _⟩ := Option.bind_eq_some_iff.mp hs
      exact ⟨c, hc⟩
    · exact ch.run_cost cost ys s r h x hx
/-- How many places a seat's row has, and from which on. -/
def ch.from (n : Nat) : Int := if n = 0 then -1 else 0
def ch.many (n : Nat) : Nat := if n = 0 then 1 else n
theorem ch.to (n : Nat) : ch.from n + (ch.many n : Int) = n := by unfold ch.from ch.many; split <;> omega
def class_Cheapest.f (a0_0 : ByteArray) (a0_1 : Int) (a0_2 : Int) (l0_3 : List Int) (l0_4 : List (S58)) (l0_5 : List (S60)) (a0_6 : Int) : Option (Int × Int × Int) :=
  (ch.run (fun t p => class_Cost.f a0_0 a0_1 a0_2 l0_3 l0_4 l0_5 a0_6 t p) (sall l0_4.length (ch.from l0_5.length) (ch.many l0_5.length)) (0, 0, 0, false)).map fun st => (st.1, st.2.1, st.2.2.1)
theorem heap_keep {W W' : World} {row : Option Nat} {B g : Nat} {cs : Array Value} {t : TypeId} {fr : Nat × Nat} (h : W.heap[g]? = some (.cells cs t fr)) (hg : W.grownBy W' row) (hr : ∀ r, row = some r → B ≤ r ∧ ∃ o : Obj, W.heap[r]? = some o ∧ o.isCells = false) : W'.heap[g]? = some (.cells cs t fr) :=
  blk_grown h hg (fun e => by
    obtain ⟨_, o, ho, hc⟩ := hr g e.symm
    rw [h] at ho
    cases ho
    cases hc)
theorem keeps_of_below {B : Nat} {W W' : World} (h : Below W.heap.size W W') : KeepsFrom B W W' := ⟨h.size, fun k o _ hk _ => (h.block k (Array.getElem?_eq_some_iff.1 hk).1).trans hk⟩
theorem kept3_of_below {B5 B3 B4 : Nat} {W W' : World} (h : Below W.heap.size W W') (b5 : B5 < W.heap.size) (b3 : B3 < W.heap.size) (b4 : B4 < W.heap.size) : Kept3 B5 B3 B4 W W' := ⟨h.block _ b5, h.block _ b3, h.block _ b4⟩
theorem kept3_set {B5 B3 B4 : Nat} {W : World} {g j : Nat} {v : Value} (n5 : B5 ≠ g) (n3 : B3 ≠ g) (n4 : B4 ≠ g) : Kept3 B5 B3 B4 W (W.setCell ⟨g, j, none⟩ v) :=
  ⟨Below.heap_setCell W ⟨g, j, none⟩ v B5 n5, Below.heap_setCell W ⟨g, j, none⟩ v B3 n3, Below.heap_setCell W ⟨g, j, none⟩ v B4 n4⟩
attribute [local go_sem] Oper.semAt_some
set_option maxHeartbeats 8000000 in
set_option maxRecDepth 100000 in
theorem class_Cheapest.calls (a0_0 : ByteArray) (a0_1 : Int) (a0_2 : Int) (A0_3 : Option Addr) (c0_3 : Nat) (l0_3 : List Int) (A0_4 : Option Addr) (c0_4 : Nat) (l0_4 : List (S58)) (A0_5 : Option Addr) (c0_5 : Nat) (l0_5 : List (S60)) (a0_6 : Int) (r1 : Int) (r2 : Int) (r3 : Int) (w : World) (hr0_3 : Kd.C (Kd.int .i64) w A0_3 l0_3.length l0_3) (hc0_3 : l0_3.length ≤ c0_3) (hr0_4 : Kd.C k58 w A0_4 l0_4.length l0_4) (hc0_4 : l0_4.length ≤ c0_4) (hr0_5 : Kd.C k60 w A0_5 l0_5.length l0_5) (hc0_5 : l0_5.length ≤ c0_5) (h : class_Cheapest.f a0_0 a0_1 a0_2 l0_3 l0_4 l0_5 a0_6 = some (r1, r2, r3)) :
    Calls Try.prog 24 #[.agg #[.string a0_0, .int .i64 a0_1, .int .u16 a0_2, .slice A0_3 l0_3.length c0_3, .slice A0_4 l0_4.length c0_4, .slice A0_5 l0_5.length c0_5, .int .i64 a0_6]] w fun e w' => e = .returned (.tuple #[.agg #[.int .i64 r1, .int .i64 r2], .int .i64 r3]) ∧ Below w.heap.size w w' := by
  have hu30 := Try.underlying30
  have hu41 := Try.underlying41
  obtain ⟨st, hst, he⟩ := Option.map_eq_some_iff.mp h
  clear h
  obtain ⟨rfl, rfl, rfl⟩ : st.1 = r1 ∧ st.2.1 = r2 ∧ st.2.2.1 = r3 := by simpa using he
  clear he
  have HST := Aside0.mk hst
  clear hst
  have HR3 := Aside0.mk hr0_3
  have HR4 := Aside0.mk hr0_4
  have HR5 := Aside0.mk hr0_5
  have HC3 := Aside0.mk hc0_3
  have HC4 := Aside0.mk hc0_4
  have HC5 := Aside0.mk hc0_5
  have HL4 := Aside0.mk (show l0_4.length ≤ 9223372036854775807 from hr0_4.2.1)
  have HL5 := Aside0.mk (show l0_5.length ≤ 9223372036854775807 from hr0_5.2.1)
  clear hr0_3 hr0_4 hr0_5 hc0_3 hc0_4 hc0_5
  refine (callsIn_wide (n := 5)).1 ?_
  refine callsIn_of_wp_marks Try.func24 rfl trivial ?_ rfl
  simp only [Try.ntmps24, List.size_toArray, List.length_cons, List.length_nil, Nat.reduceAdd, Nat.reduceSub, Array.replicate_succ, Array.replicate_zero, List.push_toArray, List.append_toArray, List.nil_append, List.cons_append]
  gi_wp2_with (refine ⟨trivial, ?_⟩; gi_at_call 14; refine (callsIn_wide.2 (class_Seats.calls a0_0 a0_1 a0_2 _ A0_4 c0_4 l0_4.length A0_5 c0_5 l0_5.length a0_6 _)).mono ?_; rintro e w1 ⟨B3, B4, B5, rfl, hB5, hB3, hB4, ⟨hle5, hle3, hle4⟩, hb1⟩)
  have HB1 := Aside0.mk (below_step (below_alloc (below_alloc (below_alloc (below_alloc (below_alloc (Below.refl w.heap.size w) _) _) _) _) _) hb1)
  have HGC := Aside0.mk (blk_below (blk_alloc (blk_alloc (blk_alloc (blk_alloc (blk_new w (.cells #[.string a0_0, .int .i64 a0_1, .int .u16 a0_2, .slice A0_3 l0_3.length c0_3, .slice A0_4 l0_4.length c0_4, .slice A0_5 l0_5.length c0_5, .int .i64 a0_6] 30 (0, 0))) _) _) _) _) hb1)
  have HGR := Aside0.mk (blk_below (blk_alloc (blk_alloc (blk_alloc (Go.Proofs.YtcpknfcococneaaH.blk_new' _ (.cells #[.int .i64 0, .int .i64 0] 41 (0, 0)) (w.heap.size + 1) (by simp)) _) _) _) hb1)
  have HGB := Aside0.mk (blk_below (blk_alloc (blk_alloc (Go.Proofs.YtcpknfcococneaaH.blk_new' _ (.cells #[.int .i64 0, .int .i64 0] 41 (0, 0)) (w.heap.size + 1 + 1) (by simp)) _) _) hb1)
  have HGL := Aside0.mk (blk_below (blk_alloc (Go.Proofs.YtcpknfcococneaaH.blk_new' _ (.cells #[.int .i64 0] 3 (0, 0)) (w.heap.size + 1 + 1 + 1) (by simp)) _) hb1)
  have HGS := Aside0.mk (blk_below (Go.Proofs.YtcpknfcococneaaH.blk_new' _ (.cells #[.bool false] 4 (0, 0)) (w.heap.size + 1 + 1 + 1 + 1) (by simp)) hb1)
  simp only [World.size_alloc] at hle5 hle3 hle4
  clear hb1
  obtain ⟨gr, hgr⟩ : ∃ gr, gr = w.heap.size + 1 := ⟨_, rfl⟩
  obtain ⟨gb, hgb⟩ : ∃ gb, gb = w.heap.size + 1 + 1 := ⟨_, rfl⟩
  obtain ⟨gl, hgl⟩ : ∃ gl, gl = w.heap.size + 1 + 1 + 1 := ⟨_, rfl⟩
  obtain ⟨gs, hgs⟩ : ∃ gs, gs = w.heap.size + 1 + 1 + 1 + 1 := ⟨_, rfl⟩
  rw [← hgs] at HGS ⊢
  rw [← hgl] at HGL ⊢
  rw [← hgb] at HGB ⊢
  rw [← hgr] at HGR ⊢
  have g1 : w.heap.size < gr := by omega
  have g2 : gr < gb := by omega
  have g3 : gb < gl := by omega
  have g4 : gl < gs := by omega
  have hle5' : gs < B5 := by omega
  have hle3' : gs < B3 := by omega
  have hle4' : gs < B4 := by omega
  have hsz : gs < w1.heap.size := by have := blk_lt HGS.out; omega
  clear hgr hgb hgl hgs hle5 hle3 hle4
  have hb4 : Aside0 (w1.heap[B4]? = some (.cells #[.int .i64 (ch.from l0_5.length + (ch.many l0_5.length : Int))] 3 (0, 0))) := ⟨by rw [ch.to]; exact hB4⟩
  have hb3 : Aside0 (w1.heap[B3]? = some (.cells #[.int .i64 (ch.from l0_5.length)] 3 (0, 0))) := ⟨hB3⟩
  have hb5 := Aside0.mk hB5
  clear hB4 hB3 hB5
  refine wpIn_rangeFunc_ownH (F := Fence.wide) (α := { x : Int × Int // x ∈ sall l0_4.length (ch.from l0_5.length) (ch.many l0_5.length) }) rfl (by omega) (gf := 38) (lb := #[.pointer (some ⟨B5, 0, none⟩), .pointer (some ⟨B3, 0, none⟩), .pointer (some ⟨B4, 0, none⟩)]) rfl trivial (enters_of Try.func38 (by kernel_rfl) rfl)
    (class_Seats_1.stops Fence.wide 4 trivial rfl (by omega) B5 B3 B4 l0_4.length (ch.from l0_5.length) (ch.many l0_5.length) HL4.out (by unfold ch.from; split <;> omega) (by rw [ch.to]; have := HL5.out; omega) w1 (blk_lt hb5.out) (blk_lt hb3.out) (blk_lt hb4.out) hb5.out hb3.out hb4.out)
    Kept3.trans (Kept3.put (blk_lt hb5.out) (blk_lt hb3.out) (blk_lt hb4.out)) (Below.refl _ _) (fun _ => rfl)
    (fun pre W => (∃ s : Int × Int × Int × Bool, Aside0 (ch.run (fun t p => class_Cost.f a0_0 a0_1 a0_2 l0_3 l0_4 l0_5 a0_6 t p) (pre.map (·.1)) (0, 0, 0, false) = some s) ∧ Aside0 (W.heap[gb]? = some (.cells #[.int .i64 s.1, .int .i64 s.2.1] 41 (0, 0))) ∧ Aside0 (W.heap[gl]? = some (.cells #[.int .i64 s.2.2.1] 3 (0, 0))) ∧ Aside0 (W.heap[gs]? = some (.cells #[.bool s.2.2.2] 4 (0, 0)))) ∧ Aside0 (W.heap[w.heap.size]? = some (.cells #[.string a0_0, .int .i64 a0_1, .int .u16 a0_2, .slice A0_3 l0_3.length c0_3, .slice A0_4 l0_4.length c0_4, .slice A0_5 l0_5.length c0_5, .int .i64 a0_6] 30 (0, 0))) ∧ Aside0 (W.heap[gr]? = some (.cells #[.int .i64 0, .int .i64 0] 41 (0, 0))) ∧ Aside0 (Below w.heap.size w W) ∧ Aside0 (w1.heap.size ≤ W.heap.size))
    (fun _ _ _ => False)
    ?own ?ownx ?start
    (fun x a' W => ∃ Bx, Aside0 (w1.heap.size ≤ Bx) ∧ Aside0 (W.heap[Bx]? = some (.cells #[.int .i64 x.1.1, .int .i64 x.1.2] 41 (0, 0))) ∧ a' = { tmps := #[.agg #[.string a0_0, .int .i64 a0_1, .int .u16 a0_2, .slice A0_3 l0_3.length c0_3, .slice A0_4 l0_4.length c0_4, .slice A0_5 l0_5.length c0_5, .int .i64 a0_6], .pointer (some ⟨w.heap.size, 0, none⟩), .pointer (some ⟨gr, 0, none⟩), .int .i64 0, .pointer (some ⟨gb, 0, none⟩), .pointer (some ⟨gl, 0, none⟩), .pointer (some ⟨gs, 0, none⟩), .pointer (some ⟨Bx, 0, none⟩), undef, undef, .agg #[.string a0_0, .int .i64 a0_1, .int .u16 a0_2, .slice A0_3 l0_3.length c0_3, .slice A0_4 l0_4.length c0_4, .slice A0_5 l0_5.length c0_5, .int .i64 a0_6], .func (.func 38) #[] #[.pointer (some ⟨B5, 0, none⟩), .pointer (some ⟨B3, 0, none⟩), .pointer (some ⟨B4, 0, none⟩)], .agg #[.int .i64 x.1.1, .int .i64 x.1.2], undef, undef, undef, undef, undef, undef, undef, undef, undef, undef, undef, undef, undef, undef, undef, undef, undef, undef, undef, undef, undef], defers := [] })
    ?ownax ?assign ?body ?done ?stop
  case own =>
    rintro pre W W' row ⟨⟨s, h1, h2, h3, h4⟩, h5, h6, h7, h8⟩ hg hr
    exact ⟨⟨s, h1, ⟨heap_keep h2.out hg hr⟩, ⟨heap_keep h3.out hg hr⟩, ⟨heap_keep h4.out hg hr⟩⟩, ⟨heap_keep h5.out hg hr⟩, ⟨heap_keep h6.out hg hr⟩, ⟨h7.out.grown hg h7.out.size (fun k e => by have := (hr k e).1; omega)⟩, ⟨Nat.le_trans h8.out hg.size⟩⟩
  case ownx => exact fun _ _ _ _ _ hs _ _ => hs
  case start => exact ⟨⟨(0, 0, 0, false), ⟨rfl⟩, HGB, HGL, HGS⟩, HGC, HGR, HB1, ⟨Nat.le_refl _⟩⟩
  case ownax =>
    rintro x a' _ W W' row ⟨Bx, h1, h2, h3⟩ hg hr
    exact ⟨Bx, h1, ⟨heap_keep h2.out hg hr⟩, h3⟩
  case assign =>
    rintro l pre x W K ⟨⟨s, h1, h2, h3, h4⟩, h5, h6, h7, h8⟩ hK
    have b5 : B5 < W.heap.size := Nat.lt_of_lt_of_le (blk_lt hb5.out) h8.out
    have b3 : B3 < W.heap.size := Nat.lt_of_lt_of_le (blk_lt hb3.out) h8.out
    have b4 : B4 < W.heap.size := Nat.lt_of_lt_of_le (blk_lt hb4.out) h8.out
    gi_wp2
    exact hK _ _ ((KeepsOthers.alloc _ _).from _) (kept3_of_below (below_alloc (Below.refl _ _) _) b5 b3 b4) ⟨⟨s, h1, ⟨blk_alloc h2.out _⟩, ⟨blk_alloc h3.out _⟩, ⟨blk_alloc h4.out _⟩⟩, ⟨blk_alloc h5.out _⟩, ⟨blk_alloc h6.out _⟩, ⟨below_alloc h7.out _⟩, ⟨by have := h8.out; simp; omega⟩⟩ ⟨W.heap.size, h8, ⟨blk_new W _⟩, rfl⟩
  case body =>
    rintro l pre x a' W hl ⟨rc, hrc⟩ ⟨⟨s, h1, h2, h3, h4⟩, h5, h6, h7, h8⟩ ⟨Bx, hBx, hX, rfl⟩ hlt
    have b5 := Aside0.mk (Nat.lt_of_lt_of_le (blk_lt hb5.out) h8.out)
    have b3 := Aside0.mk (Nat.lt_of_lt_of_le (blk_lt hb3.out) h8.out)
    have b4 := Aside0.mk (Nat.lt_of_lt_of_le (blk_lt hb4.out) h8.out)
    obtain ⟨c, hc⟩ := ch.run_cost _ _ _ _ HST.out x.1 x.2
    have HC := Aside0.mk hc
    have hrun : ch.run (fun t p => class_Cost.f a0_0 a0_1 a0_2 l0_3 l0_4 l0_5 a0_6 t p) ((pre ++ [x]).map (·.1)) (0, 0, 0, false) = (if s.2.2.2 = true then (if wrap64 (c.1 + c.2) < s.2.2.1 then some (x.1.1, x.1.2, wrap64 (c.1 + c.2), true) else some s) else some (x.1.1, x.1.2, wrap64 (c.1 + c.2), true)) := by
      rw [List.map_append, ch.run_append, h1.out]
      simp only [Option.bind_some, List.map_cons, List.map_nil, ch.run, ch.step, hc]
      split <;> (try split) <;> rfl
    have HRUN := Aside0.mk hrun
    clear hc hrun hl hrc hlt
    obtain ⟨c1, c2⟩ := c
    obtain ⟨s0, s1, s2, s3⟩ := s
    obtain ⟨⟨x0, x1⟩, hxm⟩ := x
    dsimp only at *
    have y0 := (blk_cell h5.out 0).trans rfl
    have y1 := (blk_cell h5.out 1).trans rfl
    have y2 := (blk_cell h5.out 2).trans rfl
    have y3 := (blk_cell h5.out 3).trans rfl
    have y4 := (blk_cell h5.out 4).trans rfl
    have y5 := (blk_cell h5.out 5).trans rfl
    have y6 := (blk_cell h5.out 6).trans rfl
    have z0 := (blk_cell hX.out 0).trans rfl
    have z1 := (blk_cell hX.out 1).trans rfl
    have hxs : gs < Bx := by have := hBx.out; omega
    have HBX := Aside0.mk (blk_lt hX.out)
    by_cases hs3 : s3 = true
    · subst hs3
      by_cases hlt2 : wrap64 (c1 + c2) < s2
      · have hd := decide_eq_true hlt2
        have HR := Aside0.mk (show ch.run _ _ _ = some (x0, x1, wrap64 (c1 + c2), true) by rw [HRUN.out, if_pos rfl, if_pos hlt2])
        clear HRUN
        gi_wp2_with (refine ⟨trivial, ?_⟩; gi_at_call 18; refine (CallsIn.inRound l (callsIn_wide.2 (class_Cost.calls a0_0 a0_1 a0_2 A0_3 c0_3 l0_3 A0_4 c0_4 l0_4 A0_5 c0_5 l0_5 a0_6 x0 x1 c1 c2 _ (Kd.C_below HR3.out h7.out) HC3.out (Kd.C_below HR4.out h7.out) HC4.out (Kd.C_below HR5.out h7.out) HC5.out HC.out))).mono ?_; rintro e w2 ⟨rfl, hb2⟩; have k2 := Aside0.mk (blk_below h2.out hb2); have k3 := Aside0.mk (blk_below h3.out hb2); have k4 := Aside0.mk (blk_below h4.out hb2); have k5 := Aside0.mk (blk_below h5.out hb2); have k6 := Aside0.mk (blk_below h6.out hb2); have k7 := Aside0.mk (below_step h7.out hb2); have k8 := Aside0.mk (Nat.le_trans h8.out hb2.size); have kX := Aside0.mk (blk_below hX.out hb2); have u0 := (blk_cell k2.out 0).trans rfl; have u1 := (blk_cell k2.out 1).trans rfl; have u2 := (blk_cell k3.out 0).trans rfl; have u3 := (blk_cell k4.out 0).trans rfl; have u4 := (blk_cell kX.out 0).trans rfl; have u5 := (blk_cell kX.out 1).trans rfl; have f0 := blk_frozen k2.out 0; have f1 := blk_frozen k2.out 1; have f2 := blk_frozen k3.out 0; have f3 := blk_frozen k4.out 0)
        have n1 : gb ≠ gl := by omega
        have n2 : gb ≠ gs := by omega
        have n3 : gl ≠ gs := by omega
        have m1 : w.heap.size ≠ gb := by omega
        have m2 : w.heap.size ≠ gl := by omega
        have m3 : w.heap.size ≠ gs := by omega
        have m4 : gr ≠ gb := by omega
        have m5 : gr ≠ gl := by omega
        have m6 : gr ≠ gs := by omega
        exact ⟨((((keeps_of_below hb2).trans ((KeepsOthers.setCell _ _ _).from _)).trans ((KeepsOthers.setCell _ _ _).from _)).trans ((KeepsOthers.setCell _ _ _).from _)).trans ((KeepsOthers.setCell _ _ _).from _),
          ((((kept3_of_below hb2 b5.out b3.out b4.out).trans (kept3_set (by omega) (by omega) (by omega))).trans (kept3_set (by omega) (by omega) (by omega))).trans (kept3_set (by omega) (by omega) (by omega))).trans (kept3_set (by omega) (by omega) (by omega)),
          ⟨(x0, x1, wrap64 (c1 + c2), true), HR, ⟨blk_far (blk_far (blk_put (cs' := #[.int .i64 x0, .int .i64 x1]) (blk_put (cs' := #[.int .i64 x0, .int .i64 s1]) k2.out 0 _ rfl) 1 _ rfl) n1 _) n2 _⟩, ⟨blk_far (blk_put (cs' := #[.int .i64 (wrap64 (c1 + c2))]) (blk_far (blk_far k3.out n1.symm _) n1.symm _) 0 _ rfl) n3 _⟩, ⟨blk_put (cs' := #[.bool true]) (blk_far (blk_far (blk_far k4.out n2.symm _) n2.symm _) n3.symm _) 0 _ rfl⟩⟩,
          ⟨blk_far (blk_far (blk_far (blk_far k5.out m1 _) m1 _) m2 _) m3 _⟩, ⟨blk_far (blk_far (blk_far (blk_far k6.out m4 _) m4 _) m5 _) m6 _⟩, ⟨below_set (below_set (below_set (below_set k7.out (by omega)) (by omega)) (by omega)) (by omega)⟩, ⟨by have := k8.out; simpa [World.setCell] using this⟩⟩
      · have hd := decide_eq_false hlt2
        have HR := Aside0.mk (show ch.run _ _ _ = some (s0, s1, s2, true) by rw [HRUN.out, if_pos rfl, if_neg hlt2])
        clear HRUN
        gi_wp2_with (refine ⟨trivial, ?_⟩; gi_at_call 18; refine (CallsIn.inRound l (callsIn_wide.2 (class_Cost.calls a0_0 a0_1 a0_2 A0_3 c0_3 l0_3 A0_4 c0_4 l0_4 A0_5 c0_5 l0_5 a0_6 x0 x1 c1 c2 _ (Kd.C_below HR3.out h7.out) HC3.out (Kd.C_below HR4.out h7.out) HC4.out (Kd.C_below HR5.out h7.out) HC5.out HC.out))).mono ?_; rintro e w2 ⟨rfl, hb2⟩; have k2 := Aside0.mk (blk_below h2.out hb2); have k3 := Aside0.mk (blk_below h3.out hb2); have k4 := Aside0.mk (blk_below h4.out hb2); have k5 := Aside0.mk (blk_below h5.out hb2); have k6 := Aside0.mk (blk_below h6.out hb2); have k7 := Aside0.mk (below_step h7.out hb2); have k8 := Aside0.mk (Nat.le_trans h8.out hb2.size); have kX := Aside0.mk (blk_below hX.out hb2); have u0 := (blk_cell k2.out 0).trans rfl; have u1 := (blk_cell k2.out 1).trans rfl; have u2 := (blk_cell k3.out 0).trans rfl; have u3 := (blk_cell k4.out 0).trans rfl; have u4 := (blk_cell kX.out 0).trans rfl; have u5 := (blk_cell kX.out 1).trans rfl; have f0 := blk_frozen k2.out 0; have f1 := blk_frozen k2.out 1; have f2 := blk_frozen k3.out 0; have f3 := blk_frozen k4.out 0)
        exact ⟨keeps_of_below hb2, kept3_of_below hb2 b5.out b3.out b4.out, ⟨(s0, s1, s2, true), HR, k2, k3, k4⟩, k5, k6, k7, k8⟩
    · replace hs3 := Bool.eq_false_iff.mpr hs3
      subst hs3
      have HR := Aside0.mk (show ch.run _ _ _ = some (x0, x1, wrap64 (c1 + c2), true) by rw [HRUN.out, if_neg (by simp)])
      clear HRUN
      gi_wp2_with (refine ⟨trivial, ?_⟩; gi_at_call 18; refine (CallsIn.inRound l (callsIn_wide.2 (class_Cost.calls a0_0 a0_1 a0_2 A0_3 c0_3 l0_3 A0_4 c0_4 l0_4 A0_5 c0_5 l0_5 a0_6 x0 x1 c1 c2 _ (Kd.C_below HR3.out h7.out) HC3.out (Kd.C_below HR4.out h7.out) HC4.out (Kd.C_below HR5.out h7.out) HC5.out HC.out))).mono ?_; rintro e w2 ⟨rfl, hb2⟩; have k2 := Aside0.mk (blk_below h2.out hb2); have k3 := Aside0.mk (blk_below h3.out hb2); have k4 := Aside0.mk (blk_below h4.out hb2); have k5 := Aside0.mk (blk_below h5.out hb2); have k6 := Aside0.mk (blk_below h6.out hb2); have k7 := Aside0.mk (below_step h7.out hb2); have k8 := Aside0.mk (Nat.le_trans h8.out hb2.size); have kX := Aside0.mk (blk_below hX.out hb2); have u0 := (blk_cell k2.out 0).trans rfl; have u1 := (blk_cell k2.out 1).trans rfl; have u2 := (blk_cell k3.out 0).trans rfl; have u3 := (blk_cell k4.out 0).trans rfl; have u4 := (blk_cell kX.out 0).trans rfl; have u5 := (blk_cell kX.out 1).trans rfl; have f0 := blk_frozen k2.out 0; have f1 := blk_frozen k2.out 1; have f2 := blk_frozen k3.out 0; have f3 := blk_frozen k4.out 0)
      have n1 : gb ≠ gl := by omega
      have n2 : gb ≠ gs := by omega
      have n3 : gl ≠ gs := by omega
      have m1 : w.heap.size ≠ gb := by omega
      have m2 : w.heap.size ≠ gl := by omega
      have m3 : w.heap.size ≠ gs := by omega
      have m4 : gr ≠ gb := by omega
      have m5 : gr ≠ gl := by omega
      have m6 : gr ≠ gs := by omega
      exact ⟨((((keeps_of_below hb2).trans ((KeepsOthers.setCell _ _ _).from _)).trans ((KeepsOthers.setCell _ _ _).from _)).trans ((KeepsOthers.setCell _ _ _).from _)).trans ((KeepsOthers.setCell _ _ _).from _),
        ((((kept3_of_below hb2 b5.out b3.out b4.out).trans (kept3_set (by omega) (by omega) (by omega))).trans (kept3_set (by omega) (by omega) (by omega))).trans (kept3_set (by omega) (by omega) (by omega))).trans (kept3_set (by omega) (by omega) (by omega)),
        ⟨(x0, x1, wrap64 (c1 + c2), true), HR, ⟨blk_far (blk_far (blk_put (cs' := #[.int .i64 x0, .int .i64 x1]) (blk_put (cs' := #[.int .i64 x0, .int .i64 s1]) k2.out 0 _ rfl) 1 _ rfl) n1 _) n2 _⟩, ⟨blk_far (blk_put (cs' := #[.int .i64 (wrap64 (c1 + c2))]) (blk_far (blk_far k3.out n1.symm _) n1.symm _) 0 _ rfl) n3 _⟩, ⟨blk_put (cs' := #[.bool true]) (blk_far (blk_far (blk_far k4.out n2.symm _) n2.symm _) n3.symm _) 0 _ rfl⟩⟩,
        ⟨blk_far (blk_far (blk_far (blk_far k5.out m1 _) m1 _) m2 _) m3 _⟩, ⟨blk_far (blk_far (blk_far (blk_far k6.out m4 _) m4 _) m5 _) m6 _⟩, ⟨below_set (below_set (below_set (below_set k7.out (by omega)) (by omega)) (by omega)) (by omega)⟩, ⟨by have := k8.out; simpa [World.setCell] using this⟩⟩
  case done =>
    rintro D ys W hD hys ⟨⟨s, h1, h2, h3, h4⟩, h5, h6, h7, h8⟩ hK
    have es : s = st := by
      have h := h1.out
      rw [hys, HST.out] at h
      exact (Option.some.inj h).symm
    subst es
    obtain ⟨s0, s1, s2, s3⟩ := s
    dsimp only at *
    have HKD := Aside0.mk hK
    have u0 := (blk_cell h2.out 0).trans rfl
    have u1 := (blk_cell h2.out 1).trans rfl
    have u2 := (blk_cell h3.out 0).trans rfl
    have u4 := (blk_cell h6.out 0).trans rfl
    have u5 := (blk_cell h6.out 1).trans rfl
    have f0 := blk_frozen h6.out 0
    have f1 := blk_frozen h6.out 1
    clear hK hys h1
    gi_wp2
    gi_region
    gi_wp2
    have HK2 : ((W.setCell ⟨gr, 0, none⟩ (.int .i64 s0)).setCell ⟨gr, 1, none⟩ (.int .i64 s1)).drew.heap[D]? = some (.deferred (some [])) :=
      (((KeepsOthers.setCell _ _ _).trans (KeepsOthers.setCell _ _ _)).same D _ HKD.out rfl)
    have HG2 : ((W.setCell ⟨gr, 0, none⟩ (.int .i64 s0)).setCell ⟨gr, 1, none⟩ (.int .i64 s1)).drew.heap[gr]? = some (.cells #[.int .i64 s0, .int .i64 s1] 41 (0, 0)) :=
      blk_put (cs := #[.int .i64 s0, .int .i64 0]) (blk_put (cs := #[.int .i64 0, .int .i64 0]) h6.out 0 _ rfl) 1 _ rfl
    have hbw : Below w.heap.size w ((W.setCell ⟨gr, 0, none⟩ (.int .i64 s0)).setCell ⟨gr, 1, none⟩ (.int .i64 s1)).drew := below_drew (below_set (below_set h7.out (by omega)) (by omega))
    refine ⟨by simp, .inl ⟨_, _, rfl, run_takeDeferred HK2, ?_⟩⟩
    have hg3 := heap_keep (B := 0) HG2 (grownBy_putObj' _ D (.deferred none)) (fun r e => by cases e; exact ⟨Nat.zero_le _, _, HK2, rfl⟩)
    refine ⟨_, results_ct rfl _ _ gr 41 #[.int .i64 s0, .int .i64 s1] (0, 0) _ rfl hg3 hu41 rfl (by kernel_rfl), rfl, hbw.trans (belowK_b (w := w1) (by omega) _ D _ _ hD HK2 rfl rfl)⟩
  case stop =>
    rintro D c pre W _ _ h _
    exact h.elim

end Go.Proofs.Ytcpknfcococneaa.Q
