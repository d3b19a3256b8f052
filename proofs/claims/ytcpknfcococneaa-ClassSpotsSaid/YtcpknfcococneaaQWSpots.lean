/-
ClassSpots returns true at every input: where and when a seat is, told by the program and by the document: the same; and the walk, out of the printed contract.
-/
import Derived.Test.YtcpknfcococneaaQPSeat
import Derived.Test.YtcpknfcococneaaQx23
set_option linter.unusedVariables false
set_option linter.unusedSimpArgs false
namespace Go.Proofs.Ytcpknfcococneaa.Q
open Go.RowKit Go.IntWalk Go.Proofs.YtcpknfcococneaaW.PrintWords Go.Proofs.YtcpknfcococneaaW.PrintLast Go.Proofs.YtcpknfcococneaaW.PrintMore Go.Proofs.YtcpknfcococneaaH

variable {x : S30}
/-- The room of a seat. -/
def roomOf (x : S30) (p : Int) : Int := if -1 < p then (rd_T60 x.f5 p).f0 else if x.f5.length = 0 then -1 else -2
/-- The time and the room of a seat. -/
def spotS (x : S30) (t p : Int) : Int × Int × Int × Int × Int × Bool :=
  if SeatOk x t p then (if -1 < t then ((rd_T58 x.f4 t).f0.f0, (rd_T58 x.f4 t).f0.f1, (rd_T58 x.f4 t).f0.f2, (rd_T58 x.f4 t).f0.f3, roomOf x p, true) else (0, 0, 0, 0, roomOf x p, true)) else (0, 0, 0, 0, 0, false)
theorem Spot_j0 {t p : Int} (h : SeatOk x t p) (a b c d : Int) : Ev (fun k => class_Spot.j0 k x.f0 x.f1 x.f2 x.f3 x.f4 x.f5 x.f6 t p a b c d (-2)) (a, b, c, d, roomOf x p, true) := by
  refine Ev.step (f := fun _ => some (a, b, c, d, roomOf x p, true)) (fun k => ?_) (Ev.now _)
  unfold SeatOk at h
  unfold roomOf
  rw [class_Spot.j0]
  by_cases h1 : p > -1
  · rw [if_pos h1, if_pos (by omega), if_pos (by omega), if_pos (by omega)]
  · rw [if_neg h1, if_neg (by omega : ¬ -1 < p)]
    by_cases h2 : x.f5.length = 0
    · rw [if_pos (by omega), if_pos h2]
    · rw [if_neg (by omega), if_neg h2]
theorem Spot_ev (t p : Int) : Ev (fun k => class_Spot.f k x.f0 x.f1 x.f2 x.f3 x.f4 x.f5 x.f6 t p) (spotS x t p) := by
  unfold class_Spot.f spotS
  simp only [Seat_eq, Option.bind_some, decide_eq_true_eq]
  by_cases h : SeatOk x t p
  rotate_left
  · simp only [if_neg h]; exact Ev.now _
  simp only [if_pos h]
  have h' := h
  unfold SeatOk at h'
  by_cases h1 : t > -1
  · simp only [if_pos h1, if_pos (by omega : 0 ≤ t), if_pos (by omega : t < (x.f4.length : Int)), if_pos (by omega : -1 < t)]
    exact Spot_j0 h _ _ _ _
  · simp only [if_neg h1, if_neg (by omega : ¬ -1 < t)]
    exact Spot_j0 h _ _ _ _
theorem refSpot_j0 {t p : Int} (h : SeatOk x t p) (a b c d : Int) : Ev (fun k => horariumref13_Spot.j0 k x.f0 x.f1 x.f2 x.f3 x.f4 x.f5 x.f6 t p a b c d (-1)) (a, b, c, d, roomOf x p, true) := by
  refine Ev.step (f := fun _ => some (a, b, c, d, roomOf x p, true)) (fun k => ?_) (Ev.now _)
  unfold SeatOk at h
  unfold roomOf
  rw [horariumref13_Spot.j0]
  by_cases h1 : p ≥ 0
  · rw [if_pos h1, if_pos (by omega), if_pos (by omega), if_pos (by omega)]
  · rw [if_neg h1, if_neg (by omega : ¬ -1 < p)]
    by_cases h2 : x.f5.length = 0
    · rw [if_neg (by omega), if_pos h2]
    · rw [if_pos (by omega), if_neg h2]
theorem refSpot_ev (t p : Int) : Ev (fun k => horariumref13_Spot.f k x.f0 x.f1 x.f2 x.f3 x.f4 x.f5 x.f6 t p) (spotS x t p) := by
  unfold horariumref13_Spot.f spotS
  simp only [refSeat_eq, Option.bind_some, decide_eq_true_eq]
  by_cases h : SeatOk x t p
  rotate_left
  · simp only [if_neg h]; exact Ev.now _
  simp only [if_pos h]
  have h' := h
  unfold SeatOk at h'
  by_cases h1 : t ≥ 0
  · simp only [if_pos h1, if_pos (by omega : t < (x.f4.length : Int)), if_pos (by omega : -1 < t)]
    exact refSpot_j0 h _ _ _ _
  · simp only [if_neg h1, if_neg (by omega : ¬ -1 < t)]
    exact refSpot_j0 h _ _ _ _
theorem ClassSpots_ev (a : S30) (s : S41) : Ev (fun k => horariumlaw13_ClassSpots.f k a.f0 a.f1 a.f2 a.f3 a.f4 a.f5 a.f6 s.f0 s.f1) true := by
  unfold horariumlaw13_ClassSpots.f
  refine Ev.bind (few_ev a) ?_
  cases h : fewOk a
  · exact Ev.congr (fun _ => by rw [if_neg (by simp)]; rfl) (Ev.now _)
  refine Ev.congr (fun _ => by rw [if_pos rfl]) ?_
  refine Ev.bind (Spot_ev s.f0 s.f1) ?_
  refine Ev.bind (refSpot_ev s.f0 s.f1) ?_
  simp only [Cost_eq, Option.bind_some]
  refine Ev.bind (refCost_ev s.f0 s.f1) ?_
  refine Ev.congr (f := fun _ => some true) (fun _ => ?_) (Ev.now _)
  simp only [Seat_eq, refSeat_eq, Whole_eq, refWhole_eq, Option.bind_some]
  simp [horariumlaw13_heads.f]
theorem horariumlaw13_ClassSpots.walk (w : World) (a0 : S30) (cs0 : Array Value) (w0 : k30.K w a0 cs0.toList) (y0 : ok30 a0) (a1 : S41) (cs1 : Array Value) (w1 : k41.K w a1 cs1.toList) (y1 : ok41 a1) :
    Calls Try.prog 5 #[.agg cs0, .agg cs1] w fun e w' => e = .returned (.bool true) ∧ Below w.heap.size w w' := by
  obtain ⟨A3, c3, A4, c4, A5, c5, h0, l3, g3, l4, g4, l5, g5⟩ := k30_open w0
  obtain rfl := arr_of h0
  obtain rfl := arr_of (k41_open w1)
  obtain ⟨k, hk⟩ := (ClassSpots_ev a0 a1).rounds
  refine (horariumlaw13_ClassSpots.calls k _ _ _ A3 c3 _ A4 c4 _ A5 c5 _ _ _ _ true (Aside0.mk rfl) w g3 l3 g4 l4 g5 l5 hk).mono ?_
  rintro e w' h
  exact h
end Go.Proofs.Ytcpknfcococneaa.Q
