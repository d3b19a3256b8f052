/-
ClassCheapest returns true at every input: the walk, out of the printed contract and the plain law.
-/
import Derived.Test.YtcpknfcococneaaQPSeat
import Derived.Test.YtcpknfcococneaaQx24
set_option linter.unusedVariables false
set_option linter.unusedSimpArgs false
namespace Go.Proofs.Ytcpknfcococneaa.Q
open Go.RowKit Go.IntWalk Go.Proofs.YtcpknfcococneaaW.PrintWords Go.Proofs.YtcpknfcococneaaW.PrintLast Go.Proofs.YtcpknfcococneaaW.PrintMore Go.Proofs.YtcpknfcococneaaH

theorem ClassCheapest_ev (a : S30) : Ev (fun k => horariumlaw13_ClassCheapest.f k a.f0 a.f1 a.f2 a.f3 a.f4 a.f5 a.f6) true := by
  unfold horariumlaw13_ClassCheapest.f
  refine Ev.bind (few_ev a) ?_
  cases h : fewOk a
  · exact Ev.congr (fun _ => by rw [if_neg (by simp)]; rfl) (Ev.now _)
  obtain ⟨h1, h2, h3, h4, h5⟩ := few_at h
  refine Ev.congr (fun _ => by rw [if_pos rfl]) ?_
  rw [Cheapest_eq h4 h5]
  refine Ev.congr (fun _ => by rw [Option.bind_some]) ?_
  refine Ev.bind (refCheapest_ev h1 h2 h4 h5) ?_
  refine Ev.congr (fun _ => by rw [if_pos (by simp), if_pos rfl]) ?_
  exact Ev.now _
theorem horariumlaw13_ClassCheapest.walk (w : World) (a0 : S30) (cs0 : Array Value) (w0 : k30.K w a0 cs0.toList) (y0 : ok30 a0) :
    Calls Try.prog 6 #[.agg cs0] w fun e w' => e = .returned (.bool true) ∧ Below w.heap.size w w' := by
  obtain ⟨A3, c3, A4, c4, A5, c5, h0, l3, g3, l4, g4, l5, g5⟩ := k30_open w0
  obtain rfl := arr_of h0
  obtain ⟨k, hk⟩ := (ClassCheapest_ev a0).rounds
  refine (horariumlaw13_ClassCheapest.calls k _ _ _ A3 c3 _ A4 c4 _ A5 c5 _ _ true w g3 l3 g4 l4 g5 l5 hk).mono ?_
  rintro e w' h
  exact h
end Go.Proofs.Ytcpknfcococneaa.Q
