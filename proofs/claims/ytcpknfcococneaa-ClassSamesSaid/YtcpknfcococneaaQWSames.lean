/-
ClassSames returns true at every input: the walk, out of the printed contract and the plain law.
-/
import Derived.Test.YtcpknfcococneaaQPSames
import Derived.Test.YtcpknfcococneaaQPFew
import Derived.Test.YtcpknfcococneaaQx28
set_option linter.unusedVariables false
set_option linter.unusedSimpArgs false
namespace Go.Proofs.Ytcpknfcococneaa.Q
open Go.RowKit Go.IntWalk Go.Proofs.YtcpknfcococneaaW.PrintWords Go.Proofs.YtcpknfcococneaaW.PrintLast Go.Proofs.YtcpknfcococneaaW.PrintMore Go.Proofs.YtcpknfcococneaaH

theorem ClassSames_ev (a b : S30) (ha : ok30 a) : Ev (fun k => horariumlaw13_ClassSames.f k a.f0 a.f1 a.f2 a.f3 a.f4 a.f5 a.f6 b.f0 b.f1 b.f2 b.f3 b.f4 b.f5 b.f6) true := by
  unfold horariumlaw13_ClassSames.f
  have j : ∀ c, Ev (fun k => horariumlaw13_ClassSames.j0 k c a.f0 a.f1 a.f2 a.f3 a.f4 a.f5 a.f6 b.f0 b.f1 b.f2 b.f3 b.f4 b.f5 b.f6) true := by
    intro c
    refine Ev.step (fun k => by rw [horariumlaw13_ClassSames.j0]) ?_
    cases c
    · refine Ev.congr (fun _ => by rw [if_neg (by simp)]) ?_
      refine Ev.bind (Same_ev ha) ?_
      refine Ev.bind (refSame_ev ha) ?_
      refine Ev.congr (fun _ => by rw [if_pos (by simp)]) ?_
      refine Ev.bind (Same_ev ha) ?_
      rw [sameOk_self]
      exact Ev.now _
    · refine Ev.congr (fun _ => by rw [if_pos rfl]) ?_
      exact Ev.now _
  refine Ev.bind (few_ev a) ?_
  cases fewOk a
  · exact Ev.congr (fun _ => by rw [if_neg (by simp)]) (j true)
  refine Ev.congr (fun _ => by rw [if_pos rfl]) ?_
  exact Ev.bind (few_ev b) (j _)
theorem horariumlaw13_ClassSames.walk (w : World) (a0 : S30) (cs0 : Array Value) (w0 : k30.K w a0 cs0.toList) (y0 : ok30 a0) (a1 : S30) (cs1 : Array Value) (w1 : k30.K w a1 cs1.toList) (y1 : ok30 a1) :
    Calls Try.prog 8 #[.agg cs0, .agg cs1] w fun e w' => e = .returned (.bool true) ∧ Below w.heap.size w w' := by
  obtain ⟨A3, c3, A4, c4, A5, c5, h0, l3, g3, l4, g4, l5, g5⟩ := k30_open w0
  obtain rfl := arr_of h0
  obtain ⟨B3, d3, B4, d4, B5, d5, h1, m3, q3, m4, q4, m5, q5⟩ := k30_open w1
  obtain rfl := arr_of h1
  obtain ⟨k, hk⟩ := (ClassSames_ev a0 a1 y0).rounds
  refine (horariumlaw13_ClassSames.calls k _ _ _ A3 c3 _ A4 c4 _ A5 c5 _ _ _ _ _ B3 d3 _ B4 d4 _ B5 d5 _ _ true w g3 l3 g4 l4 g5 l5 q3 m3 q4 m4 q5 m5 hk).mono ?_
  rintro e w' h
  exact h
end Go.Proofs.Ytcpknfcococneaa.Q
