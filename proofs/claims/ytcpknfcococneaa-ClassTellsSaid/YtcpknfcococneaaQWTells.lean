/-
ClassTells returns true at every input: the walk, out of the printed contract and the plain law.
-/
import Derived.Test.YtcpknfcococneaaQPTells
import Derived.Test.YtcpknfcococneaaQx14
import Derived.Test.YtcpknfcococneaaQx19
set_option linter.unusedVariables false
set_option linter.unusedSimpArgs false
namespace Go.Proofs.Ytcpknfcococneaa.Q
open Go.RowKit Go.IntWalk Go.Proofs.YtcpknfcococneaaW.PrintWords Go.Proofs.YtcpknfcococneaaW.PrintLast Go.Proofs.YtcpknfcococneaaW.PrintMore Go.Proofs.YtcpknfcococneaaH

theorem arr_of {a : Array Value} {l : List Value} (h : a.toList = l) : a = l.toArray := by cases a; simp_all
theorem ClassTells_ev (a0 : S23) (a1 : S24) (a2 : S30) (y2 : ok30 a2) : Ev (fun k => horariumlaw13_ClassTells.f k a0.f0 a0.f1 a0.f2 a1.f0 a1.f1 a1.f2 a2.f0 a2.f1 a2.f2 a2.f3 a2.f4 a2.f5 a2.f6) true := by
  unfold horariumlaw13_ClassTells.f
  have j : ∀ b, Ev (fun k => horariumlaw13_ClassTells.j0 k b a0.f0 a0.f1 a0.f2 a1.f0 a1.f1 a1.f2 a2.f0 a2.f1 a2.f2 a2.f3 a2.f4 a2.f5 a2.f6) true := by
    intro b
    refine Ev.step (fun k => by rw [horariumlaw13_ClassTells.j0]) ?_
    cases b
    · refine Ev.congr (fun _ => by rw [if_neg (by simp)]) ?_
      refine Ev.bind (Right_ev y2) ?_
      refine Ev.bind (refRight_ev y2) ?_
      refine Ev.congr (fun _ => by rw [if_pos (by simp)]) ?_
      exact Ev.now _
    · refine Ev.congr (fun _ => by rw [if_pos rfl]) ?_
      exact Ev.now _
  split
  · exact j _
  split
  · exact j _
  exact j _
theorem horariumlaw13_ClassTells.walk (w : World) (a0 : S23) (cs0 : Array Value) (w0 : k23.K w a0 cs0.toList) (y0 : ok23 a0) (a1 : S24) (cs1 : Array Value) (w1 : k24.K w a1 cs1.toList) (y1 : ok24 a1) (a2 : S30) (cs2 : Array Value) (w2 : k30.K w a2 cs2.toList) (y2 : ok30 a2) :
    Calls Try.prog 3 #[.agg cs0, .agg cs1, .agg cs2] w fun e w' => e = .returned (.bool true) ∧ Below w.heap.size w w' := by
  obtain rfl := arr_of (k23_open w0)
  obtain rfl := arr_of (k24_open w1)
  obtain ⟨A3, c3, A4, c4, A5, c5, h2, l3, g3, l4, g4, l5, g5⟩ := k30_open w2
  obtain rfl := arr_of h2
  obtain ⟨k, hk⟩ := (ClassTells_ev a0 a1 a2 y2).rounds
  refine (horariumlaw13_ClassTells.calls k _ _ _ _ _ _ _ _ _ A3 c3 _ A4 c4 _ A5 c5 _ _ true w g3 l3 g4 l4 g5 l5 hk).mono ?_
  rintro e w' h
  exact h
end Go.Proofs.Ytcpknfcococneaa.Q
