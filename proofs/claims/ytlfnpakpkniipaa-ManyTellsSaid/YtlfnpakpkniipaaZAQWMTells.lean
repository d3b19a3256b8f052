/-
Words and contracts for the claim: what the walk of its row uses.
-/
import Derived.Test.YtlfnpakpkniipaaZAQMTells
import Derived.Test.YtlfnpakpkniipaaZAQx0
import Derived.Test.YtlfnpakpkniipaaZAQx14
set_option linter.unusedVariables false
set_option linter.unusedSimpArgs false
namespace Go.Proofs.Ytlfnpakpkniipaa.Q
open Go.RowKit Go.IntWalk Go.Proofs.YtlfnpakpkniipaaW.PrintWords Go.Proofs.YtlfnpakpkniipaaW.PrintLast Go.Proofs.YtlfnpakpkniipaaW.PrintMore Go.Proofs.YtlfnpakpkniipaaH
theorem ManyTells_ev (a0 : S23) (a1 : Int) (a2 : S25) (a3 : List S49) (y3 : a3.length * 24 ≤ 140737488351232 ∧ ∀ z ∈ a3, ok49 z) : Ev (fun k => horariumlaw16_ManyTells.f k a0.f0 a0.f1 a0.f2 a1 a2.f0 a2.f1 a3) true := by
  unfold horariumlaw16_ManyTells.f
  simp only [few_eq, Option.bind_some, known_eq, right_same]
  split
  · obtain ⟨b, hb⟩ := known_some a1
    simp only [hb, Option.bind_some, beq_self_eq_true, if_true]
    obtain ⟨r, hr⟩ := right_some a1 a2.f0 a2.f1
    refine Ev.bind hr (Ev.bind hr ?_)
    simp only [beq_self_eq_true, if_true]
    refine Ev.bind (Days_ev y3) (Ev.bind (refDays_ev y3) ?_)
    simp only [if_true]
    exact Ev.bind heads_ev (Ev.now _)
  · exact Ev.bind heads_ev (Ev.now _)
theorem horariumlaw16_ManyTells.walk (w : World) (a0 : S23) (cs0 : Array Value) (w0 : k23.K w a0 cs0.toList) (y0 : ok23 a0) (a1 : Int) (w1 : (Lit.int .i64 a1).wf = true) (a2 : S25) (cs2 : Array Value) (w2 : k25.K w a2 cs2.toList) (y2 : ok25 a2) (a3 : (List S49)) (A3 : Option Addr) (len3 cap3 : Nat) (w3 : (Kd.slice 49 k49).K w a3 [.slice A3 len3 cap3]) (y3 : (a3.length * 24 ≤ 140737488351232 ∧ ∀ z ∈ a3, ok49 z)) :
    Calls Try.prog 3 #[.agg cs0, .int .i64 a1, .agg cs2, .slice A3 len3 cap3] w fun e w' => e = .returned (.bool true) ∧ Below w.heap.size w w' := by
  obtain rfl := arr_of (k23_open w0)
  obtain rfl := arr_of (k25_open w2)
  obtain ⟨_, _, e3, l3, g3⟩ := w3
  cases e3
  obtain ⟨k, hk⟩ := (ManyTells_ev a0 a1 a2 a3 y3).rounds
  refine (horariumlaw16_ManyTells.calls k _ _ _ _ _ _ _ _ _ true w g3 l3 hk).mono ?_
  rintro e w' h
  exact h
end Go.Proofs.Ytlfnpakpkniipaa.Q
