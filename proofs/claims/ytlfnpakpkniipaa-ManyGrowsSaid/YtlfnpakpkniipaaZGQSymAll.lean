/- Words for the claim. -/
import Derived.Test.YtlfnpakpkniipaaZGQSymWalk
set_option linter.unusedVariables false
set_option linter.unusedSimpArgs false
namespace Go.Proofs.Ytlfnpakpkniipaa.Q
open Go.RowKit Go.Proofs.YtlfnpakpkniipaaW.PrintWords Go.Proofs.YtlfnpakpkniipaaW.PrintLast Go.Proofs.YtlfnpakpkniipaaW.PrintMore
theorem sym_all : ∀ N, SymIH N
  | 0 => fun base g cap ok P U V S w n hU hV aU aV h => by omega
  | N + 1 => fun base g cap ok P U V S w n hU hV aU aV h hn hn6 hR => by
    match U, hU with
    | [x], _ =>
      have := symOne_calls (base := base) (g := g) (cap := cap) (ok := ok) P x V S hV aV w n (by rw [hn]; simp) hn6 (by simpa using hR)
      exact this
    | x :: x2 :: U, _ =>
      match V, hV with
      | [y], _ =>
        have := symLast_calls (base := base) (g := g) (cap := cap) (ok := ok) P (x :: x2 :: U) y S (by simp) aU w n (by rw [hn]; simp) hn6 (by simpa using hR)
        exact this
      | y :: y2 :: V, _ =>
        have ih : SymIH ((x :: x2 :: U).length + (y :: y2 :: V).length) := fun b g c o P' U' V' S' w' n' h1 h2 h3 h4 h5 => sym_all N b g c o P' U' V' S' w' n' h1 h2 h3 h4 (by omega)
        exact symGen_calls (base := base) (g := g) (cap := cap) (ok := ok) P _ _ S (by simp) (by simp) aU aV ih w n hn hn6 hR
end Go.Proofs.Ytlfnpakpkniipaa.Q
