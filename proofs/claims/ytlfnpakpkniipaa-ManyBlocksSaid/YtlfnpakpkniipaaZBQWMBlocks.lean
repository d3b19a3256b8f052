/-
Words and contracts for the claim: what the walk of its row uses.
-/
import Derived.Test.YtlfnpakpkniipaaZBQMRef
import Derived.Test.YtlfnpakpkniipaaZBQx0
import Derived.Test.YtlfnpakpkniipaaZBQx18
set_option linter.unusedVariables false
set_option linter.unusedSimpArgs false
namespace Go.Proofs.Ytlfnpakpkniipaa.Q
open Go.RowKit Go.IntWalk Go.Proofs.YtlfnpakpkniipaaW.PrintWords Go.Proofs.YtlfnpakpkniipaaW.PrintLast Go.Proofs.YtlfnpakpkniipaaW.PrintMore Go.Proofs.YtlfnpakpkniipaaH
theorem few_flt {l : List S49} (h : (l.length : Int) ≤ 12) (f : S49 → Bool) : (l.filter f).length ≤ 20 := by
  have := List.length_filter_le f l
  omega
theorem foldB_ok (gap : Int) : ∀ (xs : List S49) (n : Nat) (s : List S25 × Int × Int), (∀ x ∈ xs, WTame x) → BOk n s → BOk (n + xs.length) (xs.foldl (bstep gap) s)
  | [], n, s, ht, hb => by simpa using hb
  | x :: xs, n, s, ht, hb => by
    rw [List.foldl_cons, List.length_cons, show n + (xs.length + 1) = (n + 1) + xs.length by omega]
    exact foldB_ok gap xs (n + 1) _ (fun y hy => ht y (by simp [hy])) (hb.step (ht x (by simp)) gap)
theorem blocksS_ok {g0 g1 g2 day gap : Int} {l : List S49} : (blocksS g0 g1 g2 l day gap).length ≤ l.length ∧ ∀ b ∈ blocksS g0 g1 g2 l day gap, 0 ≤ b.f1 ∧ b.f1 ≤ l.length ∧ 0 ≤ b.f0 ∧ b.f0 ≤ 96 := by
  unfold blocksS
  split
  · have h := foldB_ok (mx 0 gap) (srt (l.filter (onD g0 g1 g2 day.toNat))) 0 ([], 0, 0) flt_tame BOk.start
    have hl : (l.filter (onD g0 g1 g2 day.toNat)).length ≤ l.length := List.length_filter_le _ _
    rw [srt_length] at h
    unfold blk
    refine ⟨by rw [List.length_reverse]; have := h.2.1; omega, ?_⟩
    intro b hb
    rw [List.mem_reverse] at hb
    have := h.2.2.1 b hb
    omega
  · exact ⟨by simp, by simp⟩
theorem ManyBlocks_ev (a0 : S23) (a1 : List S49) (a2 : S25) (y1 : a1.length * 24 ≤ 140737488351232 ∧ ∀ z ∈ a1, ok49 z) : Ev (fun k => horariumlaw16_ManyBlocks.f k a0.f0 a0.f1 a0.f2 a1 a2.f0 a2.f1) true := by
  unfold horariumlaw16_ManyBlocks.f
  simp only [few_eq, Option.bind_some, decide_eq_true_eq]
  split
  · rename_i hf
    refine Ev.bind (Blocks_ev y1 (fun d _ => few_flt hf _)) (Ev.bind (refBlocks_ev y1) (Ev.bind (Same_ev ?_) ?_))
    · have := (blocksS_ok (g0 := a0.f0) (g1 := a0.f1) (g2 := a0.f2) (day := a2.f0) (gap := a2.f1) (l := a1)).1
      omega
    · simp only [if_true]
      exact Ev.bind heads_ev (Ev.now _)
  · exact Ev.bind heads_ev (Ev.now _)
theorem horariumlaw16_ManyBlocks.walk (w : World) (a0 : S23) (cs0 : Array Value) (w0 : k23.K w a0 cs0.toList) (y0 : ok23 a0) (a1 : (List S49)) (A1 : Option Addr) (len1 cap1 : Nat) (w1 : (Kd.slice 49 k49).K w a1 [.slice A1 len1 cap1]) (y1 : (a1.length * 24 ≤ 140737488351232 ∧ ∀ z ∈ a1, ok49 z)) (a2 : S25) (cs2 : Array Value) (w2 : k25.K w a2 cs2.toList) (y2 : ok25 a2) :
    Calls Try.prog 4 #[.agg cs0, .slice A1 len1 cap1, .agg cs2] w fun e w' => e = .returned (.bool true) ∧ Below w.heap.size w w' := by
  obtain rfl := arr_of (k23_open w0)
  obtain rfl := arr_of (k25_open w2)
  obtain ⟨_, _, e1, l1, g1⟩ := w1
  cases e1
  obtain ⟨k, hk⟩ := (ManyBlocks_ev a0 a1 a2 y1).rounds
  refine (horariumlaw16_ManyBlocks.calls k _ _ _ _ _ _ _ _ true w g1 l1 hk).mono ?_
  rintro e w' h
  exact h
end Go.Proofs.Ytlfnpakpkniipaa.Q
