/-
Words and contracts for the claim: what the walk of its row uses.
-/
import Derived.Test.YtlfnpakpkniipaaZJQMBusy
import Derived.Test.YtlfnpakpkniipaaZJQx6
import Derived.Test.YtlfnpakpkniipaaZJQx9
import Derived.Test.YtlfnpakpkniipaaZJQx10
set_option linter.unusedVariables false
set_option linter.unusedSimpArgs false
namespace Go.Proofs.Ytlfnpakpkniipaa.Q
open Go.RowKit Go.IntWalk Go.Proofs.YtlfnpakpkniipaaW.PrintWords Go.Proofs.YtlfnpakpkniipaaW.PrintLast Go.Proofs.YtlfnpakpkniipaaW.PrintMore Go.Proofs.YtlfnpakpkniipaaH
theorem foldB_ok (gap : Int) : ∀ (xs : List S49) (n : Nat) (s : List S25 × Int × Int), (∀ x ∈ xs, WTame x) → BOk n s → BOk (n + xs.length) (xs.foldl (bstep gap) s)
  | [], n, s, ht, hb => by simpa using hb
  | x :: xs, n, s, ht, hb => by
    rw [List.foldl_cons, List.length_cons, show n + (xs.length + 1) = (n + 1) + xs.length by omega]
    exact foldB_ok gap xs (n + 1) _ (fun y hy => ht y (by simp [hy])) (hb.step (ht x (by simp)) gap)
theorem blocksS_ok {g0 g1 g2 day gap : Int} {l : List S49} : (blocksS g0 g1 g2 l day gap).length ≤ l.length ∧ ∀ b ∈ blocksS g0 g1 g2 l day gap, 0 ≤ b.f1 ∧ b.f1 ≤ l.length ∧ 0 ≤ b.f0 ∧ b.f0 ≤ 96 := by
  unfold blocksS
  split
  · have h := foldB_ok (mx 0 gap) (srt (l.filter (onD g0 g1 g2 day.toNat))) 0 ([], 0, 0) flt_tame BOk.start
    have hl : (l.filter (onD g0 g1 g2 day.toNat)).length ≤ l.length := List.length_filter_le _ _
    rw [srt_length] at h
    unfold blk
    refine ⟨by rw [List.length_reverse]; have := h.2.1; omega, ?_⟩
    intro b hb
    rw [List.mem_reverse] at hb
    have := h.2.2.1 b hb
    omega
  · exact ⟨by simp, by simp⟩
theorem few_flt {l : List S49} (h : (l.length : Int) ≤ 12) (f : S49 → Bool) : (l.filter f).length ≤ 20 := by
  have := List.length_filter_le f l
  omega
def dayN (g0 g1 g2 : Int) : Nat := if GridOk g0 g1 g2 then (g0 * g1).toNat else 0
theorem busyS_eq {g0 g1 g2 : Int} {l : List S49} : busyS g0 g1 g2 l = (List.range (dayN g0 g1 g2)).map (fun d => (busyN g0 g1 g2 l d : Int)) := by
  unfold busyS dayN
  split <;> rfl
theorem busyS_len {g0 g1 g2 : Int} {l : List S49} : (busyS g0 g1 g2 l).length = dayN g0 g1 g2 := by rw [busyS_eq]; simp
theorem busyS_rd {g0 g1 g2 : Int} {l : List S49} {d : Nat} (hd : d < dayN g0 g1 g2) : rd (busyS g0 g1 g2 l) (d : Int) = (busyN g0 g1 g2 l d : Int) := by
  unfold rd
  rw [busyS_eq, Int.toNat_natCast, List.getD_eq_getElem?_getD, List.getElem?_map, List.getElem?_range hd]
  rfl
theorem dayN_pos {g0 g1 g2 : Int} {d : Nat} (hd : d < dayN g0 g1 g2) : GridOk g0 g1 g2 := by
  unfold dayN at hd
  split at hd
  · assumption
  · omega
theorem dayN_day {g0 g1 g2 : Int} {d : Nat} (hd : d < dayN g0 g1 g2) : (d : Int) < g0 * g1 := by
  have hg := dayN_pos hd
  unfold dayN at hd
  rw [if_pos hg] at hd
  omega
end Go.Proofs.Ytlfnpakpkniipaa.Q
