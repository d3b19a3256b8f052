/- Words for the claim. -/
import Derived.Test.YtlfnpakpkniipaaZGQSymLast
set_option linter.unusedVariables false
set_option linter.unusedSimpArgs false
namespace Go.Proofs.Ytlfnpakpkniipaa.Q
open Go.RowKit Go.Proofs.YtlfnpakpkniipaaW.PrintWords Go.Proofs.YtlfnpakpkniipaaW.PrintLast Go.Proofs.YtlfnpakpkniipaaW.PrintMore
attribute [local go_sem] max2_int min2_int max_two min_two max_three min_three max_four min_four
def SymIH (N : Nat) : Prop := ∀ (base g cap : Nat) (ok : Nat → Prop) (P U V S : List S49) (w : World) (n : Nat), U ≠ [] → V ≠ [] → Asc U → Asc V → U.length + V.length < N → n = (P ++ U ++ V ++ S).length → n ≤ 1000000 → Kd.R k49 49 w base ok (.slice (some ⟨g, 0, none⟩) n cap) (P ++ U ++ V ++ S) →
    Calls Try.prog 60 #[.slice (some ⟨g, 0, none⟩) n cap, .int .i64 (P.length : Nat), .int .i64 ((P.length + U.length : Nat) : Int), .int .i64 ((P.length + U.length + V.length : Nat) : Int), .func (.func 47) #[] #[]] w fun ex w' => ex = .returned (.tuple #[]) ∧ Kd.R k49 49 w' base ok (.slice (some ⟨g, 0, none⟩) n cap) (P ++ smerge U V ++ S) ∧ w.grownBy w' (some g)
structure Bounds (a m b mid nn s0 r0 : Nat) : Prop where
  h1 : a ≤ s0 ∧ s0 ≤ r0 ∧ r0 ≤ m ∧ r0 ≤ mid ∧ nn ≤ s0 + b
  h2 : mid + m = nn
  e1 : r0 = mid ∨ r0 = m
  e2 : s0 + b = nn ∨ s0 = a
theorem bounds_hi {a m b mid : Nat} (h : (a + b) / 2 = mid) (ham : a < m) (hmb : m < b) (hm : mid < m) : Bounds a m b mid (mid + m) (mid + m - b) mid ∧ b ≤ mid + m := ⟨⟨by omega, rfl, .inl rfl, .inl (by omega)⟩, by omega⟩
theorem bounds_lo {a m b mid : Nat} (h : (a + b) / 2 = mid) (ham : a < m) (hmb : m < b) (hm : m ≤ mid) : Bounds a m b mid (mid + m) a m := ⟨by omega, rfl, .inr rfl, .inr rfl⟩
structure Srch (xs : List S49) (nn s0 r0 s r : Nat) : Prop where
  le : s0 ≤ s ∧ s ≤ r ∧ r ≤ r0
  lo : ∀ c, s0 ≤ c → c < s → wlt (wat xs (nn - 1 - c)) (wat xs c) = false
  hi : ∀ c, r ≤ c → c < r0 → wlt (wat xs (nn - 1 - c)) (wat xs c) = true
structure Runs (xs : List S49) (a m b : Nat) : Prop where
  u : ∀ c c', a ≤ c' → c' ≤ c → c < m → wlt (wat xs c) (wat xs c') = false
  v : ∀ c c', m ≤ c' → c' ≤ c → c < b → wlt (wat xs c) (wat xs c') = false
theorem Srch.up {xs : List S49} {a m b mid nn s0 r0 s r : Nat} (h : Srch xs nn s0 r0 s r) (hr : Runs xs a m b) (hb : Bounds a m b mid nn s0 r0) {c : Nat} (h1 : s ≤ c) (h2 : c < r) (hw : wlt (wat xs (nn - 1 - c)) (wat xs c) = false) : Srch xs nn s0 r0 (c + 1) r := by
  obtain ⟨b1, b2, b3, b4⟩ := hb
  refine ⟨by have := h.le; omega, fun c' h3 h4 => ?_, h.hi⟩
  have := h.le
  exact wlt_le_le (wlt_le_le (hr.u c c' (by omega) (by omega) (by omega)) hw) (hr.v (nn - 1 - c') (nn - 1 - c) (by omega) (by omega) (by omega))
theorem Srch.down {xs : List S49} {a m b mid nn s0 r0 s r : Nat} (h : Srch xs nn s0 r0 s r) (hr : Runs xs a m b) (hb : Bounds a m b mid nn s0 r0) {c : Nat} (h1 : s ≤ c) (h2 : c < r) (hw : wlt (wat xs (nn - 1 - c)) (wat xs c) = true) : Srch xs nn s0 r0 s c := by
  obtain ⟨b1, b2, b3, b4⟩ := hb
  refine ⟨by have := h.le; omega, h.lo, fun c' h3 h4 => ?_⟩
  have := h.le
  exact wlt_lt_le (wlt_le_lt (hr.v (nn - 1 - c) (nn - 1 - c') (by omega) (by omega) (by omega)) hw) (hr.u c' c (by omega) (by omega) (by omega))
theorem runs_of {P U V S : List S49} (hU : Asc U) (hV : Asc V) : Runs (P ++ U ++ V ++ S) P.length (P.length + U.length) (P.length + U.length + V.length) := by
  have e1 : ∀ c, c < U.length → wat (P ++ U ++ V ++ S) (P.length + c) = wat U c := fun c hc => by
    rw [List.append_assoc, List.append_assoc, wat_app_right, wat_app_left hc]
  have e2 : ∀ c, c < V.length → wat (P ++ U ++ V ++ S) (P.length + U.length + c) = wat V c := fun c hc => by
    rw [List.append_assoc, ← List.length_append, wat_app_right, wat_app_left hc]
  refine ⟨fun c c' h1 h2 h3 => ?_, fun c c' h1 h2 h3 => ?_⟩
  · obtain ⟨d, rfl⟩ : ∃ d, c = P.length + d := ⟨c - P.length, by omega⟩
    obtain ⟨d', rfl⟩ : ∃ d, c' = P.length + d := ⟨c' - P.length, by omega⟩
    rw [e1 d (by omega), e1 d' (by omega)]
    exact hU.le (by omega) (by omega)
  · obtain ⟨d, rfl⟩ : ∃ d, c = P.length + U.length + d := ⟨c - (P.length + U.length), by omega⟩
    obtain ⟨d', rfl⟩ : ∃ d, c' = P.length + U.length + d := ⟨c' - (P.length + U.length), by omega⟩
    rw [e2 d (by omega), e2 d' (by omega)]
    exact hV.le (by omega) (by omega)
theorem srch_end {P U V S : List S49} (hU : Asc U) (hV : Asc V) {mid nn s0 r0 s : Nat} (hb : Bounds P.length (P.length + U.length) (P.length + U.length + V.length) mid nn s0 r0) (h : Srch (P ++ U ++ V ++ S) nn s0 r0 s s) :
    smerge U V = smerge (U.take (s - P.length)) (V.take (nn - s - (P.length + U.length))) ++ smerge (U.drop (s - P.length)) (V.drop (nn - s - (P.length + U.length))) := by
  have e1 : ∀ c, c < U.length → wat (P ++ U ++ V ++ S) (P.length + c) = wat U c := fun c hc => by
    rw [List.append_assoc, List.append_assoc, wat_app_right, wat_app_left hc]
  have e2 : ∀ c, c < V.length → wat (P ++ U ++ V ++ S) (P.length + U.length + c) = wat V c := fun c hc => by
    rw [List.append_assoc, ← List.length_append, wat_app_right, wat_app_left hc]
  obtain ⟨b1, b2, b3, b4⟩ := hb
  have hl := h.le
  refine cut_ok hU hV (by omega) (by omega) (fun h1 h2 => ?_) (fun h1 h2 => ?_)
  · have := h.hi s (Nat.le_refl _) (by omega)
    rw [show nn - 1 - s = P.length + U.length + (nn - s - (P.length + U.length) - 1) by omega, e2 _ (by omega)] at this
    rw [show s = P.length + (s - P.length) by omega, e1 _ (by omega)] at this
    rw [show P.length + (s - P.length) = s by omega] at this
    exact this
  · have := h.lo (s - 1) (by omega) (by omega)
    rw [show nn - 1 - (s - 1) = P.length + U.length + (nn - s - (P.length + U.length)) by omega, e2 _ (by omega)] at this
    rw [show s - 1 = P.length + (s - P.length - 1) by omega, e1 _ (by omega)] at this
    exact this
end Go.Proofs.Ytlfnpakpkniipaa.Q
