/-
Words and contracts for the claim: what the walk of its row uses.
-/
import Derived.Maps.Own
import Derived.Maps.OwnOps
import Derived.Maps.OwnSet
import Derived.Maps.Views
import Derived.DeepKeys4
import Derived.Test.YtlfnpakpkniipaaZJWMore
set_option linter.unusedVariables false
set_option linter.unusedSimpArgs false
namespace Go.Proofs.YtlfnpakpkniipaaH
open Go.RowKit Go.Maps Go.Proofs.YtlfnpakpkniipaaW.PrintWords
def BSet (P : Program) (w : World) (k e : TypeId) (b n : Nat) (ks : List Value) : Prop :=
  ∃ D : DataW Unit, w.ownsMap P k (plainElem P e) b n D ∧ ∀ v l, keyOf P k v = some l → ∃ c : Bool, D.atKey l (.lit (.bool false)) = .lit (.bool c) ∧ (c = true ↔ v ∈ ks)
variable {P : Program} {w w1 : World} {k e : TypeId} {b n : Nat} {ks : List Value}
theorem BSet.below (h : BSet P w k e b n ks) (hb : Below w.heap.size w w1) : BSet P w1 k e b n ks := by
  obtain ⟨D, h1, h2⟩ := h
  exact ⟨D, h1.kept (grown_of_below hb none) (by simp), h2⟩
theorem BSet.alloc (h : BSet P w k e b n ks) (o : Obj) : BSet P (w.alloc o) k e b n ks := by
  obtain ⟨D, h1, h2⟩ := h
  exact ⟨D, h1.alloc o, h2⟩
theorem BSet.mono {m : Nat} (h : BSet P w k e b n ks) (hm : n ≤ m) : BSet P w k e b m ks := by
  obtain ⟨D, h1, h2⟩ := h
  exact ⟨D, h1.mono hm, h2⟩
theorem BSet.setCell (h : BSet P w k e b n ks) {a : Addr} (ha : b ≠ a.block) (u : Value) : BSet P (w.setCell a u) k e b n ks := by
  obtain ⟨D, h1, h2⟩ := h
  exact ⟨D, h1.setCell ha u, h2⟩
theorem BSet.drewN (h : BSet P w k e b n ks) (m : Nat) : BSet P (w.drewN m) k e b n ks := by
  obtain ⟨D, h1, h2⟩ := h
  exact ⟨D, h1, h2⟩
theorem BSet.drawn (h : BSet P w k e b n ks) (hd : Drawn0 w w1) : BSet P w1 k e b n ks := by
  obtain ⟨m, rfl⟩ := hd.out
  exact h.drewN m
theorem BSet.put (h : BSet P w k e b n ks) {t : TypeId} (K : Keyed P k) (ht : P.underlying t = some (.map k e)) (he : P.underlying e = some .bool) (hn : n < maxLen) {key : Value} {kl : Lit} (hkey : keyOf P k key = some kl) :
    ∃ w', (Instr.mapUpdate t (.map (some b)) key (.bool true)).run P w = .ok () w' ∧ BSet P w' k e b (n + 1) (key :: ks) ∧ w.grownBy w' (some b) := by
  obtain ⟨D, h1, h2⟩ := h
  obtain ⟨w', hrun, h3, h4⟩ := h1.update K ht hn hkey (plainElem_bool he true)
  refine ⟨w', hrun, ⟨_, h3, fun v l hv => ?_⟩, h4⟩
  by_cases hl : l = kl
  · subst hl
    have hvk : v = key := K.inj hv hkey
    refine ⟨true, atKey_put_same h1.isMap (K.key hkey) _ _, by simp [hvk]⟩
  · obtain ⟨c, h5, h6⟩ := h2 v l hv
    refine ⟨c, by rw [atKey_put_other hl]; exact h5, ?_⟩
    rw [h6, List.mem_cons]
    refine ⟨.inr, fun h => h.resolve_left (fun hh => hl ?_)⟩
    rw [hh, hkey] at hv
    exact (Option.some.inj hv).symm
end Go.Proofs.YtlfnpakpkniipaaH
