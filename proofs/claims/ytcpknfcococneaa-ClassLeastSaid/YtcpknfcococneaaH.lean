/-
Words of this session, over any program: a map that a call makes and keeps as a set of keys (map[K]bool, only 'true' is ever stored).
-/
import Derived.Maps.Own
import Derived.Maps.OwnOps
import Derived.Maps.OwnSet
import Derived.Maps.Views
import Derived.DeepKeys4
import Derived.Test.YtcpknfcococneaaWMore
set_option linter.unusedVariables false
set_option linter.unusedSimpArgs false
namespace Go.Proofs.YtcpknfcococneaaH
open Go.RowKit Go.Maps Go.Proofs.YtcpknfcococneaaW.PrintWords

/-- Block b is a map[K]bool of at most n entries in which just the keys ks are true. -/
def BSet (P : Program) (w : World) (k e : TypeId) (b n : Nat) (ks : List Value) : Prop :=
  ∃ D : DataW Unit, w.ownsMap P k (plainElem P e) b n D ∧ ∀ v l, keyOf P k v = some l → ∃ c : Bool, D.atKey l (.lit (.bool false)) = .lit (.bool c) ∧ (c = true ↔ v ∈ ks)

variable {P : Program} {w w1 : World} {k e : TypeId} {b n : Nat} {ks : List Value}

theorem bset_made (w : World) (P : Program) (k e : TypeId) : BSet P (w.alloc (.map #[] 0)) k e w.heap.size 0 [] :=
  ⟨.map [], World.ownsMap_made _ _ _ _, fun _ _ _ => ⟨false, rfl, by simp⟩⟩
theorem BSet.below (h : BSet P w k e b n ks) (hb : Below w.heap.size w w1) : BSet P w1 k e b n ks := by
  obtain ⟨D, h1, h2⟩ := h
  exact ⟨D, h1.kept (grown_of_below hb none) (by simp), h2⟩
theorem BSet.alloc (h : BSet P w k e b n ks) (o : Obj) : BSet P (w.alloc o) k e b n ks := by
  obtain ⟨D, h1, h2⟩ := h
  exact ⟨D, h1.alloc o, h2⟩
theorem BSet.lt (h : BSet P w k e b n ks) : b < w.heap.size := by
  obtain ⟨D, h1, _⟩ := h
  exact h1.lt
theorem BSet.mono {m : Nat} (h : BSet P w k e b n ks) (hm : n ≤ m) : BSet P w k e b m ks := by
  obtain ⟨D, h1, h2⟩ := h
  exact ⟨D, h1.mono hm, h2⟩
theorem BSet.setCell (h : BSet P w k e b n ks) {a : Addr} (ha : b ≠ a.block) (u : Value) : BSet P (w.setCell a u) k e b n ks := by
  obtain ⟨D, h1, h2⟩ := h
  exact ⟨D, h1.setCell ha u, h2⟩
theorem BSet.drewN (h : BSet P w k e b n ks) (m : Nat) : BSet P (w.drewN m) k e b n ks := by
  obtain ⟨D, h1, h2⟩ := h
  exact ⟨D, h1, h2⟩
theorem BSet.drawn (h : BSet P w k e b n ks) (hd : Drawn0 w w1) : BSet P w1 k e b n ks := by
  obtain ⟨m, rfl⟩ := hd.out
  exact h.drewN m
theorem blk_drawn {g : Nat} {o : Obj} (h : w.heap[g]? = some o) (hd : Drawn0 w w1) : w1.heap[g]? = some o := by
  obtain ⟨m, rfl⟩ := hd.out
  exact blk_drewN h m
theorem below_drawn {B : Nat} {w0 : World} (h : Below B w0 w) (hd : Drawn0 w w1) : Below B w0 w1 := by
  obtain ⟨m, rfl⟩ := hd.out
  exact pw_below_drewN h m
theorem blk_new' (w : World) (o : Obj) (n : Nat) (h : n = w.heap.size) : (w.alloc o).heap[n]? = some o := by rw [h]; exact blk_new w o
theorem plainElem_bool_inv {H : Type} (he : P.underlying e = some .bool) {v : Value} {z : DataW H × List MemPlace} (h : plainElem P e v = some z) : ∃ c : Bool, v = .bool c ∧ z = (.lit (.bool c), []) := by
  cases v <;> simp [plainElem, he] at h
  exact ⟨_, rfl, h.symm⟩
theorem BSet.look (h : BSet P w k e b n ks) {t : TypeId} (K : Keyed P k) (ht : P.underlying t = some (.map k e)) (he : P.underlying e = some .bool) (hz : (zeroValue e).run P w = .ok (.bool false) w) {key : Value} {kl : Lit} (hkey : keyOf P k key = some kl) :
    ∃ c : Bool, (Instr.lookup t (.map (some b)) key false).run P w = .ok (.bool c) w ∧ (c = true ↔ key ∈ ks) := by
  obtain ⟨D, h1, h2⟩ := h
  obtain ⟨v, ps, hrun, hv⟩ := h1.lookup K ht hz (plainElem_bool he false) hkey
  obtain ⟨c, rfl, hc⟩ := plainElem_bool_inv he hv
  obtain ⟨c', h3, h4⟩ := h2 key kl hkey
  rw [h3] at hc
  injection hc with hc _
  injection hc with hc
  injection hc with hc
  subst hc
  exact ⟨_, hrun, h4⟩
/-- 'm[k]' at the operation. -/
theorem wpList_look_bset {ops : Array Oper} {rest : List Oper} {o : Oper} {a : Act} {Q : Exit → Act → World → Prop}
    (hg : o.guard = none) (m x : Operand) (t : TypeId) (hop : o.op = Op.lookup t m x false)
    (K : Keyed P k) (ht : P.underlying t = some (.map k e)) (he : P.underlying e = some .bool) (hz : (zeroValue e).run P w = .ok (.bool false) w)
    (hm : a.eval m = .map (some b)) (hown : BSet P w k e b n ks) (key : Value) (kl : Lit) (hx : a.eval x = key) (hkey : keyOf P k key = some kl)
    (hK : ∀ c : Bool, (c = true ↔ key ∈ ks) → wpList P ops Q rest (a.put o.dst (.bool c)) w) :
    wpList P ops Q (o :: rest) a w := by
  refine wpList_plain hg fun K' hK' => ?_
  obtain ⟨c, hrun, hat⟩ := hown.look K ht he hz hkey
  unfold Oper.wp
  simp [execOp, hop, hm, hx, hrun, Result.andThen]
  exact hK' _ _ (hK c hat)
theorem BSet.put (h : BSet P w k e b n ks) {t : TypeId} (K : Keyed P k) (ht : P.underlying t = some (.map k e)) (he : P.underlying e = some .bool) (hn : n < maxLen) {key : Value} {kl : Lit} (hkey : keyOf P k key = some kl) :
    ∃ w', (Instr.mapUpdate t (.map (some b)) key (.bool true)).run P w = .ok () w' ∧ BSet P w' k e b (n + 1) (key :: ks) ∧ w.grownBy w' (some b) := by
  obtain ⟨D, h1, h2⟩ := h
  obtain ⟨w', hrun, h3, h4⟩ := h1.update K ht hn hkey (plainElem_bool he true)
  refine ⟨w', hrun, ⟨_, h3, fun v l hv => ?_⟩, h4⟩
  by_cases hl : l = kl
  · subst hl
    have hvk : v = key := K.inj hv hkey
    refine ⟨true, atKey_put_same h1.isMap (K.key hkey) _ _, by simp [hvk]⟩
  · obtain ⟨c, h5, h6⟩ := h2 v l hv
    refine ⟨c, by rw [atKey_put_other hl]; exact h5, ?_⟩
    rw [h6, List.mem_cons]
    refine ⟨.inr, fun h => h.resolve_left (fun hh => hl ?_)⟩
    rw [hh, hkey] at hv
    exact (Option.some.inj hv).symm
/-- 'm[k] = true' at the operation. -/
theorem wpList_put_bset {ops : Array Oper} {rest : List Oper} {o : Oper} {a : Act} {Q : Exit → Act → World → Prop}
    (hg : o.guard = none) (m x v : Operand) (t : TypeId) (hop : o.op = Op.mapUpdate t m x v)
    (K : Keyed P k) (ht : P.underlying t = some (.map k e)) (he : P.underlying e = some .bool) (hn : n < maxLen)
    (hm : a.eval m = .map (some b)) (hown : BSet P w k e b n ks) (key : Value) (kl : Lit) (hx : a.eval x = key) (hv : a.eval v = .bool true) (hkey : keyOf P k key = some kl)
    (hK : ∀ w', BSet P w' k e b (n + 1) (key :: ks) → w.grownBy w' (some b) → wpList P ops Q rest (a.put o.dst undef) w') :
    wpList P ops Q (o :: rest) a w := by
  refine wpList_plain hg fun K' hK' => ?_
  obtain ⟨w', hrun, r1, r2⟩ := hown.put K ht he hn hkey
  unfold Oper.wp
  simp [execOp, hop, hm, hx, hv, hrun, Result.andThen]
  exact hK' _ _ (hK w' r1 r2)
/-- What lies below is as it was where a map of the call's own has been written. -/
theorem below_put {B : Nat} {w0 : World} (h : Below B w0 w) (hg : w.grownBy w1 (some b)) (hb : B ≤ b) (hB : B ≤ w.heap.size) : Below B w0 w1 := h.grown hg hB (fun j hj => by cases hj; exact hb)
theorem bset_two {b' n' : Nat} {k' e' : TypeId} {ks' : List Value} (h : BSet P w k e b n ks) (hg : w.grownBy w1 (some b')) (hne : b ≠ b') : BSet P w1 k e b n ks := by
  obtain ⟨D, h1, h2⟩ := h
  exact ⟨D, h1.kept hg (by simpa using hne), h2⟩
theorem flat_get {α : Type} (f : α → List Value) (sz : Nat) (hl : ∀ x, (f x).length = sz) : ∀ (xs : List α) (j i : Nat) (x : α), xs[j]? = some x → i < sz → (xs.flatMap f)[j * sz + i]? = (f x)[i]?
  | [], _, _, _, h, _ => by simp at h
  | y :: ys, 0, i, x, h, hi => by
    simp only [List.getElem?_cons_zero, Option.some.injEq] at h
    subst h
    rw [List.flatMap_cons, Nat.zero_mul, Nat.zero_add, List.getElem?_append_left (by rw [hl]; exact hi)]
  | y :: ys, j + 1, i, x, h, hi => by
    simp only [List.getElem?_cons_succ] at h
    have ih := flat_get f sz hl ys j i x h hi
    rw [List.flatMap_cons, List.getElem?_append_right (by rw [hl, Nat.succ_mul]; omega), hl, show (j + 1) * sz + i - sz = j * sz + i by rw [Nat.succ_mul]; omega]
    exact ih
/-- A block known whole, read as a row. -/
theorem C_of_blk {α : Type} {d : Kd α} {W : World} {g : Nat} {cells : Array Value} {t : TypeId} {fr : Nat × Nat} (h : W.heap[g]? = some (.cells cells t fr)) (xs : List α) (f : α → List Value) (hK : ∀ x, d.K W x (f x)) (hc : cells.toList = xs.flatMap f) (hn : xs.length ≤ 9223372036854775807) :
    d.C W (some ⟨g, 0, none⟩) xs.length xs := by
  have hl : ∀ x, (f x).length = d.sz := fun x => d.K_len (hK x)
  refine ⟨rfl, hn, fun _ => ⟨_, rfl, fun j x hj => ⟨f x, hl x, hK x, fun i u hu => ?_⟩⟩⟩
  have hi : i < d.sz := by
    have := (List.getElem?_eq_some_iff.1 hu).1
    rw [hl] at this
    exact this
  have ha : (⟨g, 0, none⟩ : Addr).add (j * d.sz + i) = ⟨g, j * d.sz + i, none⟩ := by rw [add_plain]
  rw [ha, cell_of_row W g (j * d.sz + i) cells t fr h]
  have := flat_get f d.sz hl xs j i x hj hi
  rw [← hc, hu] at this
  simpa using this
end Go.Proofs.YtcpknfcococneaaH
