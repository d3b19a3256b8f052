/-
Words and contracts for the claim: what the walk of its row uses.
-/
import Derived.ProofKit
import Derived.OpenShut
import Derived.ShutString
import Derived.ChangeOld
import Derived.Below
import Derived.SizedLaws
import Derived.Test.YtlfnpakpkniipaaZJWMore
set_option linter.unusedVariables false
set_option linter.unusedSimpArgs false
namespace Go.Proofs.YtlfnpakpkniipaaH
open Go.RowKit Go.Proofs.YtlfnpakpkniipaaW.PrintWords
theorem mapM_get {α β : Type} {f : α → Option β} : ∀ {l : List α} {r : List β}, l.mapM f = some r → r.length = l.length ∧ ∀ (i : Nat) (a : α), l[i]? = some a → ∃ b, f a = some b ∧ r[i]? = some b
  | [], r, h => by
    simp at h
    subst h
    exact ⟨rfl, fun i a ha => by simp at ha⟩
  | x :: xs, r, h => by
    rw [List.mapM_cons] at h
    simp only [Option.bind_eq_bind, Option.pure_def, Option.bind_eq_some_iff] at h
    obtain ⟨b, hb, bs, hbs, hr⟩ := h
    obtain rfl : b :: bs = r := by simpa using hr
    obtain ⟨h1, h2⟩ := mapM_get hbs
    refine ⟨by simp [h1], fun i a ha => ?_⟩
    cases i with
    | zero =>
      simp only [List.getElem?_cons_zero, Option.some.injEq] at ha
      subst ha
      exact ⟨b, hb, rfl⟩
    | succ i =>
      simp only [List.getElem?_cons_succ] at ha ⊢
      exact h2 i a ha
theorem collect {α : Type} {p : Nat → α → Prop} : ∀ n, (∀ i, i < n → ∃ a, p i a) → ∃ xs : List α, xs.length = n ∧ ∀ (i : Nat) (a : α), xs[i]? = some a → p i a
  | 0, _ => ⟨[], rfl, fun i a h => by simp at h⟩
  | n + 1, h => by
    obtain ⟨xs, h1, h2⟩ := collect n (fun i hi => h i (by omega))
    obtain ⟨a, ha⟩ := h n (by omega)
    refine ⟨xs ++ [a], by simp [h1], fun i b hb => ?_⟩
    rcases Nat.lt_or_ge i xs.length with hi | hi
    · rw [List.getElem?_append_left hi] at hb
      exact h2 i b hb
    · rw [List.getElem?_append_right hi] at hb
      have : i - xs.length = 0 := by
        have := (List.getElem?_eq_some_iff.1 hb).1
        simpa using this
      rw [this] at hb
      simp only [List.getElem?_cons_zero, Option.some.injEq] at hb
      subst hb
      obtain rfl : i = n := by omega
      exact ha
def Reads {α : Type} (P : Program) (t : TypeId) (d : Kd α) (ok : α → Prop) : Prop :=
  ∀ {H : Type} (enc : TypeId × Value → H) (W : World) (fuel : Nat) (cs : List Value) (x : DataW H) (ps : List MemPlace),
    DataW.trod enc P W 0 (fun _ => true) true fuel t cs = some (x, ps) → (∀ n ∈ x.weights P t, n ≤ reachBytes) → ∃ a, d.K W a cs ∧ ok a
variable {P : Program} {t e : TypeId}
theorem Reads.int {k : IntKind} (hu : P.underlying t = some (.int k)) : Reads P t (Kd.int k) (fun a => (Lit.int k a).wf = true) := by
  intro H enc W fuel cs x ps h hw
  cases fuel with
  | zero => simp [DataW.trod] at h
  | succ fuel =>
    unfold DataW.trod at h
    rw [hu] at h
    split at h <;> simp_all
    rename_i h1 h2
    obtain ⟨⟨rfl, hwf⟩, _⟩ := h
    exact ⟨_, rfl, hwf⟩
theorem Reads.bool (hu : P.underlying t = some .bool) : Reads P t Kd.bool (fun _ => True) := by
  intro H enc W fuel cs x ps h hw
  cases fuel with
  | zero => simp [DataW.trod] at h
  | succ fuel =>
    unfold DataW.trod at h
    rw [hu] at h
    split at h <;> simp_all
    rename_i b
    cases b <;> simp [Kd.bool, Kd.scalar]
theorem weightsAll_mem {H : Type} {e : TypeId} : ∀ {l : List (DataW H)} {d : DataW H}, d ∈ l → ∀ n ∈ d.weights P e, n ∈ DataW.weightsAll P e l
  | x :: xs, d, hd, n, hn => by
    simp only [DataW.weightsAll, List.mem_append]
    rcases List.mem_cons.1 hd with rfl | hd
    · exact .inl hn
    · exact .inr (weightsAll_mem hd n hn)
theorem addr_add (a : Addr) (i j : Nat) : (a.add i).add j = a.add (i + j) := by
  unfold Addr.add
  cases a with
  | mk b o s => simp; split <;> split <;> simp_all <;> omega
theorem Reads.slice {α : Type} {d : Kd α} {ok : α → Prop} {b : Nat} (hu : P.underlying t = some (.slice e)) (hc : P.cellsOf e = d.sz) (hb : P.bytesOf e = b) (he : Reads P e d ok) :
    Reads P t (Kd.slice e d) (fun xs => xs.length * b ≤ 140737488351232 ∧ ∀ x ∈ xs, ok x) := by
  intro H enc W fuel cs x ps h hw
  cases fuel with
  | zero => simp [DataW.trod] at h
  | succ fuel =>
    unfold DataW.trod at h
    rw [hu] at h
    split at h
    all_goals first | (exfalso; simp_all; done) | skip
    · exact ⟨[], ⟨none, 0, rfl, Nat.le_refl _, Kd.C_nil _ _⟩, by simp, by simp⟩
    · rename_i e' ad len cap heq
      injection heq with heq
      injection heq with heq
      subst heq
      dsimp only at h
      by_cases hcond : 0 ≤ ad.block ∧ len ≤ cap ∧ cap ≤ maxLen
      · rw [if_pos hcond] at h
        obtain ⟨elems, hel, h⟩ := Option.bind_eq_some_iff.1 h
        obtain ⟨rest, hrest, h⟩ := Option.map_eq_some_iff.1 h
        simp only [Prod.mk.injEq] at h
        obtain ⟨hx, _⟩ := h
        obtain ⟨hl, hg⟩ := mapM_get hel
        rw [List.length_range] at hl
        subst hx
        simp only [DataW.weights, hu, List.mem_cons, List.mem_append] at hw
        have hlen : len * b ≤ 140737488351232 := by
          have := hw _ (.inl rfl)
          simp only [List.length_map, hl, hb, reachBytes] at this
          exact Nat.le_trans (Nat.mul_le_mul_right _ (Nat.le_add_right _ _)) this
        have hone : ∀ i, i < len → ∃ a, ok a ∧ ∃ c, c.length = d.sz ∧ d.K W a c ∧ ∀ (j : Nat) (u : Value), c[j]? = some u → W.cell? (ad.add (i * d.sz + j)) = some u := by
          intro i hi
          obtain ⟨y, hy, hyi⟩ := hg i i (by simp [hi])
          obtain ⟨c, hc1, hc2⟩ := Option.bind_eq_some_iff.1 hy
          obtain ⟨a, ha, hok⟩ := he enc W fuel c y.1 y.2 hc2 (fun n hn => hw n (.inr (.inl (weightsAll_mem (List.mem_map_of_mem (List.mem_of_getElem? hyi)) n hn))))
          obtain ⟨_, h3, h4⟩ := World.cells?_some hc1
          refine ⟨a, hok, c, d.K_len ha, ha, fun j u hj => ?_⟩
          have hlt := (List.getElem?_eq_some_iff.1 hj).1
          rw [← addr_add, ← hc, h4 j (by omega), hj]
        obtain ⟨xs, h1, h2⟩ := collect len hone
        have hm : len ≤ 9223372036854775807 := by have := hcond.2.2; unfold maxLen at this; omega
        refine ⟨xs, ⟨some ad, cap, by rw [h1], by rw [h1]; exact hcond.2.1, ⟨rfl, by rw [h1]; exact hm, fun _ => ⟨ad, rfl, fun j p hj => (h2 j p hj).2⟩⟩⟩, by rw [h1]; exact hlen, fun x hx => ?_⟩
        obtain ⟨j, hj⟩ := List.getElem?_of_mem hx
        exact (h2 j x hj).1
      · rw [if_neg hcond] at h
        exact absurd h (by simp)
def ReadsF {α : Type} (P : Program) (fs : List Field) (o : Nat) (d : Kd α) (ok : α → Prop) : Prop :=
  ∀ {H : Type} (enc : TypeId × Value → H) (W : World) (fuel : Nat) (cs : List Value) (xs : List (DataW H × List MemPlace)),
    fs.mapM (fun f => DataW.trod enc P W 0 (fun _ => true) true fuel f.type ((cs.drop f.offset).take (P.cellsOf f.type))) = some xs → cs.length = o + d.sz →
    (∀ n ∈ DataW.weightsEach P (fs.map (·.type)) (xs.map (·.1)), n ≤ reachBytes) → ∃ a, d.K W a (cs.drop o) ∧ ok a
theorem ReadsF.last {α : Type} {d : Kd α} {ok : α → Prop} {f : Field} {o : Nat} (ho : f.offset = o) (hc : P.cellsOf f.type = d.sz) (h : Reads P f.type d ok) : ReadsF P [f] o d ok := by
  intro H enc W fuel cs xs hm hl hw
  obtain ⟨h1, h2⟩ := mapM_get hm
  obtain ⟨y, hy, hx⟩ := h2 0 f rfl
  match xs, h1, hx with
  | [z], _, hx =>
    simp only [List.getElem?_cons_zero, Option.some.injEq] at hx
    subst hx
    rw [ho, hc, List.take_of_length_le (by rw [List.length_drop]; omega)] at hy
    exact h enc W fuel _ z.1 z.2 hy (fun n hn => hw n (by simpa [DataW.weightsEach] using hn))
theorem ReadsF.cons {α β : Type} {d : Kd α} {d' : Kd β} {ok : α → Prop} {ok' : β → Prop} {f : Field} {fs : List Field} {o o' : Nat} (ho : f.offset = o) (ho' : o' = o + d.sz) (hc : P.cellsOf f.type = d.sz) (h : Reads P f.type d ok) (h' : ReadsF P fs o' d' ok') :
    ReadsF P (f :: fs) o (Kd.pair d d') (fun a => ok a.1 ∧ ok' a.2) := by
  intro H enc W fuel cs xs hm hl hw
  rw [List.mapM_cons] at hm
  simp only [Option.bind_eq_bind, Option.pure_def, Option.bind_eq_some_iff] at hm
  obtain ⟨y, hy, ys, hys, hr⟩ := hm
  obtain rfl : y :: ys = xs := by simpa using hr
  simp only [List.map_cons, DataW.weightsEach, List.mem_append] at hw
  have hsz : (Kd.pair d d').sz = d.sz + d'.sz := rfl
  rw [hsz] at hl
  rw [ho, hc] at hy
  obtain ⟨a, ha, hok⟩ := h enc W fuel _ y.1 y.2 hy (fun n hn => hw n (.inl hn))
  obtain ⟨b, hb, hok'⟩ := h' enc W fuel cs ys hys (by omega) (fun n hn => hw n (.inr hn))
  refine ⟨(a, b), ⟨_, _, ?_, ha, hb⟩, hok, hok'⟩
  rw [ho', ← List.drop_drop, List.take_append_drop]
theorem Reads.struct {α β : Type} {d : Kd α} {ok : α → Prop} {fs : Array Field} {f : β → α} (g : α → β) (hg : ∀ a, f (g a) = a) (hu : P.underlying t = some (.struct fs)) (hc : P.cellsOf t = d.sz) (h : ReadsF P fs.toList 0 d ok) :
    Reads P t (Kd.iso d f) (fun a => ok (f a)) := by
  intro H enc W fuel cs x ps h0 hw
  cases fuel with
  | zero => simp [DataW.trod] at h0
  | succ fuel =>
    unfold DataW.trod at h0
    rw [hu] at h0
    split at h0
    all_goals first | (exfalso; simp_all; done) | skip
    rename_i cs _ _ fs' heq
    injection heq with heq
    injection heq with heq
    subst heq
    by_cases hl : cs.length = P.cellsOf t
    · rw [if_pos hl] at h0
      obtain ⟨xs, hxs, h0⟩ := Option.map_eq_some_iff.1 h0
      simp only [Prod.mk.injEq] at h0
      obtain ⟨rfl, _⟩ := h0
      obtain ⟨a, ha, hok⟩ := h enc W fuel cs xs hxs (by rw [hl, hc, Nat.zero_add]) (fun n hn => hw n (by simpa [DataW.weights, hu] using hn))
      exact ⟨g a, by simpa [Kd.iso, hg] using ha, by show ok (f (g a)); rw [hg]; exact hok⟩
    · rw [if_neg hl] at h0
      exact absurd h0 (by simp)
def arrField (e : TypeId) (o : Nat) : Field := { name := "", type := e, offset := o, embedded := false, tag := "", pkgPath := "", byteOffset := 0 }
theorem weightsEach_all {H : Type} {e : TypeId} : ∀ (l : List Field) (ds : List (DataW H)), (∀ f ∈ l, f.type = e) → l.length = ds.length → DataW.weightsEach P (l.map (·.type)) ds = DataW.weightsAll P e ds
  | [], [], _, _ => rfl
  | [], _ :: _, _, h => by simp at h
  | _ :: _, [], _, h => by simp at h
  | f :: fs, d :: ds, h, hl => by
    simp only [List.map_cons, DataW.weightsEach, DataW.weightsAll]
    rw [h f (by simp), weightsEach_all fs ds (fun g hg => h g (by simp [hg])) (by simpa using hl)]
theorem mapM_map' {α β γ : Type} (f : β → Option γ) (g : α → β) : ∀ l : List α, (l.map g).mapM f = l.mapM (fun x => f (g x))
  | [] => rfl
  | x :: xs => by rw [List.map_cons, List.mapM_cons, List.mapM_cons, mapM_map' f g xs]
theorem Reads.array {α β : Type} {d : Kd α} {ok : α → Prop} {n : Nat} {f : β → α} (g : α → β) (hg : ∀ a, f (g a) = a) (hu : P.underlying t = some (.array n e)) (hc : P.cellsOf t = d.sz) (h : ReadsF P ((List.range n).map fun i => arrField e (i * P.cellsOf e)) 0 d ok) :
    Reads P t (Kd.iso d f) (fun a => ok (f a)) := by
  intro H enc W fuel cs x ps h0 hw
  cases fuel with
  | zero => simp [DataW.trod] at h0
  | succ fuel =>
    unfold DataW.trod at h0
    rw [hu] at h0
    split at h0
    all_goals first | (exfalso; simp_all; done) | skip
    rename_i cs _ _ n' e' heq
    injection heq with heq
    injection heq with heq1 heq2
    subst heq1
    subst heq2
    by_cases hl : cs.length = P.cellsOf t
    · rw [if_pos hl] at h0
      obtain ⟨xs, hxs, h0⟩ := Option.map_eq_some_iff.1 h0
      simp only [Prod.mk.injEq] at h0
      obtain ⟨rfl, _⟩ := h0
      have hlen := (mapM_get hxs).1
      rw [List.length_range] at hlen
      obtain ⟨a, ha, hok⟩ := h enc W fuel cs xs (by rw [mapM_map']; exact hxs) (by rw [hl, hc, Nat.zero_add]) (fun m hm => by
        rw [weightsEach_all (e := e) _ _ (by simp [arrField]) (by simp [hlen])] at hm
        exact hw m (by simpa [DataW.weights, hu] using hm))
      exact ⟨g a, by simpa [Kd.iso, hg] using ha, by show ok (f (g a)); rw [hg]; exact hok⟩
    · rw [if_neg hl] at h0
      exact absurd h0 (by simp)
theorem Reads.imp {α : Type} {d : Kd α} {ok ok' : α → Prop} (h : Reads P t d ok) (hi : ∀ a, ok a → ok' a) : Reads P t d ok' := by
  intro H enc W fuel cs x ps h0 hw
  obtain ⟨a, ha, hok⟩ := h enc W fuel cs x ps h0 hw
  exact ⟨a, ha, hi a hok⟩
theorem Reads.arg {α : Type} {d : Kd α} {ok : α → Prop} (h : Reads P t d ok) {H : Type} {enc : TypeId × Value → H} {W : World} {v : Value} {x : DataW H} {p : List MemPlace} {ts : List TypeId} {ds : List (DataW H)} {j : Nat}
    (hj : DataW.Trod enc P W 0 (fun _ => true) true t v x p) (hsz : (DataW.weightsEach P ts ds).all (· ≤ reachBytes) = true) (ht : ts[j]? = some t) (hd : ds[j]? = some x) : ∃ a, d.K W a v.cells.toList ∧ ok a := by
  obtain ⟨fuel, hf⟩ := hj
  refine h enc W fuel _ x p hf (fun n hn => ?_)
  have := List.all_eq_true.1 hsz n (DataW.weights_mem_each ht hd n hn)
  simpa using this
theorem okW_struct {W : World} {base : Nat} {v : Value} {fs : Array Field} (hu : P.underlying t = some (.struct fs)) (h : Value.okWide P W .any base t v) : ∃ cs, v = .agg cs := by
  unfold Value.okWide at h
  rw [hu] at h
  obtain ⟨cs, rfl, _⟩ := h
  exact ⟨cs, rfl⟩
end Go.Proofs.YtlfnpakpkniipaaH
