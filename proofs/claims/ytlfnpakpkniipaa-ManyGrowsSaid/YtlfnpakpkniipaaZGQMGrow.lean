/- Words for the claim. -/
import Derived.Test.YtlfnpakpkniipaaZGQMSum
set_option linter.unusedVariables false
set_option linter.unusedSimpArgs false
namespace Go.Proofs.Ytlfnpakpkniipaa.Q
open Go.RowKit Go.IntWalk Go.Proofs.YtlfnpakpkniipaaW.PrintWords Go.Proofs.YtlfnpakpkniipaaW.PrintLast Go.Proofs.YtlfnpakpkniipaaW.PrintMore Go.Proofs.YtlfnpakpkniipaaH
def linked (gap : Int) : Int → List S49 → Prop
  | _, [] => True
  | e, y :: ys => y.f2 - e ≤ gap ∧ linked gap (mx e (y.f2 + y.f3)) ys
def endOf : Int → List S49 → Int
  | e, [] => e
  | e, y :: ys => endOf (mx e (y.f2 + y.f3)) ys
theorem mx_mono {a b c : Int} (h : a ≤ b) : mx a c ≤ mx b c := by unfold mx; split <;> split <;> omega
theorem linked_mono {gap : Int} : ∀ (ys : List S49) {e e' : Int}, e ≤ e' → linked gap e ys → linked gap e' ys
  | [], _, _, _, _ => trivial
  | y :: ys, e, e', h, ⟨h1, h2⟩ => ⟨by omega, linked_mono ys (mx_mono h) h2⟩
theorem endOf_mono : ∀ (ys : List S49) {e e' : Int}, e ≤ e' → endOf e ys ≤ endOf e' ys
  | [], _, _, h => h
  | y :: ys, e, e', h => by unfold endOf; exact endOf_mono ys (mx_mono h)
theorem linked_snoc {gap : Int} {w : S49} : ∀ (ys : List S49) {e : Int}, linked gap e ys → w.f2 - endOf e ys ≤ gap → linked gap e (ys ++ [w])
  | [], e, _, h => ⟨h, trivial⟩
  | y :: ys, e, ⟨h1, h2⟩, h => ⟨h1, linked_snoc ys h2 h⟩
theorem endOf_snoc {w : S49} : ∀ (ys : List S49) {e : Int}, endOf e (ys ++ [w]) = mx (endOf e ys) (w.f2 + w.f3)
  | [], e => rfl
  | y :: ys, e => by rw [List.cons_append, endOf, endOf_snoc ys]; rfl
def Wit (gap a : Int) (xs : List S49) : Prop := ∃ P x S Q, xs = P ++ x :: (S ++ Q) ∧ S ≠ [] ∧ linked gap (x.f2 + x.f3) S ∧ endOf (x.f2 + x.f3) S - x.f2 > a
theorem Wit.snoc {gap a : Int} {xs : List S49} (h : Wit gap a xs) (w : S49) : Wit gap a (xs ++ [w]) := by
  obtain ⟨P, x, S, Q, rfl, h1, h2, h3⟩ := h
  exact ⟨P, x, S, Q ++ [w], by simp, h1, h2, h3⟩
def lng (a : Int) (b : S25) : Prop := b.f1 ≥ 2 ∧ b.f0 > a
def WOk (gap a : Int) (pre : List S49) (s : List S25 × Int × Int) : Prop :=
  match s with
  | ([], _, _) => pre = []
  | (b :: R, f, e) => (∀ c ∈ R, lng a c → Wit gap a pre) ∧ ∃ P x S, pre = P ++ x :: S ∧ f = x.f2 ∧ e = endOf (x.f2 + x.f3) S ∧ linked gap (x.f2 + x.f3) S ∧ b.f1 = S.length + 1 ∧ b.f0 = e - f
theorem WOk.wit {gap a : Int} {pre : List S49} {s : List S25 × Int × Int} (h : WOk gap a pre s) {c : S25} (hc : c ∈ s.1) (hl : lng a c) : Wit gap a pre := by
  obtain ⟨R, f, e⟩ := s
  cases R with
  | nil => cases hc
  | cons b R =>
    obtain ⟨h1, P, x, S, rfl, rfl, rfl, h2, h3, h4⟩ := h
    rcases List.mem_cons.1 hc with rfl | hc
    · refine ⟨P, x, S, [], by simp, ?_, h2, ?_⟩
      · rintro rfl
        have := hl.1
        simp at h3
        omega
      · have := hl.2
        omega
    · exact h1 c hc hl
theorem WOk.step {gap a : Int} {pre : List S49} {s : List S25 × Int × Int} (h : WOk gap a pre s) (w : S49) : WOk gap a (pre ++ [w]) (bstep gap s w) := by
  have hw := h
  obtain ⟨R, f, e⟩ := s
  cases R with
  | nil =>
    have hp : pre = [] := h
    subst hp
    exact ⟨fun c hc => by simp at hc, [], w, [], rfl, rfl, rfl, trivial, by simp, by show w.f3 = w.f2 + w.f3 - w.f2; omega⟩
  | cons b R =>
    obtain ⟨h1, P, x, S, rfl, rfl, rfl, h2, h3, h4⟩ := h
    unfold bstep
    simp only
    by_cases hq : w.f2 - endOf (x.f2 + x.f3) S > gap
    · rw [if_pos hq]
      refine ⟨fun c hc hl => ?_, P ++ x :: S, w, [], rfl, rfl, rfl, trivial, by simp, by show w.f3 = w.f2 + w.f3 - w.f2; omega⟩
      exact (hw.wit (s := (b :: R, _, _)) hc hl).snoc w
    · rw [if_neg hq]
      refine ⟨fun c hc hl => (h1 c hc hl).snoc w, P, x, S ++ [w], by simp, rfl, (endOf_snoc S).symm, linked_snoc S h2 (by omega), ?_, rfl⟩
      show b.f1 + 1 = _
      rw [h3]
      simp
theorem WOk.fold {gap a : Int} : ∀ (xs pre : List S49) (s : List S25 × Int × Int), WOk gap a pre s → WOk gap a (pre ++ xs) (xs.foldl (bstep gap) s)
  | [], pre, s, h => by simpa using h
  | x :: xs, pre, s, h => by
    have := WOk.fold xs (pre ++ [x]) _ (WOk.step h x)
    rw [List.foldl_cons]
    simpa using this
theorem blk_wit {gap a : Int} {xs : List S49} {c : S25} (hc : c ∈ blk gap xs) (hl : lng a c) : Wit gap a xs := by
  have h := WOk.fold (gap := gap) (a := a) xs [] ([], 0, 0) rfl
  rw [List.nil_append] at h
  unfold blk at hc
  exact h.wit (List.mem_reverse.1 hc) hl
def HOk (s : List S25 × Int × Int) : Prop := ∀ b R, s.1 = b :: R → b.f0 = s.2.2 - s.2.1 ∧ b.f1 ≥ 1
theorem HOk.step {gap : Int} {s : List S25 × Int × Int} (h : HOk s) (w : S49) : HOk (bstep gap s w) := by
  obtain ⟨R, f, e⟩ := s
  cases R with
  | nil =>
    intro b R hb
    simp only [bstep, List.cons.injEq] at hb
    obtain ⟨rfl, rfl⟩ := hb
    exact ⟨by show w.f3 = w.f2 + w.f3 - w.f2; omega, by show (1 : Int) ≥ 1; omega⟩
  | cons b R =>
    have hb1 := (h b R rfl).2
    unfold bstep
    simp only
    by_cases hq : w.f2 - e > gap
    · rw [if_pos hq]
      intro c C hc
      simp only [List.cons.injEq] at hc
      obtain ⟨rfl, rfl⟩ := hc
      exact ⟨by show w.f3 = w.f2 + w.f3 - w.f2; omega, by show (1 : Int) ≥ 1; omega⟩
    · rw [if_neg hq]
      intro c C hc
      simp only [List.cons.injEq] at hc
      obtain ⟨rfl, rfl⟩ := hc
      exact ⟨rfl, by show b.f1 + 1 ≥ 1; omega⟩
def hasL (a : Int) (s : List S25 × Int × Int) : Prop := ∃ c ∈ s.1, lng a c
theorem hasL.step {gap a : Int} {s : List S25 × Int × Int} (hh : HOk s) (h : hasL a s) (w : S49) : hasL a (bstep gap s w) := by
  obtain ⟨R, f, e⟩ := s
  obtain ⟨c, hc, hl⟩ := h
  cases R with
  | nil => cases hc
  | cons b R =>
    have hb := hh b R rfl
    simp only at hb
    unfold bstep
    simp only
    by_cases hq : w.f2 - e > gap
    · rw [if_pos hq]
      exact ⟨c, List.mem_cons_of_mem _ hc, hl⟩
    · rw [if_neg hq]
      rcases List.mem_cons.1 hc with rfl | hc
      · have m := le_mx e (w.f2 + w.f3)
        refine ⟨_, List.mem_cons_self, ?_, ?_⟩
        · show c.f1 + 1 ≥ 2
          have := hl.1
          omega
        · show mx e (w.f2 + w.f3) - f > a
          have := hl.2
          omega
      · exact ⟨c, List.mem_cons_of_mem _ hc, hl⟩
theorem hasL.fold {gap a : Int} : ∀ (xs : List S49) (s : List S25 × Int × Int), HOk s → hasL a s → hasL a (xs.foldl (bstep gap) s)
  | [], s, hh, h => h
  | x :: xs, s, hh, h => by rw [List.foldl_cons]; exact hasL.fold xs _ (HOk.step hh x) (hasL.step hh h x)
def InB (n f0 e0 : Int) (s : List S25 × Int × Int) : Prop := ∃ b R, s.1 = b :: R ∧ s.2.1 ≤ f0 ∧ e0 ≤ s.2.2 ∧ b.f1 ≥ n
theorem InB.fold {gap f0 : Int} : ∀ (xs : List S49) (s : List S25 × Int × Int) (n e0 : Int), InB n f0 e0 s → linked gap e0 xs → InB (n + xs.length) f0 (endOf e0 xs) (xs.foldl (bstep gap) s)
  | [], s, n, e0, h, hl => by simpa [endOf] using h
  | x :: xs, s, n, e0, h, ⟨h1, h2⟩ => by
    obtain ⟨R0, f, e⟩ := s
    obtain ⟨b, R, hs, hf, he, hn⟩ := h
    simp only at hs hf he
    subst hs
    rw [List.foldl_cons, endOf]
    have hb : InB (n + 1) f0 (mx e0 (x.f2 + x.f3)) (bstep gap (b :: R, f, e) x) := by
      unfold bstep
      simp only
      rw [if_neg (by omega)]
      exact ⟨_, R, rfl, hf, mx_mono he, by show b.f1 + 1 ≥ n + 1; omega⟩
    have := InB.fold xs _ _ _ hb h2
    rw [show n + ((x :: xs).length : Int) = n + 1 + (xs.length : Int) by simp; omega]
    exact this
theorem HOk.fold {gap : Int} : ∀ (xs : List S49) (s : List S25 × Int × Int), HOk s → HOk (xs.foldl (bstep gap) s)
  | [], s, h => h
  | x :: xs, s, h => by rw [List.foldl_cons]; exact HOk.fold xs _ (HOk.step h x)
theorem from_fold {gap : Int} (x : S49) : ∀ (P : List S49) (s : List S25 × Int × Int), (∀ y ∈ P, y.f2 ≤ x.f2) → (s.1 ≠ [] → s.2.1 ≤ x.f2) → ((P.foldl (bstep gap) s).1 ≠ [] → (P.foldl (bstep gap) s).2.1 ≤ x.f2)
  | [], s, h, hs => hs
  | y :: P, s, h, hs => by
    rw [List.foldl_cons]
    refine from_fold x P _ (fun z hz => h z (by simp [hz])) (fun _ => ?_)
    have hy := h y (by simp)
    obtain ⟨R, f, e⟩ := s
    cases R with
    | nil => exact hy
    | cons b R =>
      have := hs (by simp)
      unfold bstep
      simp only
      split
      · exact hy
      · exact this
theorem wit_blk {gap a : Int} {xs : List S49} (hs : xs.Pairwise (fun y z => y.f2 ≤ z.f2)) (h : Wit gap a xs) : ∃ c ∈ blk gap xs, lng a c := by
  obtain ⟨P, x, S, Q, rfl, h1, h2, h3⟩ := h
  have hP : ∀ y ∈ P, y.f2 ≤ x.f2 := fun y hy => (List.pairwise_append.1 hs).2.2 y hy x (by simp)
  have H0 : HOk (([], 0, 0) : List S25 × Int × Int) := fun b R hb => by simp at hb
  have H1 := HOk.fold (gap := gap) P _ H0
  have F1 := from_fold (gap := gap) x P ([], 0, 0) hP (fun h => absurd rfl h)
  obtain ⟨s, hsx⟩ : ∃ s, s = P.foldl (bstep gap) ([], 0, 0) := ⟨_, rfl⟩
  rw [← hsx] at H1 F1
  have I1 : InB 1 x.f2 (x.f2 + x.f3) (bstep gap s x) := by
    obtain ⟨R, f, e⟩ := s
    cases R with
    | nil => exact ⟨_, _, rfl, Int.le_refl _, Int.le_refl _, by show (1 : Int) ≥ 1; omega⟩
    | cons b R =>
      have hf := F1 (by simp)
      have hb := (H1 b R rfl).2
      unfold bstep
      simp only at hf ⊢
      split
      · exact ⟨_, _, rfl, Int.le_refl _, Int.le_refl _, by show (1 : Int) ≥ 1; omega⟩
      · exact ⟨_, _, rfl, hf, le_mx' _ _, by show b.f1 + 1 ≥ 1; omega⟩
  have I2 := InB.fold S _ _ _ I1 h2
  have H2 := HOk.fold (gap := gap) S _ (HOk.step (gap := gap) H1 x)
  have L2 : hasL a (S.foldl (bstep gap) (bstep gap s x)) := by
    obtain ⟨b, R, e1, e2, e3, e4⟩ := I2
    refine ⟨b, by rw [e1]; simp, ?_, ?_⟩
    · have : 1 ≤ S.length := by
        cases S with
        | nil => exact absurd rfl h1
        | cons _ _ => simp
      omega
    · have := (H2 b R e1).1
      omega
  have L3 := hasL.fold (gap := gap) Q _ H2 L2
  obtain ⟨c, hc, hl⟩ := L3
  refine ⟨c, ?_, hl⟩
  unfold blk
  rw [List.mem_reverse, List.foldl_append, List.foldl_cons, List.foldl_append, ← hsx]
  exact hc
theorem linked_ins {gap : Int} {w : S49} {B : List S49} (hB : ∀ y ∈ B, w.f2 ≤ y.f2) : ∀ (A : List S49) {e : Int}, linked gap e (A ++ B) → B ≠ [] → linked gap e (A ++ w :: B)
  | [], e, h, hn => by
    cases B with
    | nil => exact absurd rfl hn
    | cons y B =>
      have := hB y (by simp)
      have h1 := h.1
      exact ⟨by omega, linked_mono (y :: B) (le_mx _ _) h⟩
  | y :: A, e, ⟨h1, h2⟩, hn => ⟨h1, linked_ins hB A h2 hn⟩
theorem endOf_ins {w : S49} {B : List S49} : ∀ (A : List S49) {e : Int}, endOf e (A ++ B) ≤ endOf e (A ++ w :: B)
  | [], e => endOf_mono B (le_mx _ _)
  | y :: A, e => by rw [List.cons_append, endOf, List.cons_append, endOf]; exact endOf_ins A
theorem Wit.ins {gap a : Int} {w : S49} {A B : List S49} (hB : ∀ y ∈ B, w.f2 ≤ y.f2) (h : Wit gap a (A ++ B)) : Wit gap a (A ++ w :: B) := by
  obtain ⟨P, x, S, Q, e, h1, h2, h3⟩ := h
  rcases List.append_eq_append_iff.1 e with ⟨C, rfl, hC⟩ | ⟨C, rfl, hC⟩
  ·
    exact ⟨A ++ w :: C, x, S, Q, by rw [hC]; simp, h1, h2, h3⟩
  ·
    cases C with
    | nil => exact ⟨P ++ [w], x, S, Q, by rw [List.nil_append] at hC; rw [← hC]; simp, h1, h2, h3⟩
    | cons y C =>
      rw [List.cons_append, List.cons.injEq] at hC
      obtain ⟨rfl, hC⟩ := hC
      rcases List.append_eq_append_iff.1 hC with ⟨D, rfl, hD⟩ | ⟨D, rfl, hD⟩
      · exact ⟨P, x, S, D ++ w :: B, by simp, h1, h2, h3⟩
      · by_cases hn : D = []
        · subst hn
          rw [List.append_nil] at h1 h2 h3
          exact ⟨P, x, C, w :: B, by simp, h1, h2, h3⟩
        · subst hD
          refine ⟨P, x, C ++ w :: D, Q, by simp, by simp, linked_ins (fun y hy => hB y (by simp [hy])) C h2 hn, ?_⟩
          have := endOf_ins (w := w) (B := D) C (e := x.f2 + x.f3)
          omega
theorem insR_split (x : S49) : ∀ R : List S49, ∃ A B, R = A ++ B ∧ insR x R = A ++ x :: B ∧ ∀ y ∈ A, wlt x y = true
  | [] => ⟨[], [], rfl, rfl, by simp⟩
  | y :: ys => by
    by_cases hw : wlt x y = true
    · obtain ⟨A, B, e1, e2, e3⟩ := insR_split x ys
      refine ⟨y :: A, B, by rw [e1]; rfl, by rw [insR, if_pos hw, e2]; rfl, fun z hz => ?_⟩
      rcases List.mem_cons.1 hz with rfl | hz
      · exact hw
      · exact e3 z hz
    · exact ⟨[], y :: ys, rfl, by rw [insR, if_neg hw]; rfl, by simp⟩
theorem Wit.srt_snoc {gap a : Int} {xs : List S49} (h : Wit gap a (srt xs)) (w : S49) : Wit gap a (srt (xs ++ [w])) := by
  unfold srt at h ⊢
  rw [List.foldl_append]
  generalize xs.foldl (fun R x => insR x R) [] = R at h ⊢
  obtain ⟨A, B, e1, e2, e3⟩ := insR_split w R
  show Wit gap a (insR w R).reverse
  rw [e2, List.reverse_append, List.reverse_cons, List.append_assoc]
  rw [e1, List.reverse_append] at h
  refine Wit.ins (fun y hy => ?_) h
  have := e3 y (List.mem_reverse.1 hy)
  rw [wlt_spec] at this
  omega
theorem Wit.srt_app {gap a : Int} {xs : List S49} (h : Wit gap a (srt xs)) : ∀ R : List S49, Wit gap a (srt (xs ++ R.reverse))
  | [] => by simpa using h
  | w :: R => by
    rw [List.reverse_cons, ← List.append_assoc]
    exact (Wit.srt_app h R).srt_snoc w
theorem srt_asc' (xs : List S49) : (srt xs).Pairwise (fun y z => y.f2 ≤ z.f2) := by
  have := srt_dsc xs
  unfold Dsc at this
  rw [List.pairwise_reverse] at this
  refine this.imp (fun {a b} h => ?_)
  rw [wlt_no] at h
  omega
theorem longN_pos {l : List S25} {a : Int} : 0 < longN l a ↔ ∃ c ∈ l, lng a c := by
  unfold longN lng
  rw [List.length_pos_iff_exists_mem]
  constructor
  · rintro ⟨c, hc⟩
    rw [List.mem_filter] at hc
    simp only [Bool.and_eq_true, decide_eq_true_eq] at hc
    exact ⟨c, hc.1, hc.2⟩
  · rintro ⟨c, hc, h1, h2⟩
    exact ⟨c, List.mem_filter.2 ⟨hc, by simp only [Bool.and_eq_true, decide_eq_true_eq]; exact ⟨h1, h2⟩⟩⟩
theorem blocks_grow {g0 g1 g2 gap a : Int} {l m : List S49} {d : Int} (h : 0 < longN (blocksS g0 g1 g2 l d gap) a) : 0 < longN (blocksS g0 g1 g2 (l ++ m) d gap) a := by
  rw [longN_pos] at h ⊢
  unfold blocksS at h ⊢
  split
  · rename_i hg
    rw [if_pos hg] at h
    obtain ⟨c, hc, hl⟩ := h
    have hw := blk_wit hc hl
    have := Wit.srt_app hw (m.filter (onD g0 g1 g2 d.toNat)).reverse
    rw [List.reverse_reverse, ← List.filter_append] at this
    exact wit_blk (srt_asc' _) this
  · rename_i hg
    rw [if_neg hg] at h
    obtain ⟨c, hc, _⟩ := h
    cases hc
end Go.Proofs.Ytlfnpakpkniipaa.Q
