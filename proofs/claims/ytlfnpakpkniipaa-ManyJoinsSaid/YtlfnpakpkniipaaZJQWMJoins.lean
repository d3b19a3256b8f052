/-
Words and contracts for the claim: what the walk of its row uses.
-/
import Derived.Test.YtlfnpakpkniipaaZJQMSum
import Derived.Test.YtlfnpakpkniipaaZJQx0
import Derived.Test.YtlfnpakpkniipaaZJQx2
import Derived.Test.YtlfnpakpkniipaaZJQx5
import Derived.Test.YtlfnpakpkniipaaZJQx6
import Derived.Test.YtlfnpakpkniipaaZJQx25
import Derived.Test.YtlfnpakpkniipaaZJQx26
set_option linter.unusedVariables false
set_option linter.unusedSimpArgs false
namespace Go.Proofs.Ytlfnpakpkniipaa.Q
open Go.RowKit Go.IntWalk Go.Proofs.YtlfnpakpkniipaaW.PrintWords Go.Proofs.YtlfnpakpkniipaaW.PrintLast Go.Proofs.YtlfnpakpkniipaaW.PrintMore Go.Proofs.YtlfnpakpkniipaaH
theorem insR_desc (x : S49) : ∀ R : List S49, R.Pairwise (fun y z => z.f2 ≤ y.f2) → (insR x R).Pairwise (fun y z => z.f2 ≤ y.f2)
  | [], h => by simp [insR]
  | y :: ys, h => by
    rw [List.pairwise_cons] at h
    unfold insR
    by_cases hw : wlt x y = true
    · rw [if_pos hw, List.pairwise_cons]
      refine ⟨fun z hz => ?_, insR_desc x ys h.2⟩
      have hxy : x.f2 ≤ y.f2 := by
        unfold wlt at hw
        simp only [Bool.or_eq_true, Bool.and_eq_true, decide_eq_true_eq] at hw
        omega
      rcases mem_insR.1 hz with rfl | hz
      · exact hxy
      · exact h.1 z hz
    · rw [if_neg hw, List.pairwise_cons, List.pairwise_cons]
      have hyx : y.f2 ≤ x.f2 := by
        unfold wlt at hw
        simp only [Bool.or_eq_true, Bool.and_eq_true, decide_eq_true_eq, not_or, not_and] at hw
        omega
      refine ⟨fun z hz => ?_, h⟩
      rcases List.mem_cons.1 hz with rfl | hz
      · exact hyx
      · have := h.1 z hz; omega
theorem foldR_desc : ∀ (ys R : List S49), R.Pairwise (fun y z => z.f2 ≤ y.f2) → (ys.foldl (fun R x => insR x R) R).Pairwise (fun y z => z.f2 ≤ y.f2)
  | [], R, h => h
  | y :: ys, R, h => foldR_desc ys (insR y R) (insR_desc y R h)
theorem srt_asc (xs : List S49) : (srt xs).Pairwise (fun y z => y.f2 ≤ z.f2) := by
  unfold srt
  rw [List.pairwise_reverse]
  exact foldR_desc xs [] List.Pairwise.nil
def sum1 (l : List S25) : Int := (l.map (fun b => b.f1)).sum
def sum0 (l : List S25) : Int := (l.map (fun b => b.f0)).sum
theorem bstep_sum1 (gap : Int) (s : List S25 × Int × Int) (w : S49) : sum1 (bstep gap s w).1 = sum1 s.1 + 1 := by
  obtain ⟨R, f, e⟩ := s
  cases R with
  | nil => simp [bstep, sum1]
  | cons b R =>
    unfold bstep sum1
    simp only
    split
    · simp; omega
    · simp; omega
theorem fold_sum1 (gap : Int) : ∀ (xs : List S49) (s : List S25 × Int × Int), sum1 (xs.foldl (bstep gap) s).1 = sum1 s.1 + xs.length
  | [], s => by simp
  | x :: xs, s => by rw [List.foldl_cons, fold_sum1 gap xs, bstep_sum1, List.length_cons]; omega
theorem sum_rev (l : List Int) : l.reverse.sum = l.sum := by
  induction l with
  | nil => rfl
  | cons x l ih => rw [List.reverse_cons, List.sum_append, ih, List.sum_cons]; simp; omega
theorem sum1_rev (l : List S25) : sum1 l.reverse = sum1 l := by unfold sum1; rw [List.map_reverse, sum_rev]
theorem sum0_rev (l : List S25) : sum0 l.reverse = sum0 l := by unfold sum0; rw [List.map_reverse, sum_rev]
def covers (xs : List S49) (s : Nat) : Bool := xs.any (fun x => decide (x.f2 ≤ (s : Int) ∧ (s : Int) < x.f2 + x.f3))
def covN (G : Nat) (xs : List S49) : Nat := ((List.range G).filter (covers xs)).length
theorem count_or (p q : Nat → Bool) : ∀ l : List Nat, (l.filter (fun s => p s || q s)).length ≤ (l.filter p).length + (l.filter q).length
  | [] => by simp
  | x :: l => by
    have := count_or p q l
    rw [List.filter_cons, List.filter_cons, List.filter_cons]
    cases p x <;> cases q x <;> simp <;> omega
theorem count_mono {p q : Nat → Bool} (h : ∀ s, p s = true → q s = true) : ∀ l : List Nat, (l.filter p).length ≤ (l.filter q).length
  | [] => by simp
  | x :: l => by
    have := count_mono h l
    have hx := h x
    rw [List.filter_cons, List.filter_cons]
    cases hp : p x <;> cases hq : q x <;> simp <;> first | omega | (rw [hp, hq] at hx; simp at hx)
theorem count_range (a b : Int) (ha : 0 ≤ a) (hab : a ≤ b) : ∀ G : Nat, (((List.range G).filter (fun s : Nat => decide (a ≤ (s : Int) ∧ (s : Int) < b))).length : Int) ≤ if (G : Int) ≤ a then 0 else if (G : Int) ≤ b then G - a else b - a
  | 0 => by simp; split <;> first | omega | (split <;> omega)
  | G + 1 => by
    have ih := count_range a b ha hab G
    rw [List.range_succ, List.filter_append, List.length_append]
    by_cases h : a ≤ (G : Int) ∧ (G : Int) < b
    · rw [List.filter_cons, if_pos (by simpa using h)]
      simp only [List.filter_nil, List.length_cons, List.length_nil]
      split at ih <;> split <;> first | omega | (split at ih <;> split <;> omega) | (split <;> omega) | (split at ih <;> omega)
    · rw [List.filter_cons, if_neg (by simpa using h)]
      simp only [List.filter_nil, List.length_nil]
      split at ih <;> split <;> first | omega | (split at ih <;> split <;> omega) | (split <;> omega) | (split at ih <;> omega)
theorem count_range' (a b : Int) (ha : 0 ≤ a) (hab : a ≤ b) (G : Nat) : (((List.range G).filter (fun s : Nat => decide (a ≤ (s : Int) ∧ (s : Int) < b))).length : Int) ≤ b - a := by
  have := count_range a b ha hab G
  split at this
  · omega
  split at this
  · omega
  · omega
def JOk (G : Nat) (pre : List S49) (s : List S25 × Int × Int) : Prop :=
  match s with
  | ([], _, _) => pre = []
  | (b :: R, f, e) => ∃ old cur, pre = old ++ cur ∧ (covN G old : Int) ≤ sum0 R ∧ b.f0 = e - f ∧ 0 ≤ f ∧ f ≤ e ∧ e ≤ 96 ∧ (∀ x ∈ cur, f ≤ x.f2 ∧ x.f2 + x.f3 ≤ e)
theorem JOk.cov {G : Nat} {pre : List S49} {s : List S25 × Int × Int} (h : JOk G pre s) : (covN G pre : Int) ≤ sum0 s.1 := by
  obtain ⟨R, f, e⟩ := s
  cases R with
  | nil =>
    obtain rfl : pre = [] := h
    simp [covN, covers, sum0]
  | cons b R =>
    obtain ⟨old, cur, rfl, h1, h2, h3, h4, h5, h6⟩ := h
    have q1 : covN G (old ++ cur) ≤ covN G old + ((List.range G).filter (fun s : Nat => decide (f ≤ (s : Int) ∧ (s : Int) < e))).length := by
      unfold covN
      refine Nat.le_trans (count_mono (q := fun s => covers old s || decide (f ≤ (s : Int) ∧ (s : Int) < e)) (fun s hs => ?_) _) (count_or _ _ _)
      unfold covers at hs ⊢
      rw [List.any_append, Bool.or_eq_true] at hs
      rw [Bool.or_eq_true]
      rcases hs with hs | hs
      · exact .inl hs
      · rw [List.any_eq_true] at hs
        obtain ⟨x, hx, hs⟩ := hs
        have := h6 x hx
        rw [decide_eq_true_eq] at hs
        exact .inr (by rw [decide_eq_true_eq]; omega)
    have q2 := count_range' f e h3 h4 G
    have q3 : sum0 (b :: R) = b.f0 + sum0 R := by simp [sum0]
    show (covN G (old ++ cur) : Int) ≤ sum0 (b :: R)
    rw [q3]
    omega
theorem JOk.step {G : Nat} {gap : Int} {pre : List S49} {s : List S25 × Int × Int} (h : JOk G pre s) {w : S49} (hw : WTame w) (hs : ∀ x ∈ pre, x.f2 ≤ w.f2) (hf : s.1 ≠ [] → s.2.1 ≤ w.f2) : JOk G (pre ++ [w]) (bstep gap s w) := by
  have hc := h.cov
  obtain ⟨R, f, e⟩ := s
  obtain ⟨w1, w2, w3⟩ := hw
  cases R with
  | nil =>
    refine ⟨[], [w], by obtain rfl : pre = [] := h; rfl, by simp [covN, covers, sum0], by show w.f3 = w.f2 + w.f3 - w.f2; omega, w1, by show w.f2 ≤ w.f2 + w.f3; omega, w3, ?_⟩
    intro x hx
    rw [List.mem_singleton] at hx
    subst hx
    exact ⟨Int.le_refl _, Int.le_refl _⟩
  | cons b R =>
    unfold bstep
    simp only
    by_cases hq : w.f2 - e > gap
    · rw [if_pos hq]
      refine ⟨pre, [w], rfl, hc, by show w.f3 = w.f2 + w.f3 - w.f2; omega, w1, by show w.f2 ≤ w.f2 + w.f3; omega, w3, ?_⟩
      intro x hx
      rw [List.mem_singleton] at hx
      subst hx
      exact ⟨Int.le_refl _, Int.le_refl _⟩
    · rw [if_neg hq]
      obtain ⟨old, cur, rfl, h1, h2, h3, h4, h5, h6⟩ := h
      have m1 := le_mx e (w.f2 + w.f3)
      have m2 := le_mx' e (w.f2 + w.f3)
      have m3 := mx_le (c := 96) h5 w3
      have hf' : f ≤ w.f2 := hf (by simp)
      refine ⟨old, cur ++ [w], by simp, h1, rfl, h3, by omega, m3, ?_⟩
      intro x hx
      rcases List.mem_append.1 hx with hx | hx
      · have := h6 x hx; omega
      · rw [List.mem_singleton] at hx
        subst hx
        omega
theorem bstep_from {gap : Int} {s : List S25 × Int × Int} {w : S49} : (bstep gap s w).1 ≠ [] ∧ ((bstep gap s w).2.1 = w.f2 ∨ s.1 ≠ [] ∧ (bstep gap s w).2.1 = s.2.1) := by
  obtain ⟨R, f, e⟩ := s
  cases R with
  | nil => exact ⟨by simp [bstep], .inl rfl⟩
  | cons b R =>
    unfold bstep
    simp only
    split
    · exact ⟨by simp, .inl rfl⟩
    · exact ⟨by simp, .inr ⟨by simp, rfl⟩⟩
theorem fold_cov {G : Nat} {gap : Int} : ∀ (xs pre : List S49) (s : List S25 × Int × Int), JOk G pre s → (∀ x ∈ xs, WTame x) → (pre ++ xs).Pairwise (fun y z => y.f2 ≤ z.f2) → (s.1 ≠ [] → ∀ x ∈ xs, s.2.1 ≤ x.f2) → (covN G (pre ++ xs) : Int) ≤ sum0 (xs.foldl (bstep gap) s).1
  | [], pre, s, h, ht, hp, hf => by
    rw [List.append_nil]
    exact h.cov
  | x :: xs, pre, s, h, ht, hp, hf => by
    have hp' := List.pairwise_append.1 hp
    have hpx := List.pairwise_cons.1 hp'.2.1
    have hst := h.step (gap := gap) (ht x (by simp)) (fun y hy => hp'.2.2 y hy x (by simp)) (fun hh => hf hh x (by simp))
    have := fold_cov (gap := gap) xs (pre ++ [x]) (bstep gap s x) hst (fun y hy => ht y (by simp [hy])) (by simpa using hp) (fun _ y hy => by
      rcases (bstep_from (gap := gap) (s := s) (w := x)).2 with h1 | ⟨h1, h2⟩
      · rw [h1]; exact hpx.1 y hy
      · rw [h2]; exact hf h1 y (by simp [hy]))
    rw [List.foldl_cons]
    simpa using this
theorem fold_gap {g h : Int} (hgh : g ≤ h) : ∀ (xs : List S49) (s t : List S25 × Int × Int), (s.1 = [] ↔ t.1 = []) → t.1.length ≤ s.1.length → (s.1 ≠ [] → s.2.2 ≤ t.2.2) → (xs.foldl (bstep h) t).1.length ≤ (xs.foldl (bstep g) s).1.length
  | [], s, t, h0, h1, h2 => h1
  | x :: xs, s, t, h0, h1, h2 => by
    rw [List.foldl_cons, List.foldl_cons]
    obtain ⟨R, f, e⟩ := s
    obtain ⟨R', f', e'⟩ := t
    simp only at h0 h1 h2
    cases R with
    | nil =>
      obtain rfl : R' = [] := h0.1 rfl
      exact fold_gap hgh xs _ _ (by simp [bstep]) (by simp [bstep]) (fun _ => by simp [bstep])
    | cons b R =>
      cases R' with
      | nil => exact absurd (h0.2 rfl) (by simp)
      | cons b' R' =>
        have he := h2 (by simp)
        simp only [List.length_cons] at h1
        refine fold_gap hgh xs _ _ ?_ ?_ ?_
        · exact ⟨fun hh => absurd hh bstep_from.1, fun hh => absurd hh bstep_from.1⟩
        · unfold bstep
          simp only
          split <;> split <;> simp <;> omega
        · intro _
          unfold bstep
          simp only
          have m1 := le_mx e' (x.f2 + x.f3)
          have m2 := le_mx' e' (x.f2 + x.f3)
          split <;> split
          · exact Int.le_refl _
          · exact m2
          · show mx e (x.f2 + x.f3) ≤ x.f2 + x.f3
            omega
          · show mx e (x.f2 + x.f3) ≤ mx e' (x.f2 + x.f3)
            exact mx_le (by omega) m2
theorem fold_one : ∀ (xs : List S49) (s : List S25 × Int × Int), (∀ x ∈ xs, WTame x) → s.1.length ≤ 1 → 0 ≤ s.2.2 → (xs.foldl (bstep 96) s).1.length ≤ 1
  | [], s, ht, h1, h2 => h1
  | x :: xs, s, ht, h1, h2 => by
    rw [List.foldl_cons]
    obtain ⟨w1, w2, w3⟩ := ht x (by simp)
    obtain ⟨R, f, e⟩ := s
    simp only at h1 h2
    refine fold_one xs _ (fun y hy => ht y (by simp [hy])) ?_ ?_
    · cases R with
      | nil => simp [bstep]
      | cons b R =>
        unfold bstep
        simp only
        rw [if_neg (by omega)]
        simpa using h1
    · cases R with
      | nil => show 0 ≤ x.f2 + x.f3; omega
      | cons b R =>
        unfold bstep
        simp only
        rw [if_neg (by omega)]
        have := le_mx e (x.f2 + x.f3)
        show 0 ≤ mx e (x.f2 + x.f3)
        omega
theorem blocks_one {g0 g1 g2 : Int} {l : List S49} {d : Nat} (hg : GridOk g0 g1 g2) (hd : (d : Int) < g0 * g1) : ((blocksS g0 g1 g2 l (d : Int) 96).length : Int) = mn ((l.filter (onD g0 g1 g2 d)).length : Int) 1 := by
  unfold blocksS blk
  rw [if_pos ⟨hg, by omega, hd⟩, Int.toNat_natCast, mx_pos (show (0 : Int) ≤ 96 by omega), List.length_reverse]
  have h1 := fold_one (srt (l.filter (onD g0 g1 g2 d))) ([], 0, 0) flt_tame (by simp) (by simp)
  have h2 := (foldB_ok 96 (srt (l.filter (onD g0 g1 g2 d))) 0 ([], 0, 0) flt_tame BOk.start).1
  rw [Nat.zero_add, srt_length] at h2
  have h3 : ((srt (l.filter (onD g0 g1 g2 d))).foldl (bstep 96) ([], 0, 0)).1.length = 0 ↔ (l.filter (onD g0 g1 g2 d)).length = 0 := by rw [← h2, List.length_eq_zero_iff]
  unfold mn
  split <;> omega
theorem blocks_sum1 {g0 g1 g2 gap : Int} {l : List S49} {d : Nat} (hg : GridOk g0 g1 g2) (hd : (d : Int) < g0 * g1) : sum1 (blocksS g0 g1 g2 l (d : Int) gap) = ((l.filter (onD g0 g1 g2 d)).length : Int) := by
  unfold blocksS blk
  rw [if_pos ⟨hg, by omega, hd⟩, Int.toNat_natCast, sum1_rev, fold_sum1, srt_length]
  simp [sum1]
theorem blocks_gap {g0 g1 g2 gap : Int} {l : List S49} {day : Int} : (blocksS g0 g1 g2 l day (gap + 1)).length ≤ (blocksS g0 g1 g2 l day gap).length := by
  unfold blocksS blk
  split
  · rw [List.length_reverse, List.length_reverse]
    exact fold_gap (by unfold mx; split <;> split <;> omega) _ _ _ (by simp) (by simp) (by simp)
  · simp
theorem blocks_cov {g0 g1 g2 gap : Int} {l : List S49} {d : Nat} (hg : GridOk g0 g1 g2) (hd : (d : Int) < g0 * g1) : (busyN g0 g1 g2 l d : Int) ≤ sum0 (blocksS g0 g1 g2 l (d : Int) gap) := by
  unfold blocksS blk
  rw [if_pos ⟨hg, by omega, hd⟩, Int.toNat_natCast, sum0_rev]
  have h := fold_cov (G := g2.toNat) (gap := mx 0 gap) (srt (l.filter (onD g0 g1 g2 d))) [] ([], 0, 0) rfl flt_tame (srt_asc _) (by simp)
  have e : busyN g0 g1 g2 l d ≤ covN g2.toNat ([] ++ srt (l.filter (onD g0 g1 g2 d))) := by
    unfold busyN covN
    refine count_mono (fun s hs => ?_) _
    unfold inAt at hs
    unfold covers
    rw [List.any_eq_true] at hs ⊢
    obtain ⟨x, hx, hs⟩ := hs
    rw [Bool.and_eq_true] at hs
    exact ⟨x, by rw [List.nil_append, mem_srt, List.mem_filter]; exact ⟨hx, hs.1⟩, hs.2⟩
  omega
theorem tame_w {g0 g1 g2 : Int} {x : S49} (h : wok g0 g1 g2 x = true) (g : Int) : when_tame.f x.f0 x.f1 x.f2 x.f3 = some true := by
  have := wok_grid h
  rw [when_tame_eq, decide_eq_true (by omega)]
theorem and_pow (n q : Nat) : n &&& 2 ^ q = (n.testBit q).toNat * 2 ^ q := by
  refine Nat.eq_of_testBit_eq (fun i => ?_)
  rw [Nat.testBit_and, Nat.testBit_two_pow]
  cases h : n.testBit q with
  | true =>
    rw [show true.toNat * 2 ^ q = 2 ^ q by simp, Nat.testBit_two_pow]
    by_cases hq : q = i
    · subst hq; simp [h]
    · simp [hq]
  | false =>
    rw [show false.toNat * 2 ^ q = 0 by simp, Nat.zero_testBit]
    by_cases hq : q = i
    · subst hq; simp [h]
    · simp [hq]
theorem Meet_day {g0 g1 g2 : Int} {x : S49} (hx : ok49 x) (h : wok g0 g1 g2 x = true) {q r : Nat} (hq : q ≤ 31) (hr : r ≤ 7) : when_Meet.f x.f0 x.f1 x.f2 x.f3 ((2 ^ q : Nat) : Int) ((2 ^ r : Nat) : Int) 0 96 = some (x.f0.toNat.testBit q && x.f1.toNat.testBit r) := by
  have hb0 := wf_u32 hx.1
  have hb1 := wf_u8 hx.2.1
  have hw := wok_grid h
  obtain ⟨n0, e0⟩ := Int.eq_ofNat_of_zero_le hb0.1
  obtain ⟨n1, e1⟩ := Int.eq_ofNat_of_zero_le hb1.1
  have hq2 : (2 : Nat) ^ q < 2 ^ 32 := Nat.pow_lt_pow_right (by omega) (by omega)
  have hr2 : (2 : Nat) ^ r < 2 ^ 8 := Nat.pow_lt_pow_right (by omega) (by omega)
  have a0 : Go.bits .and .u32 x.f0 ((2 ^ q : Nat) : Int) = (((x.f0.toNat.testBit q).toNat * 2 ^ q : Nat) : Int) := by
    rw [e0, and_nat (k := .u32) (by show n0 < 2 ^ 32; omega) hq2 rfl, and_pow, Int.toNat_natCast]
  have a1 : Go.bits .and .u8 x.f1 ((2 ^ r : Nat) : Int) = (((x.f1.toNat.testBit r).toNat * 2 ^ r : Nat) : Int) := by
    rw [e1, and_nat (k := .u8) (by show n1 < 2 ^ 8; omega) hr2 rfl, and_pow, Int.toNat_natCast]
  have hp : 0 < 2 ^ q := Nat.pow_pos (by omega)
  have hp' : 0 < 2 ^ r := Nat.pow_pos (by omega)
  unfold when_Meet.f when_Both.f when_SameDay.f
  rw [tame_w h 0, Option.bind_some, if_pos rfl, when_tame_eq, decide_eq_true (by omega), Option.bind_some, if_pos rfl, a0, a1]
  cases q0 : x.f0.toNat.testBit q with
  | false => simp
  | true =>
    rw [if_neg (by rw [show true.toNat * 2 ^ q = 2 ^ q by simp]; omega)]
    cases q1 : x.f1.toNat.testBit r with
    | false => simp
    | true =>
      rw [Option.bind_some, if_pos (by rw [show true.toNat * 2 ^ r = 2 ^ r by simp, bne_iff_ne]; omega)]
      have m1 : mx x.f2 0 = x.f2 := by unfold mx; split <;> omega
      have m2 : mn (wrap64 (x.f2 + x.f3)) (wrap64 (0 + 96)) = x.f2 + x.f3 := by
        rw [wrap64_in (x.f2 + x.f3) (by omega), wrap64_in (0 + 96) (by omega)]
        unfold mn; split <;> omega
      rw [m1, m2, if_neg (by omega)]
      rfl
theorem shl_one {q : Nat} (hq : q ≤ 31) : shl .u32 1 (q : Int) = ((2 ^ q : Nat) : Int) := by
  have : ∀ q : Fin 32, shl .u32 1 (((q : Nat) : Nat) : Int) = ((2 ^ (q : Nat) : Nat) : Int) := by decide +kernel
  exact this ⟨q, by omega⟩
theorem shl_one8 {q : Nat} (hq : q ≤ 7) : shl .u8 1 (q : Int) = ((2 ^ q : Nat) : Int) := by
  have : ∀ q : Fin 8, shl .u8 1 (((q : Nat) : Nat) : Int) = ((2 ^ (q : Nat) : Nat) : Int) := by decide +kernel
  exact this ⟨q, by omega⟩
theorem joins_l1 {day : Int} {A B C : List S25} {busy : List Int} {n : Int} (hA : A.length < 1000000) (hb : ∀ b ∈ A, 0 ≤ b.f1 ∧ b.f1 ≤ 1000000 ∧ 0 ≤ b.f0 ∧ b.f0 ≤ 96)
    (h1 : sum1 A = n) (h2 : 0 ≤ day) (h3 : day < (busy.length : Int)) (h4 : sum0 A ≥ rd busy day) (h5 : (B.length : Int) ≤ (A.length : Int)) (h6 : (C.length : Int) = mn n 1) : ∀ (xs pre : List S25) (s1 s0 : Int), A = pre ++ xs → s1 = sum1 pre → s0 = sum0 pre → 0 ≤ s1 → s1 ≤ 1000000 * pre.length → 0 ≤ s0 → s0 ≤ 96 * pre.length →
    Ev (fun k => horariumlaw16_ManyJoins.l1 k day A B C busy n s1 s0 (pre.length : Int)) true
  | [], pre, s1, s0, h, e1, e0, b1, b2, b3, b4 => by
    have hpl : pre = A := by simp [h]
    refine Ev.step (fun k => ?_) (Ev.bind heads_ev (Ev.now _))
    rw [horariumlaw16_ManyJoins.l1, if_neg (by simp [h]), if_pos (by rw [e1, hpl, h1]), if_pos h2, if_pos h3, if_pos (by rw [e0, hpl]; exact h4), if_pos h5, if_pos h6]
  | x :: xs, pre, s1, s0, h, e1, e0, b1, b2, b3, b4 => by
    have hlen : A.length = pre.length + (xs.length + 1) := by simp [h]
    have hx := rdB_mid h
    have hbx := hb x (by simp [h])
    have hs : ((pre ++ [x]).length : Int) = (pre.length : Int) + 1 := by simp
    have hsn : (pre ++ [x]).length = pre.length + 1 := by simp
    refine Ev.step (f := fun k => horariumlaw16_ManyJoins.l1 k day A B C busy n (s1 + x.f1) (s0 + x.f0) ((pre ++ [x]).length : Int)) (fun k => ?_) (joins_l1 hA hb h1 h2 h3 h4 h5 h6 xs (pre ++ [x]) _ _ (by simp [h]) (by rw [e1]; simp [sum1]) (by rw [e0]; simp [sum0]) (by omega) (by omega) (by omega) (by omega))
    rw [horariumlaw16_ManyJoins.l1, if_pos (by omega), if_pos (by omega), hx, wrap64_in (s1 + x.f1) (by omega), wrap64_in (s0 + x.f0) (by omega), wrap64_in ((pre.length : Int) + 1) (by omega), hs]
theorem joins_l0 {l : List S49} {g0 g1 g2 : Int} {d : Nat} {A B C : List S25} {busy : List Int} (hl : l.length < 1000) (hk : ∀ x ∈ l, ok49 x) (hg : GridOk g0 g1 g2) (hd : (d : Int) < g0 * g1)
    (hr : Ev (fun k => horariumlaw16_ManyJoins.l1 k (d : Int) A B C busy ((l.filter (onD g0 g1 g2 d)).length : Int) 0 0 0) true) : ∀ (xs pre : List S49), l = pre ++ xs →
    Ev (fun k => horariumlaw16_ManyJoins.l0 k l (d : Int) A B C busy ((pre.filter (onD g0 g1 g2 d)).length : Int) (pre.length : Int) g0 g1 g2) true
  | [], pre, h => by
    have hpl : pre = l := by simp [h]
    refine Ev.step (fun k => ?_) hr
    rw [horariumlaw16_ManyJoins.l0, if_neg (by simp [h]), hpl]
  | x :: xs, pre, h => by
    obtain ⟨p1, p2, p3, p4, p5⟩ := day_parts hg hd
    have hlen : l.length = pre.length + (xs.length + 1) := by simp [h]
    have hx := rdW_mid h
    have hxk := hk x (by simp [h])
    have hs : ((pre ++ [x]).length : Int) = (pre.length : Int) + 1 := by simp
    have hfl : (pre.filter (onD g0 g1 g2 d)).length ≤ pre.length := List.length_filter_le _ _
    have ih := joins_l0 hl hk hg hd hr xs (pre ++ [x]) (by simp [h])
    have eq1 : IntKind.u64.wrap (Int.tmod ((d / g1.toNat : Nat) : Int) 32) = ((d / g1.toNat : Nat) : Int) := by
      generalize d / g1.toNat = z at *
      have : Int.tmod (z : Int) 32 = (z : Int) := by rw [Int.tmod_eq_emod_of_nonneg (by omega)]; omega
      rw [this]
      simp [IntKind.wrap, IntKind.bits, IntKind.signed]
      omega
    have eq2 : IntKind.u64.wrap (Int.tmod ((d % g1.toNat : Nat) : Int) 8) = ((d % g1.toNat : Nat) : Int) := by
      generalize d % g1.toNat = z at *
      have : Int.tmod (z : Int) 8 = (z : Int) := by rw [Int.tmod_eq_emod_of_nonneg (by omega)]; omega
      rw [this]
      simp [IntKind.wrap, IntKind.bits, IntKind.signed]
      omega
    refine Ev.step (fun k => ?_) ih
    rw [horariumlaw16_ManyJoins.l0, if_pos (by omega), if_pos (by omega), hx, right_eq hxk, Option.bind_some, p2, p3, eq1, eq2, wrap64_in ((pre.length : Int) + 1) (by omega), wrap64_in (((pre.filter (onD g0 g1 g2 d)).length : Int) + 1) (by omega), hs]
    rw [List.filter_append, List.length_append]
    cases hw : wok g0 g1 g2 x with
    | false =>
      have : onD g0 g1 g2 d x = false := by unfold onD; rw [hw]; rfl
      rw [if_neg (by simp)]
      simp [this]
    | true =>
      have e : onD g0 g1 g2 d x = (x.f0.toNat.testBit (d / g1.toNat) && x.f1.toNat.testBit (d % g1.toNat)) := by unfold onD; rw [hw, Bool.true_and]
      rw [if_pos rfl, if_neg p1, if_pos (Int.natCast_nonneg _), if_pos (Int.natCast_nonneg _), shl_one (by omega), shl_one8 (by omega), Meet_day hxk hw (by omega) (by omega), Option.bind_some, ← e]
      cases hq : onD g0 g1 g2 d x with
      | true => simp [hq]
      | false => simp [hq]
theorem ManyJoins_ev (a0 : S23) (a1 : List S49) (a2 a3 : Int) (w3 : (Lit.int .i8 a3).wf = true) (y1 : a1.length * 24 ≤ 140737488351232 ∧ ∀ z ∈ a1, ok49 z) : Ev (fun k => horariumlaw16_ManyJoins.f k a0.f0 a0.f1 a0.f2 a1 a2 a3) true := by
  have h3 : -128 ≤ a3 ∧ a3 ≤ 127 := by
    simp [Lit.wf, IntKind.min, IntKind.max, IntKind.bits, IntKind.signed] at w3
    omega
  unfold horariumlaw16_ManyJoins.f
  simp only [few_eq, Option.bind_some, decide_eq_true_eq]
  split
  rotate_left
  · exact Ev.bind heads_ev (Ev.now _)
  rename_i hf
  have hbl : ∀ gap, Ev (fun k => many_Blocks.f k a0.f0 a0.f1 a0.f2 a1 a2 gap) (blocksS a0.f0 a0.f1 a0.f2 a1 a2 gap) := fun gap => Blocks_ev y1 (fun d _ => few_flt hf _)
  rw [wrap64_in a3 (by omega), wrap64_in (a3 + 1) (by omega)]
  refine Ev.bind (hbl _) (Ev.bind (hbl _) (Ev.bind (hbl _) (Ev.bind (Busy_ev y1) ?_)))
  have none : ¬ (GridOk a0.f0 a0.f1 a0.f2 ∧ 0 ≤ a2 ∧ a2 < a0.f0 * a0.f1) → Ev (fun k => horariumlaw16_ManyJoins.j0 k a1 a2 (blocksS a0.f0 a0.f1 a0.f2 a1 a2 a3) (blocksS a0.f0 a0.f1 a0.f2 a1 a2 (a3 + 1)) (blocksS a0.f0 a0.f1 a0.f2 a1 a2 96) (busyS a0.f0 a0.f1 a0.f2 a1) true a0.f0 a0.f1 a0.f2) true := fun hn => by
    refine Ev.step (fun k => ?_) (Ev.bind heads_ev (Ev.now _))
    rw [horariumlaw16_ManyJoins.j0, if_pos rfl, if_pos (by unfold blocksS; rw [if_neg hn]; rfl)]
  by_cases h0 : a2 < 0
  · simp only [if_pos h0]
    exact none (fun h => by omega)
  simp only [if_neg h0]
  rw [busyS_len]
  by_cases h1 : a2 < (dayN a0.f0 a0.f1 a0.f2 : Int)
  rotate_left
  · rw [decide_eq_true (by omega)]
    refine none (fun h => h1 ?_)
    unfold dayN
    rw [if_pos h.1]
    omega
  rw [decide_eq_false (by omega)]
  obtain ⟨d, rfl⟩ := Int.eq_ofNat_of_zero_le (show 0 ≤ a2 by omega)
  have hdd : d < dayN a0.f0 a0.f1 a0.f2 := by omega
  have hg := dayN_pos hdd
  have hd := dayN_day hdd
  have hok := blocksS_ok (g0 := a0.f0) (g1 := a0.f1) (g2 := a0.f2) (day := (d : Int)) (gap := a3) (l := a1)
  refine Ev.step (f := fun k => horariumlaw16_ManyJoins.l0 k a1 (d : Int) (blocksS a0.f0 a0.f1 a0.f2 a1 (d : Int) a3) (blocksS a0.f0 a0.f1 a0.f2 a1 (d : Int) (a3 + 1)) (blocksS a0.f0 a0.f1 a0.f2 a1 (d : Int) 96) (busyS a0.f0 a0.f1 a0.f2 a1) 0 0 a0.f0 a0.f1 a0.f2) (fun k => by rw [horariumlaw16_ManyJoins.j0, if_neg (by simp)]) ?_
  refine joins_l0 (by omega) y1.2 hg hd ?_ a1 [] rfl
  refine joins_l1 (by omega) (fun b hb => by have := hok.2 b hb; omega) (blocks_sum1 hg hd) (by omega) (by rw [busyS_len]; exact h1) ?_ ?_ (blocks_one hg hd) _ [] 0 0 rfl rfl rfl (by omega) (by simp) (by omega) (by simp)
  · rw [busyS_rd hdd]
    exact blocks_cov hg hd
  · have := blocks_gap (g0 := a0.f0) (g1 := a0.f1) (g2 := a0.f2) (day := (d : Int)) (gap := a3) (l := a1)
    omega
theorem horariumlaw16_ManyJoins.walk (w : World) (a0 : S23) (cs0 : Array Value) (w0 : k23.K w a0 cs0.toList) (y0 : ok23 a0) (a1 : (List S49)) (A1 : Option Addr) (len1 cap1 : Nat) (w1 : (Kd.slice 49 k49).K w a1 [.slice A1 len1 cap1]) (y1 : (a1.length * 24 ≤ 140737488351232 ∧ ∀ z ∈ a1, ok49 z)) (a2 : Int) (w2 : (Lit.int .i64 a2).wf = true) (a3 : Int) (w3 : (Lit.int .i8 a3).wf = true) :
    Calls Try.prog 8 #[.agg cs0, .slice A1 len1 cap1, .int .i64 a2, .int .i8 a3] w fun e w' => e = .returned (.bool true) ∧ Below w.heap.size w w' := by
  obtain rfl := arr_of (k23_open w0)
  obtain ⟨_, _, e1, l1, g1⟩ := w1
  cases e1
  obtain ⟨k, hk⟩ := (ManyJoins_ev a0 a1 a2 a3 w3 y1).rounds
  refine (horariumlaw16_ManyJoins.calls k _ _ _ _ _ _ _ _ true (Aside0.mk rfl) w g1 l1 hk).mono ?_
  rintro e w' h
  exact h
end Go.Proofs.Ytlfnpakpkniipaa.Q
