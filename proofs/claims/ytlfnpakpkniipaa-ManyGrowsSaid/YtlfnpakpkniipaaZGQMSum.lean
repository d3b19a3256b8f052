/- Words for the claim. -/
import Derived.Test.YtlfnpakpkniipaaZGQMBusy
import Derived.Test.YtlfnpakpkniipaaZGQx6
import Derived.Test.YtlfnpakpkniipaaZGQx9
import Derived.Test.YtlfnpakpkniipaaZGQx10
set_option linter.unusedVariables false
set_option linter.unusedSimpArgs false
namespace Go.Proofs.Ytlfnpakpkniipaa.Q
open Go.RowKit Go.IntWalk Go.Proofs.YtlfnpakpkniipaaW.PrintWords Go.Proofs.YtlfnpakpkniipaaW.PrintLast Go.Proofs.YtlfnpakpkniipaaW.PrintMore Go.Proofs.YtlfnpakpkniipaaH
theorem foldB_ok (gap : Int) : ∀ (xs : List S49) (n : Nat) (s : List S25 × Int × Int), (∀ x ∈ xs, WTame x) → BOk n s → BOk (n + xs.length) (xs.foldl (bstep gap) s)
  | [], n, s, ht, hb => by simpa using hb
  | x :: xs, n, s, ht, hb => by
    rw [List.foldl_cons, List.length_cons, show n + (xs.length + 1) = (n + 1) + xs.length by omega]
    exact foldB_ok gap xs (n + 1) _ (fun y hy => ht y (by simp [hy])) (hb.step (ht x (by simp)) gap)
theorem blocksS_ok {g0 g1 g2 day gap : Int} {l : List S49} : (blocksS g0 g1 g2 l day gap).length ≤ l.length ∧ ∀ b ∈ blocksS g0 g1 g2 l day gap, 0 ≤ b.f1 ∧ b.f1 ≤ l.length ∧ 0 ≤ b.f0 ∧ b.f0 ≤ 96 := by
  unfold blocksS
  split
  · have h := foldB_ok (mx 0 gap) (srt (l.filter (onD g0 g1 g2 day.toNat))) 0 ([], 0, 0) flt_tame BOk.start
    have hl : (l.filter (onD g0 g1 g2 day.toNat)).length ≤ l.length := List.length_filter_le _ _
    rw [srt_length] at h
    unfold blk
    refine ⟨by rw [List.length_reverse]; have := h.2.1; omega, ?_⟩
    intro b hb
    rw [List.mem_reverse] at hb
    have := h.2.2.1 b hb
    omega
  · exact ⟨by simp, by simp⟩
theorem few_flt {l : List S49} (h : (l.length : Int) ≤ 12) (f : S49 → Bool) : (l.filter f).length < 40 := by
  have := List.length_filter_le f l
  omega
def longN (l : List S25) (a : Int) : Nat := (l.filter (fun b => decide (b.f1 ≥ 2) && decide (b.f0 > a))).length
def stepS (g0 g1 g2 : Int) (l : List S49) (k a b : Int) (d : Nat) : Int :=
  if k = 22 then mx 0 ((busyN g0 g1 g2 l d : Int) - a) else if k = 23 then mx 0 (((blocksS g0 g1 g2 l (d : Int) b).length : Int) - 1 - a) else if k = 24 then (longN (blocksS g0 g1 g2 l (d : Int) b) a : Int) else 0
def dayN (g0 g1 g2 : Int) : Nat := if GridOk g0 g1 g2 then (g0 * g1).toNat else 0
def overS (g0 g1 g2 : Int) (l : List S49) (k a b : Int) : Int :=
  if k = 21 then mx 0 ((daysN g0 g1 g2 l : Int) - mx 0 a) else ((List.range (dayN g0 g1 g2)).map (stepS g0 g1 g2 l k (mx 0 a) b)).sum
theorem dayN_le (g0 g1 g2 : Int) : dayN g0 g1 g2 ≤ 140 := by
  unfold dayN
  split
  · rename_i h
    unfold GridOk at h
    have h1 : g0 * g1 ≤ 20 * 7 := Int.mul_le_mul (by omega) (by omega) (by omega) (by omega)
    omega
  · omega
theorem busyN_le (g0 g1 g2 : Int) (l : List S49) (d : Nat) (hg : GridOk g0 g1 g2) : busyN g0 g1 g2 l d ≤ 96 := by
  unfold busyN
  unfold GridOk at hg
  have := List.length_filter_le (inAt g0 g1 g2 l d) (List.range g2.toNat)
  rw [List.length_range] at this
  omega
theorem mx0_bounds {n a M : Int} (hn : n ≤ M) (hM : 0 ≤ M) (ha : 0 ≤ a) : 0 ≤ mx 0 (n - a) ∧ mx 0 (n - a) ≤ M := by unfold mx; split <;> omega
theorem stepS_bounds {g0 g1 g2 : Int} {l : List S49} {k a b : Int} {d : Nat} (hg : GridOk g0 g1 g2) (ha : 0 ≤ a) (hl : l.length * 24 ≤ 140737488351232) : 0 ≤ stepS g0 g1 g2 l k a b d ∧ stepS g0 g1 g2 l k a b d ≤ 5864062014730 := by
  have h1 := busyN_le g0 g1 g2 l d hg
  have h2 := (blocksS_ok (g0 := g0) (g1 := g1) (g2 := g2) (day := (d : Int)) (gap := b) (l := l)).1
  have h3 : longN (blocksS g0 g1 g2 l (d : Int) b) a ≤ (blocksS g0 g1 g2 l (d : Int) b).length := List.length_filter_le _ _
  unfold stepS
  split
  · exact mx0_bounds (by omega) (by omega) ha
  split
  · exact mx0_bounds (by omega) (by omega) ha
  split
  · omega
  · omega
theorem sum_loop {g : Nat → Int → Int → Option Int} {D : Nat} {M : Int} {step : Nat → Int} (hM : 0 ≤ M) (hD : D ≤ 140) (hb : ∀ d, d < D → 0 ≤ step d ∧ step d ≤ M)
    (hs : ∀ (acc : Int) (d : Nat) (r : Int), d < D → 0 ≤ acc → acc ≤ 139 * M → Ev (fun k => g k (acc + step d) ((d + 1 : Nat) : Int)) r → Ev (fun k => g k acc (d : Int)) r)
    (he : ∀ acc : Int, Ev (fun k => g k acc (D : Int)) acc) (m : Nat) : ∀ (d : Nat) (acc : Int), d + m = D → 0 ≤ acc → acc ≤ d * M → Ev (fun k => g k acc (d : Int)) (acc + ((List.range' d m).map step).sum) := by
  induction m with
  | zero =>
    intro d acc h h0 h1
    obtain rfl : d = D := by omega
    simpa using he acc
  | succ m ih =>
    intro d acc h h0 h1
    have hbd := hb d (by omega)
    have h2 : (d : Int) * M ≤ 139 * M := Int.mul_le_mul_of_nonneg_right (by omega) hM
    have e : ((d + 1 : Nat) : Int) * M = d * M + M := by rw [Int.natCast_add, Int.add_mul]; simp
    refine hs acc d _ (by omega) h0 (by omega) ?_
    have := ih (d + 1) (acc + step d) (by omega) (by omega) (by omega)
    rw [List.range'_succ, List.map_cons, List.sum_cons, ← Int.add_assoc]
    exact this
theorem sum_loop' {g : Nat → Int → Int → Option Int} {D : Nat} {M : Int} {step : Nat → Int} (hM : 0 ≤ M) (hD : D ≤ 140) (hb : ∀ d, d < D → 0 ≤ step d ∧ step d ≤ M)
    (hs : ∀ (acc : Int) (d : Nat) (r : Int), d < D → 0 ≤ acc → acc ≤ 139 * M → Ev (fun k => g k (acc + step d) ((d + 1 : Nat) : Int)) r → Ev (fun k => g k acc (d : Int)) r)
    (he : ∀ acc : Int, Ev (fun k => g k acc (D : Int)) acc) : Ev (fun k => g k 0 0) ((List.range D).map step).sum := by
  have := sum_loop hM hD hb hs he D 0 0 (by omega) (by omega) (by simp)
  rw [Int.zero_add, ← List.range_eq_range'] at this
  exact this
theorem long_l0 {l : List S25} {a : Int} (hl : l.length < 9223372036854775807) : ∀ (xs pre : List S25) (c : Nat), l = pre ++ xs → c ≤ pre.length → Ev (fun k => many_long.l0 k a (c : Int) l (l.length : Int) (pre.length : Int)) ((c + longN xs a : Nat) : Int)
  | [], pre, c, h, hc => by
    refine Ev.step (f := fun _ => some (c : Int)) (fun k => ?_) (Ev.now _)
    rw [many_long.l0, if_neg (by simp [h])]
  | x :: xs, pre, c, h, hc => by
    have hlen : l.length = pre.length + (xs.length + 1) := by simp [h]
    have hx := rdB_mid h
    have hs : ((pre ++ [x]).length : Int) = (pre.length : Int) + 1 := by simp
    have hsn : (pre ++ [x]).length = pre.length + 1 := by simp
    have hc1 : ((c + 1 : Nat) : Int) = (c : Int) + 1 := rfl
    refine Ev.step (f := fun k => if (decide (x.f1 ≥ 2) && decide (x.f0 > a)) = true then many_long.l0 k a ((c + 1 : Nat) : Int) l (l.length : Int) ((pre ++ [x]).length : Int) else many_long.l0 k a (c : Int) l (l.length : Int) ((pre ++ [x]).length : Int)) (fun k => ?_) ?_
    · rw [many_long.l0, if_pos (by omega), if_pos (by omega), if_pos (by omega), hx, wrap64_in ((pre.length : Int) + 1) (by omega), wrap64_in ((c : Int) + 1) (by omega), hs, hc1]
      by_cases h1 : x.f1 ≥ 2
      · rw [if_pos h1]
        by_cases h2 : x.f0 > a
        · rw [if_pos h2, if_pos (by simp [h1, h2])]
        · rw [if_neg h2, if_neg (by simp [h2])]
      · rw [if_neg h1, if_neg (by simp [h1])]
    · cases hq : (decide (x.f1 ≥ 2) && decide (x.f0 > a)) with
      | true =>
        refine Ev.congr (fun _ => by rw [if_pos rfl]) ?_
        have := long_l0 (a := a) hl xs (pre ++ [x]) (c + 1) (by simp [h]) (by omega)
        have e : longN (x :: xs) a = longN xs a + 1 := by unfold longN; rw [List.filter_cons, if_pos hq]; rfl
        rw [show c + longN (x :: xs) a = c + 1 + longN xs a by omega]
        exact this
      | false =>
        refine Ev.congr (fun _ => by rw [if_neg (by simp)]) ?_
        have := long_l0 (a := a) hl xs (pre ++ [x]) c (by simp [h]) (by omega)
        have e : longN (x :: xs) a = longN xs a := by unfold longN; rw [List.filter_cons, if_neg (by rw [hq]; simp)]
        rw [e]
        exact this
theorem long_ev {l : List S25} {a : Int} (hl : l.length < 9223372036854775807) : Ev (fun k => many_long.f k l a) (longN l a : Int) := by
  unfold many_long.f
  have := long_l0 (a := a) hl l [] 0 rfl (by omega)
  rw [Nat.zero_add] at this
  exact this
theorem busyS_eq {g0 g1 g2 : Int} {l : List S49} : busyS g0 g1 g2 l = (List.range (dayN g0 g1 g2)).map (fun d => (busyN g0 g1 g2 l d : Int)) := by
  unfold busyS dayN
  split <;> rfl
theorem busyS_len {g0 g1 g2 : Int} {l : List S49} : (busyS g0 g1 g2 l).length = dayN g0 g1 g2 := by rw [busyS_eq]; simp
theorem busyS_rd {g0 g1 g2 : Int} {l : List S49} {d : Nat} (hd : d < dayN g0 g1 g2) : rd (busyS g0 g1 g2 l) (d : Int) = (busyN g0 g1 g2 l d : Int) := by
  unfold rd
  rw [busyS_eq, Int.toNat_natCast, List.getD_eq_getElem?_getD, List.getElem?_map, List.getElem?_range hd]
  rfl
theorem mx_nonneg (a : Int) : 0 ≤ mx 0 a := by unfold mx; split <;> omega
theorem mx_top {a : Int} (h : a ≤ 9223372036854775807) : mx 0 a ≤ 9223372036854775807 := by unfold mx; split <;> omega
theorem blocksS_gap (g0 g1 g2 : Int) (l : List S49) (day gap : Int) : blocksS g0 g1 g2 l day (mx 0 gap) = blocksS g0 g1 g2 l day gap := by
  unfold blocksS
  rw [mx_pos (mx_nonneg gap)]
theorem days_bad {g0 g1 g2 : Int} {l : List S49} (hg : ¬ GridOk g0 g1 g2) : daysN g0 g1 g2 l = 0 := by
  have : ∀ d, onDow g0 g1 g2 l d = false := fun d => by
    unfold onDow
    rw [List.any_eq_false]
    intro x hx
    unfold wok
    rw [decide_eq_false (fun h => hg h.1)]
    simp
  unfold daysN
  simp [this]
theorem Over_ev {l : List S49} {g0 g1 g2 k a b : Int} (hl : l.length * 24 ≤ 140737488351232 ∧ ∀ x ∈ l, ok49 x) (ha : a ≤ 9223372036854775807) (h20 : ∀ d : Nat, (d : Int) < g0 * g1 → (l.filter (onD g0 g1 g2 d)).length < 40) : Ev (fun n => many_Over.f n g0 g1 g2 k a b l) (overS g0 g1 g2 l k a b) := by
  have ha0 := mx_nonneg a
  have ha1 := mx_top ha
  have hD := dayN_le g0 g1 g2
  unfold many_Over.f overS
  simp only [when_RightGrid_eq, Option.bind_some, decide_eq_true_eq]
  by_cases hg : GridOk g0 g1 g2
  rotate_left
  · simp only [if_neg hg]
    have e : dayN g0 g1 g2 = 0 := by unfold dayN; rw [if_neg hg]
    rw [e, days_bad hg]
    by_cases h21 : k = 21
    · rw [if_pos h21]
      rw [show mx 0 (((0 : Nat) : Int) - mx 0 a) = 0 by unfold mx; split <;> split <;> omega]
      exact Ev.now _
    · rw [if_neg h21]
      exact Ev.now _
  simp only [if_pos hg]
  have hdn : ((dayN g0 g1 g2 : Nat) : Int) = g0 * g1 := by
    unfold dayN
    rw [if_pos hg]
    unfold GridOk at hg
    have h0 : 0 ≤ g0 * g1 := Int.mul_nonneg (by omega) (by omega)
    omega
  have hb : ∀ d, d < dayN g0 g1 g2 → 0 ≤ stepS g0 g1 g2 l k (mx 0 a) b d ∧ stepS g0 g1 g2 l k (mx 0 a) b d ≤ 5864062014730 := fun d _ => stepS_bounds hg ha0 hl.1
  by_cases h21 : k = 21
  · simp only [if_pos h21]
    refine Ev.bind (Days_ev hl) ?_
    have h7 : daysN g0 g1 g2 l ≤ 7 := by
      have ht : ∀ b : Bool, b.toNat ≤ 1 := fun b => by cases b <;> simp
      unfold daysN
      have := ht (onDow g0 g1 g2 l 0); have := ht (onDow g0 g1 g2 l 1); have := ht (onDow g0 g1 g2 l 2); have := ht (onDow g0 g1 g2 l 3); have := ht (onDow g0 g1 g2 l 4); have := ht (onDow g0 g1 g2 l 5); have := ht (onDow g0 g1 g2 l 6)
      omega
    rw [wrap64_in ((daysN g0 g1 g2 l : Int) - mx 0 a) (by omega)]
    exact Ev.now _
  simp only [if_neg h21]
  by_cases h22 : k = 22
  · simp only [if_pos h22]
    refine Ev.bind (Busy_ev hl) ?_
    rw [busyS_len]
    refine sum_loop' (g := fun n acc d => many_Over.l0 n (mx 0 a) acc (busyS g0 g1 g2 l) ((dayN g0 g1 g2 : Nat) : Int) d) (by omega) hD hb ?_ ?_
    · intro acc d r hd h0 h1 hr
      have hbd := hb d hd
      have hbn := busyN_le g0 g1 g2 l d hg
      refine Ev.step (fun n => ?_) hr
      have e : stepS g0 g1 g2 l k (mx 0 a) b d = mx 0 ((busyN g0 g1 g2 l d : Int) - mx 0 a) := by unfold stepS; rw [if_pos h22]
      rw [e] at hbd ⊢
      rw [many_Over.l0, if_pos (by omega), if_pos (by omega), if_pos (by rw [busyS_len]; omega), busyS_rd hd, wrap64_in ((busyN g0 g1 g2 l d : Int) - mx 0 a) (by omega), wrap64_in (acc + mx 0 ((busyN g0 g1 g2 l d : Int) - mx 0 a)) (by omega), wrap64_in ((d : Int) + 1) (by omega)]
      rfl
    · intro acc
      refine Ev.step (f := fun _ => some acc) (fun n => ?_) (Ev.now _)
      rw [many_Over.l0, if_neg (by omega)]
  simp only [if_neg h22]
  by_cases h23 : k = 23
  · simp only [if_pos h23, days_eq, Option.bind_some, if_pos hg, ← hdn]
    refine sum_loop' (g := fun n acc d => many_Over.l1 n (mx 0 a) (mx 0 b) l acc ((dayN g0 g1 g2 : Nat) : Int) d g0 g1 g2) (by omega) hD hb ?_ ?_
    · intro acc d r hd h0 h1 hr
      have hbd := hb d hd
      have hbl := (blocksS_ok (g0 := g0) (g1 := g1) (g2 := g2) (day := (d : Int)) (gap := b) (l := l)).1
      have e : stepS g0 g1 g2 l k (mx 0 a) b d = mx 0 (((blocksS g0 g1 g2 l (d : Int) b).length : Int) - 1 - mx 0 a) := by unfold stepS; rw [if_neg h22, if_pos h23]
      rw [e] at hbd
      refine Ev.step (f := fun n => (many_Blocks.f n g0 g1 g2 l (d : Int) (mx 0 b)).bind fun t => many_Over.l1 n (mx 0 a) (mx 0 b) l (wrap64 (acc + mx 0 (wrap64 (wrap64 ((t.length : Int) - 1) - mx 0 a)))) ((dayN g0 g1 g2 : Nat) : Int) ((d + 1 : Nat) : Int) g0 g1 g2) (fun n => ?_) (Ev.bind (Blocks_ev hl h20) ?_)
      · rw [many_Over.l1, if_pos (by omega), wrap64_in ((d : Int) + 1) (by omega)]
        rfl
      · rw [blocksS_gap, wrap64_in (((blocksS g0 g1 g2 l (d : Int) b).length : Int) - 1) (by omega), wrap64_in (((blocksS g0 g1 g2 l (d : Int) b).length : Int) - 1 - mx 0 a) (by omega), wrap64_in (acc + mx 0 (((blocksS g0 g1 g2 l (d : Int) b).length : Int) - 1 - mx 0 a)) (by omega)]
        rw [e] at hr
        exact hr
    · intro acc
      refine Ev.step (f := fun _ => some acc) (fun n => ?_) (Ev.now _)
      rw [many_Over.l1, if_neg (by omega)]
  simp only [if_neg h23]
  by_cases h24 : k = 24
  · simp only [if_pos h24, days_eq, Option.bind_some, if_pos hg, ← hdn]
    refine sum_loop' (g := fun n acc d => many_Over.l2 n (mx 0 a) (mx 0 b) l acc ((dayN g0 g1 g2 : Nat) : Int) d g0 g1 g2) (by omega) hD hb ?_ ?_
    · intro acc d r hd h0 h1 hr
      have hbd := hb d hd
      have hbl := (blocksS_ok (g0 := g0) (g1 := g1) (g2 := g2) (day := (d : Int)) (gap := b) (l := l)).1
      have e : stepS g0 g1 g2 l k (mx 0 a) b d = (longN (blocksS g0 g1 g2 l (d : Int) b) (mx 0 a) : Int) := by unfold stepS; rw [if_neg h22, if_neg h23, if_pos h24]
      rw [e] at hbd
      refine Ev.step (f := fun n => (many_Blocks.f n g0 g1 g2 l (d : Int) (mx 0 b)).bind fun t => (many_long.f n t (mx 0 a)).bind fun t2 => many_Over.l2 n (mx 0 a) (mx 0 b) l (wrap64 (acc + t2)) ((dayN g0 g1 g2 : Nat) : Int) ((d + 1 : Nat) : Int) g0 g1 g2) (fun n => ?_) (Ev.bind (Blocks_ev hl h20) ?_)
      · rw [many_Over.l2, if_pos (by omega), wrap64_in ((d : Int) + 1) (by omega)]
        rfl
      · rw [blocksS_gap]
        refine Ev.bind (long_ev (by omega)) ?_
        rw [wrap64_in (acc + (longN (blocksS g0 g1 g2 l (d : Int) b) (mx 0 a) : Int)) (by omega)]
        rw [e] at hr
        exact hr
    · intro acc
      refine Ev.step (f := fun _ => some acc) (fun n => ?_) (Ev.now _)
      rw [many_Over.l2, if_neg (by omega)]
  simp only [if_neg h24]
  have e : ((List.range (dayN g0 g1 g2)).map (stepS g0 g1 g2 l k (mx 0 a) b)).sum = 0 := by
    have : ∀ n, ((List.range n).map (stepS g0 g1 g2 l k (mx 0 a) b)).sum = 0 := by
      intro n
      induction n with
      | zero => rfl
      | succ n ih =>
        rw [List.range_succ, List.map_append, List.sum_append, ih]
        simp [stepS, h22, h23, h24]
    exact this _
  rw [e]
  exact Ev.now _
end Go.Proofs.Ytlfnpakpkniipaa.Q
