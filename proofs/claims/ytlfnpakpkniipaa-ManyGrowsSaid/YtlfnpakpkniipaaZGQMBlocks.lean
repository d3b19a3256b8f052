/- Words for the claim. -/
import Derived.Test.YtlfnpakpkniipaaZGQMDays
import Derived.Test.YtlfnpakpkniipaaZGQx4
import Derived.Test.YtlfnpakpkniipaaZGQx5
import Derived.Test.YtlfnpakpkniipaaZGQx6
set_option linter.unusedVariables false
set_option linter.unusedSimpArgs false
namespace Go.Proofs.Ytlfnpakpkniipaa.Q
open Go.RowKit Go.IntWalk Go.Proofs.YtlfnpakpkniipaaW.PrintWords Go.Proofs.YtlfnpakpkniipaaW.PrintLast Go.Proofs.YtlfnpakpkniipaaW.PrintMore Go.Proofs.YtlfnpakpkniipaaH
def onD (g0 g1 g2 : Int) (d : Nat) (x : S49) : Bool := wok g0 g1 g2 x && (x.f0.toNat.testBit (d / g1.toNat) && x.f1.toNat.testBit (d % g1.toNat))
theorem and1 {k : IntKind} {x : Int} (hx : 0 ≤ x) (hx' : x < 2 ^ k.bits) (h8 : 8 ≤ k.bits) (hs : k.signed = false) : Go.bits .and k x 1 = x % 2 := by
  obtain ⟨n, rfl⟩ := Int.eq_ofNat_of_zero_le hx
  have hp : (2 : Nat) ^ 8 ≤ 2 ^ k.bits := Nat.pow_le_pow_right (by omega) h8
  have hn : n < 2 ^ k.bits := by
    have : ((n : Nat) : Int) < ((2 ^ k.bits : Nat) : Int) := by simpa using hx'
    exact_mod_cast this
  have := and_nat (k := k) (m := n) (n := 1) hn (by omega) hs
  rw [Nat.and_one_is_mod] at this
  exact this
theorem bit32 {x : Int} (h : (Lit.int .u32 x).wf = true) {q : Nat} (hq : q ≤ 32) : (Go.bits .and .u32 (shr .u32 x (q : Int)) 1 = 1) ↔ x.toNat.testBit q = true := by
  have hb := wf_u32 h
  have e : shr .u32 x (q : Int) = x / 2 ^ q := by unfold shr; rw [Int.toNat_natCast, Nat.min_eq_left (by simp only [IntKind.bits]; omega)]
  have h0 : 0 ≤ x / 2 ^ q := Int.ediv_nonneg hb.1 (Int.pow_nonneg (by omega))
  have h1 : x / 2 ^ q ≤ x := Int.ediv_le_self _ hb.1
  rw [e, and1 h0 (by simp only [IntKind.bits]; omega) (by decide) rfl, ← day_bit hb.1, Int.tmod_eq_emod_of_nonneg h0]
  simp
theorem bit8 {x : Int} (h : (Lit.int .u8 x).wf = true) {q : Nat} (hq : q ≤ 8) : (Go.bits .and .u8 (shr .u8 x (q : Int)) 1 = 1) ↔ x.toNat.testBit q = true := by
  have hb := wf_u8 h
  have e : shr .u8 x (q : Int) = x / 2 ^ q := by unfold shr; rw [Int.toNat_natCast, Nat.min_eq_left (by simp only [IntKind.bits]; omega)]
  have h0 : 0 ≤ x / 2 ^ q := Int.ediv_nonneg hb.1 (Int.pow_nonneg (by omega))
  have h1 : x / 2 ^ q ≤ x := Int.ediv_le_self _ hb.1
  rw [e, and1 h0 (by simp only [IntKind.bits]; omega) (by decide) rfl, ← day_bit hb.1, Int.tmod_eq_emod_of_nonneg h0]
  simp
theorem day_parts {g0 g1 g2 : Int} (hg : GridOk g0 g1 g2) {d : Nat} (hd : (d : Int) < g0 * g1) : g1 ≠ 0 ∧ wrap64 (Int.tdiv (d : Int) g1) = ((d / g1.toNat : Nat) : Int) ∧ Int.tmod (d : Int) g1 = ((d % g1.toNat : Nat) : Int) ∧ d / g1.toNat ≤ 19 ∧ d % g1.toNat ≤ 6 := by
  unfold GridOk at hg
  obtain ⟨n, rfl⟩ := Int.eq_ofNat_of_zero_le (show 0 ≤ g1 by omega)
  obtain ⟨m, rfl⟩ := Int.eq_ofNat_of_zero_le (show 0 ≤ g0 by omega)
  have hn : 0 < n := by omega
  have hdn : d < m * n := by exact_mod_cast hd
  have h1 : d / n < m := by rw [Nat.div_lt_iff_lt_mul hn]; exact hdn
  have h2 : d % n < n := Nat.mod_lt _ hn
  refine ⟨by omega, ?_, ?_, by rw [Int.toNat_natCast]; omega, by rw [Int.toNat_natCast]; omega⟩
  · have : Int.tdiv (d : Int) (n : Int) = ((d / n : Nat) : Int) := rfl
    rw [this, Int.toNat_natCast]
    generalize d / n = q at *
    exact wrap64_in _ (by omega)
  · rfl
theorem wok_grid {g0 g1 g2 : Int} {x : S49} (h : wok g0 g1 g2 x = true) : 0 ≤ x.f2 ∧ 1 ≤ x.f3 ∧ x.f2 + x.f3 ≤ g2 ∧ g2 ≤ 96 := by
  unfold wok at h; rw [decide_eq_true_eq] at h
  have hg := h.1; unfold GridOk at hg
  exact ⟨h.2.1, h.2.2.1, h.2.2.2.1, by omega⟩
theorem on_l0 {l : List S49} {g0 g1 g2 : Int} {d : Nat} (hl : l.length * 24 ≤ 140737488351232) (hk : ∀ x ∈ l, ok49 x) (hg : GridOk g0 g1 g2) (hd : (d : Int) < g0 * g1) (h20 : (l.filter (onD g0 g1 g2 d)).length < 40) : ∀ (xs pre : List S49), l = pre ++ xs →
    Ev (fun k => many_on.l0 k (d : Int) (pre.filter (onD g0 g1 g2 d)) l (l.length : Int) (pre.length : Int) g0 g1 g2) (srt (l.filter (onD g0 g1 g2 d)))
  | [], pre, h => by
    have hpl : pre = l := by simp [h]
    refine Ev.step (f := fun _ => some (srt (l.filter (onD g0 g1 g2 d)))) (fun k => ?_) (Ev.now _)
    rw [many_on.l0, if_neg (by simp [h]), hpl, if_pos h20]
  | x :: xs, pre, h => by
    obtain ⟨p1, p2, p3, p4, p5⟩ := day_parts hg hd
    have hlen : l.length = pre.length + (xs.length + 1) := by simp [h]
    have hx := rdW_mid h
    have hxk := hk x (by simp [h])
    have hs : ((pre ++ [x]).length : Int) = (pre.length : Int) + 1 := by simp
    have hfl : (pre.filter (onD g0 g1 g2 d)).length ≤ pre.length := List.length_filter_le _ _
    refine Ev.step (f := fun k => if onD g0 g1 g2 d x = true then many_on.l0 k (d : Int) (pre.filter (onD g0 g1 g2 d) ++ [x]) l (l.length : Int) ((pre ++ [x]).length : Int) g0 g1 g2 else many_on.l0 k (d : Int) (pre.filter (onD g0 g1 g2 d)) l (l.length : Int) ((pre ++ [x]).length : Int) g0 g1 g2) (fun k => ?_) ?_
    · rw [many_on.l0, if_pos (by omega), if_pos (by omega), if_pos (by omega), hx, right_eq hxk, Option.bind_some, wrap64_in ((pre.length : Int) + 1) (by omega), hs, p2, p3]
      have b1 := bit32 hxk.1 (q := d / g1.toNat) (by omega)
      have b2 := bit8 hxk.2.1 (q := d % g1.toNat) (by omega)
      have q1 : (0 : Int) ≤ ((d / g1.toNat : Nat) : Int) := Int.natCast_nonneg _
      have q2 : (0 : Int) ≤ ((d % g1.toNat : Nat) : Int) := Int.natCast_nonneg _
      by_cases w1 : wok g0 g1 g2 x = true
      · rw [if_pos w1, if_neg p1, if_pos q1]
        by_cases w2 : x.f0.toNat.testBit (d / g1.toNat) = true
        · rw [if_pos (b1.2 w2), if_pos q2]
          by_cases w3 : x.f1.toNat.testBit (d % g1.toNat) = true
          · rw [if_pos (b2.2 w3), if_pos (by omega), if_pos (by unfold onD; simp [w1, w2, w3])]
          · rw [if_neg (fun h => w3 (b2.1 h)), if_neg (by unfold onD; simp [w3])]
        · rw [if_neg (fun h => w2 (b1.1 h)), if_neg (by unfold onD; simp [w2])]
      · rw [if_neg w1, if_neg (by unfold onD; simp [w1])]
    · have ih := on_l0 hl hk hg hd h20 xs (pre ++ [x]) (by simp [h])
      rw [List.filter_append] at ih
      cases hq : onD g0 g1 g2 d x with
      | true =>
        refine Ev.congr (fun _ => by rw [if_pos rfl]) ?_
        simpa [hq] using ih
      | false =>
        refine Ev.congr (fun _ => by rw [if_neg (by simp)]) ?_
        simpa [hq] using ih
theorem on_ev {l : List S49} {g0 g1 g2 : Int} {d : Nat} (hl : l.length * 24 ≤ 140737488351232 ∧ ∀ x ∈ l, ok49 x) (hg : GridOk g0 g1 g2) (hd : (d : Int) < g0 * g1) (h20 : (l.filter (onD g0 g1 g2 d)).length < 40) : Ev (fun k => many_on.f k g0 g1 g2 l (d : Int)) (srt (l.filter (onD g0 g1 g2 d))) := by
  unfold many_on.f
  exact on_l0 hl.1 hl.2 hg hd h20 l [] rfl
theorem days_eq (g0 g1 g2 : Int) : many_days.f g0 g1 g2 = some (if GridOk g0 g1 g2 then g0 * g1 else 0) := by
  unfold many_days.f
  rw [when_RightGrid_eq, Option.bind_some]
  by_cases hg : GridOk g0 g1 g2
  · rw [if_pos (decide_eq_true hg), if_pos hg]
    unfold GridOk at hg
    have h1 : g0 * g1 ≤ 20 * 7 := Int.mul_le_mul (by omega) (by omega) (by omega) (by omega)
    have h0 : 0 ≤ g0 * g1 := Int.mul_nonneg (by omega) (by omega)
    rw [wrap64_in _ (by omega)]
  · rw [if_neg (by simpa using hg), if_neg hg]
def bstep (gap : Int) (s : List S25 × Int × Int) (w : S49) : List S25 × Int × Int :=
  match s with
  | ([], _, _) => ([⟨w.f3, 1⟩], w.f2, w.f2 + w.f3)
  | (b :: R, from_, end_) => if w.f2 - end_ > gap then (⟨w.f3, 1⟩ :: b :: R, w.f2, w.f2 + w.f3) else (⟨mx end_ (w.f2 + w.f3) - from_, b.f1 + 1⟩ :: R, from_, mx end_ (w.f2 + w.f3))
def blk (gap : Int) (xs : List S49) : List S25 := (xs.foldl (bstep gap) ([], 0, 0)).1.reverse
def blocksS (g0 g1 g2 : Int) (l : List S49) (day gap : Int) : List S25 :=
  if GridOk g0 g1 g2 ∧ 0 ≤ day ∧ day < g0 * g1 then blk (mx 0 gap) (srt (l.filter (onD g0 g1 g2 day.toNat))) else []
theorem mem_foldR {z : S49} : ∀ (ys R : List S49), z ∈ ys.foldl (fun R x => insR x R) R ↔ z ∈ ys ∨ z ∈ R
  | [], R => by simp
  | y :: ys, R => by
    rw [List.foldl_cons, mem_foldR ys, mem_insR, List.mem_cons]
    constructor
    · rintro (h | h | h)
      · exact .inl (.inr h)
      · exact .inl (.inl h)
      · exact .inr h
    · rintro ((h | h) | h)
      · exact .inr (.inl h)
      · exact .inl h
      · exact .inr (.inr h)
theorem mem_srt {z : S49} {xs : List S49} : z ∈ srt xs ↔ z ∈ xs := by unfold srt; rw [List.mem_reverse, mem_foldR]; simp
def BOk (n : Nat) (s : List S25 × Int × Int) : Prop := (s.1 = [] ↔ n = 0) ∧ s.1.length ≤ n ∧ (∀ b ∈ s.1, 0 ≤ b.f1 ∧ b.f1 ≤ n ∧ 0 ≤ b.f0 ∧ b.f0 ≤ 96) ∧ 0 ≤ s.2.1 ∧ s.2.1 ≤ s.2.2 ∧ s.2.2 ≤ 96
def WTame (x : S49) : Prop := 0 ≤ x.f2 ∧ 1 ≤ x.f3 ∧ x.f2 + x.f3 ≤ 96
theorem mx_le {a b c : Int} (h : a ≤ c) (k : b ≤ c) : mx a b ≤ c := by unfold mx; split <;> omega
theorem le_mx (a b : Int) : a ≤ mx a b := by unfold mx; split <;> omega
theorem le_mx' (a b : Int) : b ≤ mx a b := by unfold mx; split <;> omega
theorem BOk.step {n : Nat} {s : List S25 × Int × Int} (h : BOk n s) {w : S49} (hw : WTame w) (gap : Int) : BOk (n + 1) (bstep gap s w) := by
  obtain ⟨R, f, e⟩ := s
  obtain ⟨h1, h2, h3, h4, h5, h6⟩ := h
  obtain ⟨w1, w2, w3⟩ := hw
  simp only at h1 h2 h3 h4 h5 h6
  cases R with
  | nil =>
    refine ⟨by simp [bstep], by simp [bstep], ?_, by simp [bstep]; omega, by simp [bstep]; omega, by simp [bstep]; omega⟩
    intro b hb
    simp only [bstep, List.mem_singleton] at hb
    subst hb
    exact ⟨by show (0:Int) ≤ 1; omega, by show (1:Int) ≤ _; omega, by show 0 ≤ w.f3; omega, by show w.f3 ≤ 96; omega⟩
  | cons b R =>
    unfold bstep
    simp only
    by_cases hq : w.f2 - e > gap
    · rw [if_pos hq]
      refine ⟨by simp, by simp at h2 ⊢; omega, ?_, by show 0 ≤ w.f2; omega, by show w.f2 ≤ w.f2 + w.f3; omega, by show w.f2 + w.f3 ≤ 96; omega⟩
      intro c hc
      rcases List.mem_cons.1 hc with rfl | hc
      · exact ⟨by show (0:Int) ≤ 1; omega, by show (1:Int) ≤ _; omega, by show 0 ≤ w.f3; omega, by show w.f3 ≤ 96; omega⟩
      · have := h3 c hc; exact ⟨by omega, by omega, by omega, by omega⟩
    · rw [if_neg hq]
      have m1 := le_mx e (w.f2 + w.f3)
      have m2 := mx_le (c := 96) h6 w3
      refine ⟨by simp, by simp at h2 ⊢; omega, ?_, by show 0 ≤ f; omega, by show f ≤ mx e (w.f2 + w.f3); omega, by show mx e (w.f2 + w.f3) ≤ 96; omega⟩
      intro c hc
      rcases List.mem_cons.1 hc with rfl | hc
      · have := h3 b (by simp)
        exact ⟨by show 0 ≤ b.f1 + 1; omega, by show b.f1 + 1 ≤ _; omega, by show 0 ≤ mx e (w.f2 + w.f3) - f; omega, by show mx e (w.f2 + w.f3) - f ≤ 96; omega⟩
      · have := h3 c (List.mem_cons_of_mem _ hc); exact ⟨by omega, by omega, by omega, by omega⟩
theorem rdB_mid {l pre xs : List S25} {x : S25} (h : l = pre ++ x :: xs) : rd_T25 l (pre.length : Int) = x := by unfold rd_T25; rw [h, Int.toNat_natCast, getD_mid]
theorem mx_pos {a b : Int} (h : a ≤ b) : mx a b = b := by unfold mx; split <;> omega
theorem blocks_l0 {gap : Int} {l : List S49} (hl : l.length < 8796093022208) (ht : ∀ x ∈ l, WTame x) : ∀ (xs pre : List S49) (s : List S25 × Int × Int), l = pre ++ xs → BOk pre.length s →
    Ev (fun k => many_Blocks.l0 k gap s.1.reverse s.2.1 s.2.2 l (l.length : Int) (pre.length : Int)) (xs.foldl (bstep gap) s).1.reverse
  | [], pre, s, h, hb => by
    refine Ev.step (f := fun _ => some s.1.reverse) (fun k => ?_) (Ev.now _)
    rw [many_Blocks.l0, if_neg (by simp [h])]
  | x :: xs, pre, s, h, hb => by
    have hlen : l.length = pre.length + (xs.length + 1) := by simp [h]
    have hx := rdW_mid h
    have hw := ht x (by simp [h])
    have hb2 := hb.step hw gap
    have hs : ((pre ++ [x]).length : Int) = (pre.length : Int) + 1 := by simp
    have hsn : (pre ++ [x]).length = pre.length + 1 := by simp
    refine Ev.step (f := fun k => many_Blocks.l0 k gap (bstep gap s x).1.reverse (bstep gap s x).2.1 (bstep gap s x).2.2 l (l.length : Int) ((pre ++ [x]).length : Int)) (fun k => ?_) ?_
    · rw [many_Blocks.l0, if_pos (by omega), if_pos (by omega), if_pos (by omega), hx, wrap64_in ((pre.length : Int) + 1) (by omega), hs]
      obtain ⟨R, f, e⟩ := s
      obtain ⟨h1, h2, h3, h4, h5, h6⟩ := hb
      obtain ⟨w1, w2, w3⟩ := hw
      simp only at h1 h2 h3 h4 h5 h6
      simp only [Option.bind_some]
      rw [wrap64_in (x.f2 + x.f3) (by omega), mx_pos (show x.f2 ≤ x.f2 + x.f3 by omega), wrap64_in (x.f2 + x.f3 - x.f2) (by omega), show x.f2 + x.f3 - x.f2 = x.f3 by omega]
      have hz : (((R.reverse ++ [(⟨0, 0⟩ : S25)]).length : Nat) : Int) - 1 = (R.reverse.length : Int) := by simp
      have hr0 : rd_T25 (R.reverse ++ [(⟨0, 0⟩ : S25)]) (R.reverse.length : Int) = ⟨0, 0⟩ := rdB_mid rfl
      have hset : ∀ (v : S25), (R.reverse ++ [(⟨0, 0⟩ : S25)]).set R.reverse.length v = (v :: R).reverse := fun v => by
        simp
      have hRl : (R.reverse.length : Int) = (R.length : Int) := by simp
      have hRl' : (((R.reverse ++ [(⟨0, 0⟩ : S25)]).length : Nat) : Int) = (R.length : Int) + 1 := by simp
      rw [wrap64_in _ (by omega : (-9223372036854775808 : Int) ≤ (((R.reverse ++ [(⟨0, 0⟩ : S25)]).length : Nat) : Int) - 1 ∧ (((R.reverse ++ [(⟨0, 0⟩ : S25)]).length : Nat) : Int) - 1 ≤ 9223372036854775807), hz, hr0, Int.toNat_natCast, hset]
      rw [if_pos (show (0:Int) ≤ (R.reverse.length : Int) by omega), if_pos (show (R.reverse.length : Int) < (((R.reverse ++ [(⟨0, 0⟩ : S25)]).length : Nat) : Int) by omega)]
      rw [if_pos (show R.reverse.length < 8796093022208 by rw [List.length_reverse]; omega)]
      rw [wrap64_in (((⟨0, 0⟩ : S25).f1) + 1) (by show (-9223372036854775808 : Int) ≤ 0 + 1 ∧ (0:Int) + 1 ≤ 9223372036854775807; omega)]
      cases R with
      | nil =>
        rw [if_pos (by simp)]
        rfl
      | cons b R =>
        have hb3 := h3 b (by simp)
        rw [if_neg (by simp; omega), wrap64_in (x.f2 - e) (by omega)]
        unfold bstep
        simp only
        by_cases hq : x.f2 - e > gap
        · rw [if_pos hq, if_pos hq]
          rfl
        · rw [if_neg hq, if_neg hq]
          have m1 := le_mx e (x.f2 + x.f3)
          have m2 := mx_le (c := 96) h6 w3
          have hz1 : (((b :: R).reverse.length : Nat) : Int) - 1 = (R.reverse.length : Int) := by simp
          have hr1 : rd_T25 (b :: R).reverse (R.reverse.length : Int) = b := rdB_mid (xs := []) (by simp)
          have hset1 : ∀ (v : S25), ((b :: R).reverse).set R.reverse.length v = (v :: R).reverse := fun v => by
            simp
          have hl1 : (((b :: R).reverse.length : Nat) : Int) = (R.reverse.length : Int) + 1 := by simp
          simp only [List.length_cons] at h2
          have hRR : (R.reverse.length : Int) = (R.length : Int) := by simp
          rw [wrap64_in _ (by omega : (-9223372036854775808 : Int) ≤ (((b :: R).reverse.length : Nat) : Int) - 1 ∧ (((b :: R).reverse.length : Nat) : Int) - 1 ≤ 9223372036854775807), hz1, hr1, Int.toNat_natCast, hset1, if_pos (by omega), if_pos (by omega), wrap64_in (mx e (x.f2 + x.f3) - f) (by omega), wrap64_in (b.f1 + 1) (by omega)]
    · rw [List.foldl_cons]
      exact blocks_l0 hl ht xs (pre ++ [x]) _ (by simp [h]) (by rw [hsn]; exact hb2)
theorem flt_tame {g0 g1 g2 : Int} {d : Nat} {l : List S49} : ∀ x ∈ srt (l.filter (onD g0 g1 g2 d)), WTame x := by
  intro x hx
  rw [mem_srt, List.mem_filter] at hx
  have h := hx.2
  unfold onD at h
  rw [Bool.and_eq_true] at h
  have := wok_grid h.1
  exact ⟨this.1, this.2.1, by omega⟩
theorem BOk.start : BOk 0 ([], 0, 0) := ⟨by simp, by simp, by simp, by simp, by simp, by simp⟩
theorem Blocks_ev {l : List S49} {g0 g1 g2 day gap : Int} (hl : l.length * 24 ≤ 140737488351232 ∧ ∀ x ∈ l, ok49 x) (h20 : ∀ d : Nat, (d : Int) < g0 * g1 → (l.filter (onD g0 g1 g2 d)).length < 40) : Ev (fun k => many_Blocks.f k g0 g1 g2 l day gap) (blocksS g0 g1 g2 l day gap) := by
  unfold many_Blocks.f blocksS
  have none : ¬ (GridOk g0 g1 g2 ∧ 0 ≤ day ∧ day < g0 * g1) → Ev (fun k => many_Blocks.j0 k l day gap true g0 g1 g2) (if GridOk g0 g1 g2 ∧ 0 ≤ day ∧ day < g0 * g1 then blk (mx 0 gap) (srt (l.filter (onD g0 g1 g2 day.toNat))) else []) := fun h => by
    rw [if_neg h]
    exact Ev.step (f := fun _ => some []) (fun k => by rw [many_Blocks.j0, if_pos rfl]) (Ev.now _)
  by_cases h0 : day < 0
  · simp only [if_pos h0]
    exact none (fun h => by omega)
  simp only [if_neg h0, days_eq, Option.bind_some]
  by_cases hg : GridOk g0 g1 g2
  rotate_left
  · simp only [if_neg hg]
    rw [decide_eq_true (by omega)]
    exact none (fun h => hg h.1)
  simp only [if_pos hg]
  by_cases h1 : day < g0 * g1
  rotate_left
  · rw [decide_eq_true (by omega)]
    exact none (fun h => h1 h.2.2)
  rw [decide_eq_false (by omega), if_pos ⟨hg, by omega, h1⟩]
  obtain ⟨d, rfl⟩ := Int.eq_ofNat_of_zero_le (show 0 ≤ day by omega)
  refine Ev.step (f := fun k => (many_on.f k g0 g1 g2 l (d : Int)).bind fun t => many_Blocks.l0 k (mx 0 gap) [] 0 0 t (t.length : Int) 0) (fun k => by rw [many_Blocks.j0, if_neg (by simp)]) ?_
  refine Ev.bind (on_ev hl hg h1 (h20 d h1)) ?_
  have hlt : (srt (l.filter (onD g0 g1 g2 d))).length < 8796093022208 := by
    have := h20 d h1
    rw [srt_length]; omega
  exact blocks_l0 hlt flt_tame _ [] ([], 0, 0) rfl BOk.start
end Go.Proofs.Ytlfnpakpkniipaa.Q
