/- Words for the claim. -/
import Derived.Test.YtlfnpakpkniipaaZGQMBlocks
import Derived.Test.YtlfnpakpkniipaaZGQx0
import Derived.Test.YtlfnpakpkniipaaZGQx7
import Derived.Test.YtlfnpakpkniipaaZGQx8
import Derived.Test.YtlfnpakpkniipaaZGQx9
set_option linter.unusedVariables false
set_option linter.unusedSimpArgs false
namespace Go.Proofs.Ytlfnpakpkniipaa.Q
open Go.RowKit Go.IntWalk Go.Proofs.YtlfnpakpkniipaaW.PrintWords Go.Proofs.YtlfnpakpkniipaaW.PrintLast Go.Proofs.YtlfnpakpkniipaaW.PrintMore Go.Proofs.YtlfnpakpkniipaaH
def inAt (g0 g1 g2 : Int) (l : List S49) (d s : Nat) : Bool := l.any (fun x => onD g0 g1 g2 d x && decide (x.f2 ≤ (s : Int) ∧ (s : Int) < x.f2 + x.f3))
def busyN (g0 g1 g2 : Int) (l : List S49) (d : Nat) : Nat := ((List.range g2.toNat).filter (inAt g0 g1 g2 l d)).length
def busyS (g0 g1 g2 : Int) (l : List S49) : List Int := if GridOk g0 g1 g2 then (List.range (g0 * g1).toNat).map (fun d => (busyN g0 g1 g2 l d : Int)) else []
def mom (G1 G2 : Nat) (x : S49) (d : Nat) : List Int := if (x.f0.toNat.testBit (d / G1) && x.f1.toNat.testBit (d % G1)) = true then (List.range x.f3.toNat).map (fun j => ((d * G2 + x.f2.toNat + j : Nat) : Int)) else []
theorem mom_len (G1 G2 : Nat) (x : S49) (d : Nat) (h : x.f3 ≤ 96) : (mom G1 G2 x d).length ≤ 96 := by
  unfold mom
  split
  · simp; omega
  · simp
theorem bit32z {x : Int} (h : (Lit.int .u32 x).wf = true) {q : Nat} (hq : q ≤ 32) : (Go.bits .and .u32 (shr .u32 x (q : Int)) 1 = 0) ↔ x.toNat.testBit q = false := by
  have hb := wf_u32 h
  have e : shr .u32 x (q : Int) = x / 2 ^ q := by unfold shr; rw [Int.toNat_natCast, Nat.min_eq_left (by simp only [IntKind.bits]; omega)]
  have h0 : 0 ≤ x / 2 ^ q := Int.ediv_nonneg hb.1 (Int.pow_nonneg (by omega))
  have h1 : x / 2 ^ q ≤ x := Int.ediv_le_self _ hb.1
  rw [e, and1 h0 (by simp only [IntKind.bits]; omega) (by decide) rfl, ← day_bit hb.1, Int.tmod_eq_emod_of_nonneg h0]
  simp only [beq_eq_false_iff_ne, ne_eq]
  omega
theorem bit8z {x : Int} (h : (Lit.int .u8 x).wf = true) {q : Nat} (hq : q ≤ 8) : (Go.bits .and .u8 (shr .u8 x (q : Int)) 1 == 0) = !x.toNat.testBit q := by
  have hb := wf_u8 h
  have e : shr .u8 x (q : Int) = x / 2 ^ q := by unfold shr; rw [Int.toNat_natCast, Nat.min_eq_left (by simp only [IntKind.bits]; omega)]
  have h0 : 0 ≤ x / 2 ^ q := Int.ediv_nonneg hb.1 (Int.pow_nonneg (by omega))
  have h1 : x / 2 ^ q ≤ x := Int.ediv_le_self _ hb.1
  rw [e, and1 h0 (by simp only [IntKind.bits]; omega) (by decide) rfl, ← day_bit hb.1, Int.tmod_eq_emod_of_nonneg h0]
  have : x / 2 ^ q % 2 = 0 ∨ x / 2 ^ q % 2 = 1 := by omega
  rcases this with h | h <;> rw [h] <;> rfl
theorem mom_l2 {G0 G1 G2 : Nat} {x : S49} {base week day : Nat} (hb : base < 1000000) {B : Nat} (hB : x.f3 = (B : Int)) (hB6 : B ≤ 96) {r : List Int} : ∀ (m j : Nat) (acc : List Int), j + m = B → acc.length + m < 1000000 →
    Ev (fun k => when_Moments.l1 k (acc ++ (List.range' j m).map (fun j => ((base + j : Nat) : Int))) (week : Int) (G0 : Int) (week : Int) (G1 : Int) (wrap64 ((day : Int) + 1)) (G0 : Int) (G1 : Int) (G2 : Int) x.f0 x.f1 x.f2 x.f3) r →
    Ev (fun k => when_Moments.l2 k acc (week : Int) (base : Int) (G0 : Int) (week : Int) (G1 : Int) (day : Int) (B : Int) (j : Int) (G0 : Int) (G1 : Int) (G2 : Int) x.f0 x.f1 x.f2 x.f3) r
  | 0, j, acc, h, ha, hr => by
    refine Ev.step (fun k => ?_) hr
    rw [when_Moments.l2, if_neg (by omega)]
    simp
  | m + 1, j, acc, h, ha, hr => by
    refine Ev.step (f := fun k => when_Moments.l2 k (acc ++ [((base + j : Nat) : Int)]) (week : Int) (base : Int) (G0 : Int) (week : Int) (G1 : Int) (day : Int) (B : Int) ((j + 1 : Nat) : Int) (G0 : Int) (G1 : Int) (G2 : Int) x.f0 x.f1 x.f2 x.f3) (fun k => ?_) (mom_l2 hb hB hB6 m (j + 1) _ (by omega) (by simp; omega) ?_)
    · rw [when_Moments.l2, if_pos (by omega), if_pos (by omega), wrap64_in ((base : Int) + j) (by omega), wrap64_in ((j : Int) + 1) (by omega)]
      rfl
    · rw [List.append_assoc]
      rw [List.range'_succ] at hr
      exact hr
theorem day_of {G1 week day : Nat} (h : day < G1) : (week * G1 + day) / G1 = week ∧ (week * G1 + day) % G1 = day := by
  have h0 : 0 < G1 := by omega
  exact ⟨by rw [Nat.mul_comm, Nat.mul_add_div h0, Nat.div_eq_of_lt h]; rfl, Nat.mul_add_mod_of_lt h⟩
theorem mom_l1 {G0 G1 G2 : Nat} {x : S49} (hx : ok49 x) (hG : GridOk (G0 : Int) (G1 : Int) (G2 : Int)) (h2 : 0 ≤ x.f2) (h3 : 1 ≤ x.f3) (h4 : x.f2 + x.f3 ≤ (G2 : Int)) {week : Nat} (hw : week < G0) {r : List Int} : ∀ (m day : Nat) (acc : List Int), day + m = G1 → acc.length ≤ 96 * (week * G1 + day) →
    Ev (fun k => when_Moments.l0 k (acc ++ (List.range' (week * G1 + day) m).flatMap (mom G1 G2 x)) (G0 : Int) ((week + 1 : Nat) : Int) (G0 : Int) (G1 : Int) (G2 : Int) x.f0 x.f1 x.f2 x.f3) r →
    Ev (fun k => when_Moments.l1 k acc (week : Int) (G0 : Int) (week : Int) (G1 : Int) (day : Int) (G0 : Int) (G1 : Int) (G2 : Int) x.f0 x.f1 x.f2 x.f3) r
  | 0, day, acc, h, ha, hr => by
    unfold GridOk at hG
    refine Ev.step (fun k => ?_) hr
    rw [when_Moments.l1, if_neg (by omega), wrap64_in ((week : Int) + 1) (by omega)]
    simp
  | m + 1, day, acc, h, ha, hr => by
    have hG' := hG
    unfold GridOk at hG'
    have hd : day < G1 := by omega
    obtain ⟨d1, d2⟩ := day_of (week := week) hd
    have hW : week * G1 ≤ 19 * 7 := Nat.mul_le_mul (by omega) (by omega)
    have hml := mom_len G1 G2 x (week * G1 + day) (by omega)
    have ih := mom_l1 hx hG h2 h3 h4 hw m (day + 1) (acc ++ mom G1 G2 x (week * G1 + day)) (r := r) (by omega) (by rw [List.length_append]; omega) (by
      rw [List.range'_succ, List.flatMap_cons] at hr
      rw [List.append_assoc]
      exact hr)
    have b1 := bit32z hx.1 (q := week) (by omega)
    have b2 := bit8z hx.2.1 (q := day) (by omega)
    have skip : mom G1 G2 x (week * G1 + day) = [] → Ev (fun k => when_Moments.j2 k acc (week : Int) (day : Int) (G0 : Int) (week : Int) (G1 : Int) (day : Int) true (G0 : Int) (G1 : Int) (G2 : Int) x.f0 x.f1 x.f2 x.f3) r := fun he => by
      rw [he, List.append_nil] at ih
      refine Ev.step (fun k => ?_) ih
      rw [when_Moments.j2, if_pos rfl, wrap64_in ((day : Int) + 1) (by omega)]
      rfl
    cases w1 : x.f0.toNat.testBit week with
    | false =>
      refine Ev.step (fun k => ?_) (skip (by unfold mom; rw [d1, w1]; rfl))
      rw [when_Moments.l1, if_pos (by omega), if_pos (by omega), if_pos (b1.2 w1)]
    | true =>
      refine Ev.step (f := fun k => when_Moments.j2 k acc (week : Int) (day : Int) (G0 : Int) (week : Int) (G1 : Int) (day : Int) (!x.f1.toNat.testBit day) (G0 : Int) (G1 : Int) (G2 : Int) x.f0 x.f1 x.f2 x.f3) (fun k => ?_) ?_
      · rw [when_Moments.l1, if_pos (by omega), if_pos (by omega), if_neg (fun hh => by rw [b1.1 hh] at w1; cases w1), if_pos (by omega), b2]
      cases w2 : x.f1.toNat.testBit day with
      | false => exact skip (by unfold mom; rw [d1, d2, w1, w2]; rfl)
      | true =>
        obtain ⟨B, hB⟩ := Int.eq_ofNat_of_zero_le (show 0 ≤ x.f3 by omega)
        obtain ⟨A, hA⟩ := Int.eq_ofNat_of_zero_le h2
        have hM : (week * G1 + day) * G2 ≤ (19 * 7 + 6) * 96 := Nat.mul_le_mul (by omega) (by omega)
        refine Ev.step (f := fun k => when_Moments.l2 k acc (week : Int) (((week * G1 + day) * G2 + A : Nat) : Int) (G0 : Int) (week : Int) (G1 : Int) (day : Int) (B : Int) ((0 : Nat) : Int) (G0 : Int) (G1 : Int) (G2 : Int) x.f0 x.f1 x.f2 x.f3) (fun k => ?_) (mom_l2 (by omega) hB (by omega) B 0 acc (by omega) (by omega) ?_)
        · have e1 : (week : Int) * (G1 : Int) = ((week * G1 : Nat) : Int) := by simp
          have e2 : ((week * G1 : Nat) : Int) + (day : Int) = ((week * G1 + day : Nat) : Int) := by simp
          have e3 : ((week * G1 + day : Nat) : Int) * (G2 : Int) = (((week * G1 + day) * G2 : Nat) : Int) := by rw [Int.natCast_mul]
          rw [when_Moments.j2, if_neg (by simp), e1, wrap64_in ((week * G1 : Nat) : Int) (by omega), e2, wrap64_in ((week * G1 + day : Nat) : Int) (by omega), e3, wrap64_in (((week * G1 + day) * G2 : Nat) : Int) (by omega), hA, wrap64_in ((((week * G1 + day) * G2 : Nat) : Int) + (A : Int)) (by omega), hB]
          rfl
        · rw [wrap64_in ((day : Int) + 1) (by omega)]
          unfold mom at ih
          rw [d1, d2, w1, w2, Bool.and_self, if_pos rfl, hA, hB, Int.toNat_natCast, Int.toNat_natCast, List.range_eq_range'] at ih
          rw [hA, hB]
          exact ih
theorem mom_l0 {G0 G1 G2 : Nat} {x : S49} (hx : ok49 x) (hG : GridOk (G0 : Int) (G1 : Int) (G2 : Int)) (h2 : 0 ≤ x.f2) (h3 : 1 ≤ x.f3) (h4 : x.f2 + x.f3 ≤ (G2 : Int)) : ∀ (m week : Nat) (acc : List Int), week + m = G0 → acc.length ≤ 96 * (week * G1) →
    Ev (fun k => when_Moments.l0 k acc (G0 : Int) (week : Int) (G0 : Int) (G1 : Int) (G2 : Int) x.f0 x.f1 x.f2 x.f3) (acc ++ (List.range' (week * G1) (m * G1)).flatMap (mom G1 G2 x))
  | 0, week, acc, h, ha => by
    refine Ev.step (f := fun _ => some acc) (fun k => ?_) (by simpa using Ev.now acc)
    rw [when_Moments.l0, if_neg (by omega)]
  | m + 1, week, acc, h, ha => by
    have hml : ∀ (n d : Nat), ((List.range' d n).flatMap (mom G1 G2 x)).length ≤ 96 * n := by
      intro n
      induction n with
      | zero => intro d; simp
      | succ n ih =>
        intro d
        have h5 : x.f3 ≤ 96 := by unfold GridOk at hG; omega
        have := mom_len G1 G2 x d h5
        have := ih (d + 1)
        rw [List.range'_succ, List.flatMap_cons, List.length_append]; omega
    refine Ev.step (f := fun k => when_Moments.l1 k acc (week : Int) (G0 : Int) (week : Int) (G1 : Int) ((0 : Nat) : Int) (G0 : Int) (G1 : Int) (G2 : Int) x.f0 x.f1 x.f2 x.f3) (fun k => ?_) (mom_l1 hx hG h2 h3 h4 (by omega) G1 0 acc (by omega) (by omega) ?_)
    · rw [when_Moments.l0, if_pos (by omega)]
      rfl
    · have e : (week + 1) * G1 = week * G1 + G1 := by rw [Nat.add_mul, Nat.one_mul]
      have := mom_l0 hx hG h2 h3 h4 m (week + 1) (acc ++ (List.range' (week * G1 + 0) G1).flatMap (mom G1 G2 x)) (by omega) (by
        have := hml G1 (week * G1 + 0)
        rw [List.length_append, e]; omega)
      rw [List.append_assoc, ← List.flatMap_append, e, Nat.add_zero] at this
      have e2 : List.range' (week * G1) G1 ++ List.range' (week * G1 + G1) (m * G1) = List.range' (week * G1) ((m + 1) * G1) := by
        rw [Nat.add_mul, Nat.one_mul, Nat.add_comm (m * G1), ← List.range'_append_1]
      rw [e2] at this
      exact this
def momS (G0 G1 G2 : Nat) (x : S49) : List Int := if wok (G0 : Int) (G1 : Int) (G2 : Int) x = true then (List.range (G0 * G1)).flatMap (mom G1 G2 x) else []
theorem Moments_ev {G0 G1 G2 : Nat} {x : S49} (hx : ok49 x) : Ev (fun k => when_Moments.f k (G0 : Int) (G1 : Int) (G2 : Int) x.f0 x.f1 x.f2 x.f3) (momS G0 G1 G2 x) := by
  unfold when_Moments.f momS
  simp only [right_eq hx, Option.bind_some]
  cases hw : wok (G0 : Int) (G1 : Int) (G2 : Int) x with
  | false => simp only [if_neg Bool.false_ne_true]; exact Ev.now _
  | true =>
    simp only [if_true]
    have h := wok_grid hw
    have hG : GridOk (G0 : Int) (G1 : Int) (G2 : Int) := by unfold wok at hw; rw [decide_eq_true_eq] at hw; exact hw.1
    have := mom_l0 hx hG h.1 h.2.1 h.2.2.1 G0 0 [] (by omega) (by simp)
    rw [List.nil_append, Nat.zero_mul, ← List.range_eq_range'] at this
    exact this
theorem momS_mem {G0 G1 G2 : Nat} {x : S49} (hw : wok (G0 : Int) (G1 : Int) (G2 : Int) x = true) {d s : Nat} (hd : d < G0 * G1) (hs : s < G2) : ((d * G2 + s : Nat) : Int) ∈ momS G0 G1 G2 x ↔ (onD (G0 : Int) (G1 : Int) (G2 : Int) d x && decide (x.f2 ≤ (s : Int) ∧ (s : Int) < x.f2 + x.f3)) = true := by
  have h := wok_grid hw
  obtain ⟨A, hA⟩ := Int.eq_ofNat_of_zero_le h.1
  obtain ⟨B, hB⟩ := Int.eq_ofNat_of_zero_le (show 0 ≤ x.f3 by omega)
  unfold momS onD
  rw [if_pos hw, hw, Bool.true_and, List.mem_flatMap, Int.toNat_natCast, Bool.and_eq_true, decide_eq_true_eq]
  constructor
  · rintro ⟨d', hd', hm⟩
    unfold mom at hm
    split at hm
    · rename_i hb
      rw [List.mem_map] at hm
      obtain ⟨j, hj, he⟩ := hm
      rw [List.mem_range] at hj
      have he' : d' * G2 + x.f2.toNat + j = d * G2 + s := by exact_mod_cast he
      rw [hA, Int.toNat_natCast] at he'
      rw [hB, Int.toNat_natCast] at hj
      have hlt : A + j < G2 := by omega
      have e1 : d' = d := by
        have a1 : (d' * G2 + (A + j)) / G2 = d' := (day_of hlt).1
        have a2 : (d * G2 + s) / G2 = d := (day_of hs).1
        rw [← Nat.add_assoc, he', a2] at a1
        exact a1.symm
      subst e1
      exact ⟨hb, by omega, by omega⟩
    · cases hm
  · rintro ⟨hb, h5, h6⟩
    refine ⟨d, List.mem_range.2 hd, ?_⟩
    unfold mom
    rw [if_pos hb, List.mem_map]
    refine ⟨s - A, ?_, ?_⟩
    · rw [List.mem_range, hB, Int.toNat_natCast]; omega
    · rw [hA, Int.toNat_natCast]
      have : A + (s - A) = s := by omega
      rw [Nat.add_assoc, this]
theorem momS_lt {G0 G1 G2 : Nat} {x : S49} : ∀ m ∈ momS G0 G1 G2 x, ∃ q : Nat, m = (q : Int) ∧ q < G0 * G1 * G2 := by
  intro m hm
  unfold momS at hm
  split at hm
  · rename_i hw
    have h := wok_grid hw
    rw [List.mem_flatMap] at hm
    obtain ⟨d, hd, hm⟩ := hm
    rw [List.mem_range] at hd
    unfold mom at hm
    split at hm
    · rw [List.mem_map] at hm
      obtain ⟨j, hj, he⟩ := hm
      rw [List.mem_range] at hj
      refine ⟨_, he.symm, ?_⟩
      have h1 : (d + 1) * G2 ≤ G0 * G1 * G2 := Nat.mul_le_mul_right _ hd
      have h2 : (d + 1) * G2 = d * G2 + G2 := by rw [Nat.add_mul, Nat.one_mul]
      omega
    · cases hm
  · cases hm
def grid (D S : Nat) (F : Nat → Nat → Bool) : List (List Bool) := (List.range D).map (fun d => (List.range S).map (F d))
theorem grid_len (D S : Nat) (F : Nat → Nat → Bool) : (grid D S F).length = D := by simp [grid]
theorem grid_row {D S : Nat} {F : Nat → Nat → Bool} {d : Nat} (hd : d < D) : rd_L9 (grid D S F) (d : Int) = (List.range S).map (F d) := by
  unfold rd_L9 grid
  rw [Int.toNat_natCast, List.getD_eq_getElem?_getD, List.getElem?_map, List.getElem?_range hd]
  rfl
theorem grid_set {D S : Nat} {F : Nat → Nat → Bool} {d s : Nat} (hd : d < D) (hs : s < S) : (grid D S F).set d (((List.range S).map (F d)).set s true) = grid D S (fun d' s' => F d' s' || (decide (d' = d) && decide (s' = s))) := by
  refine List.ext_getElem (by simp [grid]) (fun i h1 h2 => ?_)
  rw [List.getElem_set]
  simp only [grid, List.getElem_map, List.getElem_range]
  split
  · rename_i he
    subst he
    refine List.ext_getElem (by simp) (fun j h3 h4 => ?_)
    rw [List.getElem_set]
    simp only [List.getElem_map, List.getElem_range]
    split
    · rename_i he; subst he; simp
    · rename_i he
      have : ¬ j = s := fun hh => he hh.symm
      simp [this]
  · rename_i he
    have : ¬ i = d := fun hh => he hh.symm
    simp [this]
theorem grid_congr {D S : Nat} {F F' : Nat → Nat → Bool} (h : ∀ d s, d < D → s < S → F d s = F' d s) : grid D S F = grid D S F' := by
  unfold grid
  refine List.map_congr_left (fun d hd => ?_)
  refine List.map_congr_left (fun s hs => ?_)
  exact h d s (List.mem_range.1 hd) (List.mem_range.1 hs)
theorem slots_l2 {G0 G1 G2 : Nat} (hG : GridOk (G0 : Int) (G1 : Int) (G2 : Int)) {l : List S49} {i : Int} {ms : List Int} (hml : ms.length < 1000000) (hm : ∀ m ∈ ms, ∃ q : Nat, m = (q : Int) ∧ q < G0 * G1 * G2) {r : List (List Bool)} : ∀ (xs pre : List Int) (F : Nat → Nat → Bool), ms = pre ++ xs →
    Ev (fun k => person_slots.l1 k (grid (G0 * G1) G2 (fun d s => F d s || xs.any (fun m => decide (m = ((d * G2 + s : Nat) : Int))))) l (l.length : Int) (wrap64 (i + 1)) (G0 : Int) (G1 : Int) (G2 : Int)) r →
    Ev (fun k => person_slots.l2 k (grid (G0 * G1) G2 F) l (l.length : Int) i ms (ms.length : Int) (pre.length : Int) (G0 : Int) (G1 : Int) (G2 : Int)) r
  | [], pre, F, h, hr => by
    refine Ev.step (fun k => ?_) hr
    rw [person_slots.l2, if_neg (by simp [h])]
    simp
  | m :: xs, pre, F, h, hr => by
    have hG' := hG
    unfold GridOk at hG'
    have hlen : ms.length = pre.length + (xs.length + 1) := by simp [h]
    have hx : rd ms (pre.length : Int) = m := by unfold rd; rw [h, Int.toNat_natCast, getD_mid]
    obtain ⟨q, rfl, hq⟩ := hm m (by simp [h])
    have hs : ((pre ++ [(q : Int)]).length : Int) = (pre.length : Int) + 1 := by simp
    have hG2 : 0 < G2 := by omega
    have hdq : q / G2 < G0 * G1 := by rw [Nat.div_lt_iff_lt_mul hG2]; exact hq
    have hsq : q % G2 < G2 := Nat.mod_lt _ hG2
    have hD : G0 * G1 ≤ 20 * 7 := Nat.mul_le_mul (by omega) (by omega)
    refine Ev.step (f := fun k => person_slots.l2 k (grid (G0 * G1) G2 (fun d s => F d s || (decide (d = q / G2) && decide (s = q % G2)))) l (l.length : Int) i ms (ms.length : Int) ((pre ++ [(q : Int)]).length : Int) (G0 : Int) (G1 : Int) (G2 : Int)) (fun k => ?_) (slots_l2 hG hml hm xs (pre ++ [(q : Int)]) _ (by simp [h]) ?_)
    · have e1 : Int.tdiv (q : Int) (G2 : Int) = ((q / G2 : Nat) : Int) := rfl
      have e2 : Int.tmod (q : Int) (G2 : Int) = ((q % G2 : Nat) : Int) := rfl
      have e3 : wrap64 ((q / G2 : Nat) : Int) = ((q / G2 : Nat) : Int) := by
        generalize q / G2 = z at *
        exact wrap64_in _ (by omega)
      have hrow : (((List.range G2).map (F (q / G2))).length : Int) = (G2 : Int) := by simp
      rw [person_slots.l2, if_pos (by omega), if_pos (by omega), if_pos (by omega), hx, e1, e2, e3, if_neg (by omega), if_pos (Int.natCast_nonneg _), if_pos (by rw [grid_len]; exact_mod_cast hdq), if_pos (Int.natCast_nonneg _), grid_row hdq, if_pos (by rw [hrow]; exact_mod_cast hsq), Int.toNat_natCast, Int.toNat_natCast, grid_set hdq hsq, wrap64_in ((pre.length : Int) + 1) (by omega), hs]
    · rw [grid_congr (F' := fun d s => F d s || ((q : Int) :: xs).any (fun m => decide (m = ((d * G2 + s : Nat) : Int))))]
      · exact hr
      · intro d s hd hs
        rw [List.any_cons, ← Bool.or_assoc]
        congr 2
        rw [Bool.eq_iff_iff]
        simp only [Bool.and_eq_true, decide_eq_true_eq]
        constructor
        · rintro ⟨rfl, rfl⟩
          have : q / G2 * G2 + q % G2 = q := by rw [Nat.mul_comm]; exact Nat.div_add_mod q G2
          rw [this]
        · intro he
          have he' : q = d * G2 + s := by exact_mod_cast he
          rw [he', (day_of hs).1, (day_of hs).2]
          exact ⟨rfl, rfl⟩
theorem momS_len {G0 G1 G2 : Nat} {x : S49} : (momS G0 G1 G2 x).length < 1000000 := by
  unfold momS
  split
  · rename_i hw
    have h := wok_grid hw
    have hG : GridOk (G0 : Int) (G1 : Int) (G2 : Int) := by unfold wok at hw; rw [decide_eq_true_eq] at hw; exact hw.1
    unfold GridOk at hG
    have hD : G0 * G1 ≤ 20 * 7 := Nat.mul_le_mul (by omega) (by omega)
    have hml : ∀ n : Nat, ((List.range n).flatMap (mom G1 G2 x)).length ≤ 96 * n := by
      intro n
      induction n with
      | zero => simp
      | succ n ih =>
        have := mom_len G1 G2 x n (by omega)
        rw [List.range_succ, List.flatMap_append, List.length_append, List.flatMap_cons, List.flatMap_nil, List.append_nil]; omega
    have := hml (G0 * G1)
    omega
  · simp
theorem slots_l1 {G0 G1 G2 : Nat} (hG : GridOk (G0 : Int) (G1 : Int) (G2 : Int)) {l : List S49} (hl : l.length < 9223372036854775807) (hk : ∀ x ∈ l, ok49 x) : ∀ (xs pre : List S49), l = pre ++ xs →
    Ev (fun k => person_slots.l1 k (grid (G0 * G1) G2 (inAt (G0 : Int) (G1 : Int) (G2 : Int) pre)) l (l.length : Int) (pre.length : Int) (G0 : Int) (G1 : Int) (G2 : Int)) (grid (G0 * G1) G2 (inAt (G0 : Int) (G1 : Int) (G2 : Int) l))
  | [], pre, h => by
    have hpl : pre = l := by simp [h]
    refine Ev.step (f := fun _ => some (grid (G0 * G1) G2 (inAt (G0 : Int) (G1 : Int) (G2 : Int) l))) (fun k => ?_) (Ev.now _)
    rw [person_slots.l1, if_neg (by simp [h]), hpl]
  | x :: xs, pre, h => by
    have hlen : l.length = pre.length + (xs.length + 1) := by simp [h]
    have hx := rdW_mid h
    have hxk := hk x (by simp [h])
    have hs : ((pre ++ [x]).length : Int) = (pre.length : Int) + 1 := by simp
    refine Ev.step (f := fun k => (when_Moments.f k (G0 : Int) (G1 : Int) (G2 : Int) x.f0 x.f1 x.f2 x.f3).bind fun t => person_slots.l2 k (grid (G0 * G1) G2 (inAt (G0 : Int) (G1 : Int) (G2 : Int) pre)) l (l.length : Int) (pre.length : Int) t (t.length : Int) 0 (G0 : Int) (G1 : Int) (G2 : Int)) (fun k => ?_) ?_
    · rw [person_slots.l1, if_pos (by omega), if_pos (by omega), if_pos (by omega), hx]
    · refine Ev.bind (Moments_ev hxk) ?_
      refine slots_l2 hG momS_len momS_lt (momS G0 G1 G2 x) [] _ rfl ?_
      rw [wrap64_in ((pre.length : Int) + 1) (by omega), ← hs]
      rw [grid_congr (F' := inAt (G0 : Int) (G1 : Int) (G2 : Int) (pre ++ [x]))]
      · exact slots_l1 hG hl hk xs (pre ++ [x]) (by simp [h])
      · intro d s hd hs'
        unfold inAt
        rw [List.any_append, List.any_cons, List.any_nil, Bool.or_false]
        congr 1
        rw [Bool.eq_iff_iff, List.any_eq_true]
        rcases Bool.eq_false_or_eq_true (wok (G0 : Int) (G1 : Int) (G2 : Int) x) with hw | hw
        rotate_left
        · have e : momS G0 G1 G2 x = [] := by unfold momS; rw [hw]; rfl
          rw [e]
          unfold onD
          rw [hw]
          simp
        · rw [← momS_mem hw hd hs']
          constructor
          · rintro ⟨m, hm, he⟩
            rw [decide_eq_true_eq] at he
            rw [← he]; exact hm
          · intro hm
            exact ⟨_, hm, by simp⟩
theorem slots_l0 {G0 G1 G2 : Nat} (hG : GridOk (G0 : Int) (G1 : Int) (G2 : Int)) {l : List S49} {r : List (List Bool)} (hr : Ev (fun k => person_slots.l1 k (grid (G0 * G1) G2 (fun _ _ => false)) l (l.length : Int) 0 (G0 : Int) (G1 : Int) (G2 : Int)) r) : ∀ (m i : Nat), i + m = G0 * G1 →
    Ev (fun k => person_slots.l0 k l (List.replicate i (List.replicate G2 false) ++ List.replicate m []) ((G0 * G1 : Nat) : Int) (i : Int) (G0 : Int) (G1 : Int) (G2 : Int)) r
  | 0, i, h => by
    refine Ev.step (fun k => ?_) hr
    have e : (List.replicate i (List.replicate G2 false) ++ List.replicate 0 [] : List (List Bool)) = grid (G0 * G1) G2 (fun _ _ => false) := by
      unfold grid
      rw [← h]
      simp [List.map_const']
    rw [person_slots.l0, if_neg (by omega), e]
  | m + 1, i, h => by
    have hG' := hG
    unfold GridOk at hG'
    have hD : G0 * G1 ≤ 20 * 7 := Nat.mul_le_mul (by omega) (by omega)
    have hset : (List.replicate i (List.replicate G2 false) ++ List.replicate (m + 1) [] : List (List Bool)).set i (List.replicate G2 false) = List.replicate (i + 1) (List.replicate G2 false) ++ List.replicate m [] := by
      refine Eq.trans (b := List.replicate i (List.replicate G2 false) ++ (List.replicate (m + 1) ([] : List Bool)).set 0 (List.replicate G2 false)) ?_ ?_
      · have := set_mid (List.replicate i (List.replicate G2 false)) (List.replicate (m + 1) ([] : List Bool)) 0 (List.replicate G2 false)
        rw [List.length_replicate] at this
        exact this
      · rw [List.replicate_succ, List.set_cons_zero, List.replicate_succ' (n := i)]
        simp
    refine Ev.step (f := fun k => person_slots.l0 k l (List.replicate (i + 1) (List.replicate G2 false) ++ List.replicate m []) ((G0 * G1 : Nat) : Int) ((i + 1 : Nat) : Int) (G0 : Int) (G1 : Int) (G2 : Int)) (fun k => ?_) (slots_l0 hG hr m (i + 1) (by omega))
    have hc : ((i + 1 : Nat) : Int) = (i : Int) + 1 := rfl
    have hll : (((List.replicate i (List.replicate G2 false) ++ List.replicate (m + 1) [] : List (List Bool)).length : Nat) : Int) = (G0 * G1 : Nat) := by rw [List.length_append, List.length_replicate, List.length_replicate, h]
    have hb1 : (i : Int) < ((G0 * G1 : Nat) : Int) := by omega
    rw [person_slots.l0, if_pos hb1, if_pos (Int.natCast_nonneg _), Int.toNat_natCast, if_pos (show G2 ≤ 281474976710656 by omega), if_pos (Int.natCast_nonneg _), hll, if_pos hb1, Int.toNat_natCast, hset, wrap64_in ((i : Int) + 1) (by omega), hc]
theorem slots_ev {G0 G1 G2 : Nat} (hG : GridOk (G0 : Int) (G1 : Int) (G2 : Int)) {l : List S49} (hl : l.length * 24 ≤ 140737488351232 ∧ ∀ x ∈ l, ok49 x) : Ev (fun k => person_slots.f k (G0 : Int) (G1 : Int) (G2 : Int) l) (grid (G0 * G1) G2 (inAt (G0 : Int) (G1 : Int) (G2 : Int) l)) := by
  have hG' := hG
  unfold GridOk at hG'
  have hD : G0 * G1 ≤ 20 * 7 := Nat.mul_le_mul (by omega) (by omega)
  have e1 : (G0 : Int) * (G1 : Int) = ((G0 * G1 : Nat) : Int) := by simp
  have e : ∀ k, person_slots.f k (G0 : Int) (G1 : Int) (G2 : Int) l = person_slots.l0 k l (List.replicate 0 (List.replicate G2 false) ++ List.replicate (G0 * G1) []) ((G0 * G1 : Nat) : Int) ((0 : Nat) : Int) (G0 : Int) (G1 : Int) (G2 : Int) := fun k => by
    have hn : G0 * G1 ≤ 11728124029610 := by omega
    unfold person_slots.f
    rw [when_RightGrid_eq, Option.bind_some, if_pos (decide_eq_true hG), e1, wrap64_in ((G0 * G1 : Nat) : Int) (by omega), if_pos (Int.natCast_nonneg _), Int.toNat_natCast, if_pos hn, Option.bind_some, List.length_replicate]
    rfl
  exact Ev.congr e (slots_l0 hG (l := l) (slots_l1 hG (small hl.1 (by omega)) hl.2 l [] rfl) (G0 * G1) 0 (by omega))
theorem busy_l1 {S : Int → Int → Prop} {acc : List Int} {rows : List (List Bool)} {n i : Int} {bs : List Bool} (hb : bs.length < 1000000) (ha : acc.length < 1000000) {r : List Int} : ∀ (xs pre : List Bool) (c : Nat), bs = pre ++ xs → c ≤ pre.length →
    Ev (fun k => person_Busy.l0 k (acc ++ [((c + (xs.filter id).length : Nat) : Int)]) rows n (wrap64 (i + 1))) r →
    Ev (fun k => person_Busy.l1 k acc (c : Int) rows n i bs (bs.length : Int) (pre.length : Int)) r
  | [], pre, c, h, hc, hr => by
    refine Ev.step (fun k => ?_) hr
    rw [person_Busy.l1, if_neg (by simp [h]), if_pos (by omega)]
    simp
  | x :: xs, pre, c, h, hc, hr => by
    have hlen : bs.length = pre.length + (xs.length + 1) := by simp [h]
    have hx : rdOf false bs (pre.length : Int) = x := by unfold rdOf; rw [h, Int.toNat_natCast, getD_mid]
    have hs : ((pre ++ [x]).length : Int) = (pre.length : Int) + 1 := by simp
    cases x with
    | true =>
      refine Ev.step (f := fun k => person_Busy.l1 k acc ((c + 1 : Nat) : Int) rows n i bs (bs.length : Int) ((pre ++ [true]).length : Int)) (fun k => ?_) (busy_l1 (S := S) hb ha xs (pre ++ [true]) (c + 1) (by simp [h]) (by simp; omega) ?_)
      · rw [person_Busy.l1, if_pos (by omega), if_pos (by omega), if_pos (by omega), hx, if_pos rfl, wrap64_in ((c : Int) + 1) (by omega), wrap64_in ((pre.length : Int) + 1) (by omega), hs]
        rfl
      · rw [List.filter_cons_of_pos (by simp), List.length_cons, show c + ((xs.filter id).length + 1) = c + 1 + (xs.filter id).length by omega] at hr
        exact hr
    | false =>
      refine Ev.step (f := fun k => person_Busy.l1 k acc (c : Int) rows n i bs (bs.length : Int) ((pre ++ [false]).length : Int)) (fun k => ?_) (busy_l1 (S := S) hb ha xs (pre ++ [false]) c (by simp [h]) (by simp; omega) ?_)
      · rw [person_Busy.l1, if_pos (by omega), if_pos (by omega), if_pos (by omega), hx, if_neg (by simp), wrap64_in ((pre.length : Int) + 1) (by omega), hs]
      · rw [List.filter_cons_of_neg (by simp)] at hr
        exact hr
theorem busy_l0 {G2 D : Nat} (hD : D ≤ 140) (hG2 : G2 ≤ 96) {F : Nat → Nat → Bool} : ∀ (m i : Nat), i + m = D →
    Ev (fun k => person_Busy.l0 k ((List.range i).map (fun d => (((List.range G2).filter (F d)).length : Int))) (grid D G2 F) (D : Int) (i : Int)) ((List.range D).map (fun d => (((List.range G2).filter (F d)).length : Int)))
  | 0, i, h => by
    obtain rfl : i = D := by omega
    refine Ev.step (f := fun _ => some ((List.range i).map (fun d => (((List.range G2).filter (F d)).length : Int)))) (fun k => ?_) (Ev.now _)
    rw [person_Busy.l0, if_neg (by omega)]
  | m + 1, i, h => by
    have ih := busy_l0 hD hG2 (F := F) m (i + 1) (by omega)
    rw [List.range_succ, List.map_append] at ih
    have hi : i < D := by omega
    refine Ev.step (f := fun k => person_Busy.l1 k ((List.range i).map (fun d => (((List.range G2).filter (F d)).length : Int))) ((0 : Nat) : Int) (grid D G2 F) (D : Int) (i : Int) ((List.range G2).map (F i)) (((List.range G2).map (F i)).length : Int) (([] : List Bool).length : Int)) (fun k => ?_) (busy_l1 (S := fun _ _ => True) (by simp; omega) (by simp; omega) _ [] 0 rfl (by omega) ?_)
    · rw [person_Busy.l0, if_pos (by omega), if_pos (by omega), if_pos (by rw [grid_len]; omega), grid_row hi]
      rfl
    · rw [wrap64_in ((i : Int) + 1) (by omega), Nat.zero_add, List.filter_map, List.length_map]
      exact ih
theorem grid_nat {g0 g1 g2 : Int} (hG : GridOk g0 g1 g2) : ∃ G0 G1 G2 : Nat, g0 = (G0 : Int) ∧ g1 = (G1 : Int) ∧ g2 = (G2 : Int) := by
  unfold GridOk at hG
  exact ⟨g0.toNat, g1.toNat, g2.toNat, by omega, by omega, by omega⟩
theorem Busy_ev {g0 g1 g2 : Int} {l : List S49} (hl : l.length * 24 ≤ 140737488351232 ∧ ∀ x ∈ l, ok49 x) : Ev (fun k => person_Busy.f k g0 g1 g2 l) (busyS g0 g1 g2 l) := by
  unfold person_Busy.f busyS
  by_cases hG : GridOk g0 g1 g2
  · rw [if_pos hG]
    obtain ⟨G0, G1, G2, rfl, rfl, rfl⟩ := grid_nat hG
    have hG' := hG
    unfold GridOk at hG'
    have hD : G0 * G1 ≤ 20 * 7 := Nat.mul_le_mul (by omega) (by omega)
    have e1 : (G0 : Int) * (G1 : Int) = ((G0 * G1 : Nat) : Int) := by simp
    refine Ev.bind (slots_ev hG hl) ?_
    rw [e1, Int.toNat_natCast, grid_len]
    unfold busyN
    rw [Int.toNat_natCast]
    exact busy_l0 (by omega) (by omega) (G0 * G1) 0 (by omega)
  · rw [if_neg hG]
    have : ∀ k, person_slots.f k g0 g1 g2 l = some [] := fun k => by
      unfold person_slots.f
      rw [when_RightGrid_eq, Option.bind_some, if_neg (by simpa using hG)]
    simp only [this, Option.bind_some]
    refine Ev.step (f := fun _ => some []) (fun k => ?_) (Ev.now _)
    rw [person_Busy.l0, if_neg (by simp)]
end Go.Proofs.Ytlfnpakpkniipaa.Q
