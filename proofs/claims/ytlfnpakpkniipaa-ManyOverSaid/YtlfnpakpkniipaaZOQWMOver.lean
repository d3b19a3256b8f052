/- Words for the claim. -/
import Derived.Test.YtlfnpakpkniipaaZOQMSum
import Derived.Test.YtlfnpakpkniipaaZOQMRef
import Derived.Test.YtlfnpakpkniipaaZOQMTells
import Derived.Test.YtlfnpakpkniipaaZOQx0
import Derived.Test.YtlfnpakpkniipaaZOQx10
import Derived.Test.YtlfnpakpkniipaaZOQx12
import Derived.Test.YtlfnpakpkniipaaZOQx15
import Derived.Test.YtlfnpakpkniipaaZOQx17
import Derived.Test.YtlfnpakpkniipaaZOQx18
import Derived.Test.YtlfnpakpkniipaaZOQx19
import Derived.Test.YtlfnpakpkniipaaZOQx20
import Derived.Test.YtlfnpakpkniipaaZOQx21
import Derived.Test.YtlfnpakpkniipaaZOQx22
import Derived.Test.YtlfnpakpkniipaaZOQx23
set_option linter.unusedVariables false
set_option linter.unusedSimpArgs false
namespace Go.Proofs.Ytlfnpakpkniipaa.Q
open Go.RowKit Go.IntWalk Go.Proofs.YtlfnpakpkniipaaW.PrintWords Go.Proofs.YtlfnpakpkniipaaW.PrintLast Go.Proofs.YtlfnpakpkniipaaW.PrintMore Go.Proofs.YtlfnpakpkniipaaH
theorem refdays_eq (g0 g1 g2 : Int) : horariumref12_days.f g0 g1 g2 = some ((dayN g0 g1 g2 : Nat) : Int) := by
  unfold horariumref12_days.f dayN
  rw [ref_RightGrid_eq, Option.bind_some]
  by_cases hg : GridOk g0 g1 g2
  · rw [if_pos (decide_eq_true hg), if_pos hg]
    unfold GridOk at hg
    have h1 : g0 * g1 ≤ 20 * 7 := Int.mul_le_mul (by omega) (by omega) (by omega) (by omega)
    have h0 : 0 ≤ g0 * g1 := Int.mul_nonneg (by omega) (by omega)
    rw [wrap64_in _ (by omega), Int.toNat_of_nonneg h0]
  · rw [if_neg (by simpa using hg), if_neg hg]
    rfl
theorem refIn_l0 {l : List S49} {g0 g1 g2 : Int} {d s : Nat} (hl : l.length < 9223372036854775807) (hk : ∀ x ∈ l, ok49 x) (hg : GridOk g0 g1 g2) (hd : (d : Int) < g0 * g1) : ∀ (xs pre : List S49), l = pre ++ xs →
    Ev (fun k => horariumref12_in.l0 k l (d : Int) (s : Int) (pre.length : Int) g0 g1 g2) (inAt g0 g1 g2 xs d s)
  | [], pre, h => by
    refine Ev.step (f := fun _ => some false) (fun k => ?_) (Ev.now _)
    rw [horariumref12_in.l0, if_neg (by simp [h])]
  | x :: xs, pre, h => by
    obtain ⟨p1, p2, p3, p4, p5⟩ := day_parts hg hd
    have hlen : l.length = pre.length + (xs.length + 1) := by simp [h]
    have hx := rdW_mid h
    have hxk := hk x (by simp [h])
    have hs : ((pre ++ [x]).length : Int) = (pre.length : Int) + 1 := by simp
    have ih := refIn_l0 (s := s) hl hk hg hd xs (pre ++ [x]) (by simp [h])
    have e : inAt g0 g1 g2 (x :: xs) d s = (onD g0 g1 g2 d x && decide (x.f2 ≤ (s : Int) ∧ (s : Int) < x.f2 + x.f3) || inAt g0 g1 g2 xs d s) := by unfold inAt; rw [List.any_cons]
    refine Ev.step (f := fun k => (horariumref09_Right.f k g0 g1 g2 x.f0 x.f1 x.f2 x.f3).bind fun t => if t = true then ((horariumref09_On.f k x.f0 x.f1 x.f2 x.f3 ((d / g1.toNat : Nat) : Int) ((d % g1.toNat : Nat) : Int) (s : Int)).bind fun t => if t = true then some true else horariumref12_in.l0 k l (d : Int) (s : Int) ((pre ++ [x]).length : Int) g0 g1 g2) else horariumref12_in.l0 k l (d : Int) (s : Int) ((pre ++ [x]).length : Int) g0 g1 g2) (fun k => ?_) ?_
    · rw [horariumref12_in.l0, if_pos (by omega), if_pos (by omega), hx, p2, p3, wrap64_in ((pre.length : Int) + 1) (by omega), hs]
      simp only [if_neg p1]
    · refine Ev.bind (refRight_ev hxk) ?_
      rw [e]
      cases hw : wok g0 g1 g2 x with
      | false =>
        refine Ev.congr (fun _ => by rw [if_neg (by simp)]) ?_
        have : onD g0 g1 g2 d x = false := by unfold onD; rw [hw]; rfl
        rw [this, Bool.false_and, Bool.false_or]
        exact ih
      | true =>
        refine Ev.congr (fun _ => by rw [if_pos rfl]) ?_
        have ht := wok_grid hw
        refine Ev.bind (On_ev hxk (by omega) (by omega) (by omega) (s : Int)) ?_
        have hon : (onD g0 g1 g2 d x && decide (x.f2 ≤ (s : Int) ∧ (s : Int) < x.f2 + x.f3)) = (x.f0.toNat.testBit (d / g1.toNat) && (x.f1.toNat.testBit (d % g1.toNat) && decide (x.f2 ≤ (s : Int) ∧ (s : Int) < x.f2 + x.f3))) := by unfold onD; rw [hw, Bool.true_and, Bool.and_assoc]
        rw [hon]
        cases (x.f0.toNat.testBit (d / g1.toNat) && (x.f1.toNat.testBit (d % g1.toNat) && decide (x.f2 ≤ (s : Int) ∧ (s : Int) < x.f2 + x.f3))) with
        | true => exact Ev.congr (fun _ => by rw [if_pos rfl, Bool.true_or]) (Ev.now _)
        | false =>
          refine Ev.congr (fun _ => by rw [if_neg (by simp)]) ?_
          rw [Bool.false_or]
          exact ih
theorem refBusy_l1 {l : List S49} {g0 g1 : Int} {G2 : Nat} {d : Nat} {acc : List Int} (hl : l.length * 24 ≤ 140737488351232 ∧ ∀ x ∈ l, ok49 x) (hg : GridOk g0 g1 (G2 : Int)) (hd : (d : Int) < g0 * g1) (ha : acc.length < 1000000) {r : List Int} : ∀ (m s c : Nat), s + m = G2 → c ≤ s →
    Ev (fun k => horariumref12_Busy.l0 k l (acc ++ [((c + ((List.range' s m).filter (inAt g0 g1 (G2 : Int) l d)).length : Nat) : Int)]) (wrap64 ((d : Int) + 1)) g0 g1 (G2 : Int)) r →
    Ev (fun k => horariumref12_Busy.l1 k l acc (d : Int) (c : Int) (s : Int) g0 g1 (G2 : Int)) r
  | 0, s, c, h, hc, hr => by
    refine Ev.step (fun k => ?_) hr
    rw [horariumref12_Busy.l1, if_neg (by omega), if_pos (by omega)]
    simp
  | m + 1, s, c, h, hc, hr => by
    have hg' := hg
    unfold GridOk at hg'
    have hc1 : ((c + 1 : Nat) : Int) = (c : Int) + 1 := rfl
    have hs1 : ((s + 1 : Nat) : Int) = (s : Int) + 1 := rfl
    refine Ev.step (f := fun k => (horariumref12_in.f k g0 g1 (G2 : Int) l (d : Int) (s : Int)).bind fun t => if t = true then horariumref12_Busy.l1 k l acc (d : Int) ((c + 1 : Nat) : Int) ((s + 1 : Nat) : Int) g0 g1 (G2 : Int) else horariumref12_Busy.l1 k l acc (d : Int) (c : Int) ((s + 1 : Nat) : Int) g0 g1 (G2 : Int)) (fun k => ?_) ?_
    · rw [horariumref12_Busy.l1, if_pos (by omega), wrap64_in ((c : Int) + 1) (by omega), wrap64_in ((s : Int) + 1) (by omega), hc1, hs1]
    · refine Ev.bind (a := inAt g0 g1 (G2 : Int) l d s) (by unfold horariumref12_in.f; exact refIn_l0 (small hl.1 (by omega)) hl.2 hg hd l [] rfl) ?_
      rw [List.range'_succ, List.filter_cons] at hr
      cases hq : inAt g0 g1 (G2 : Int) l d s with
      | true =>
        refine Ev.congr (fun _ => by rw [if_pos rfl]) (refBusy_l1 hl hg hd ha m (s + 1) (c + 1) (by omega) (by omega) ?_)
        rw [if_pos hq, List.length_cons, show c + (((List.range' (s + 1) m).filter (inAt g0 g1 (G2 : Int) l d)).length + 1) = c + 1 + ((List.range' (s + 1) m).filter (inAt g0 g1 (G2 : Int) l d)).length by omega] at hr
        exact hr
      | false =>
        refine Ev.congr (fun _ => by rw [if_neg (by simp)]) (refBusy_l1 hl hg hd ha m (s + 1) c (by omega) (by omega) ?_)
        rw [if_neg (by rw [hq]; simp)] at hr
        exact hr
theorem refBusy_l0 {l : List S49} {g0 g1 g2 : Int} (hl : l.length * 24 ≤ 140737488351232 ∧ ∀ x ∈ l, ok49 x) : ∀ (m d : Nat), d + m = dayN g0 g1 g2 →
    Ev (fun k => horariumref12_Busy.l0 k l ((List.range d).map (fun d => (busyN g0 g1 g2 l d : Int))) (d : Int) g0 g1 g2) (busyS g0 g1 g2 l)
  | 0, d, h => by
    obtain rfl : d = dayN g0 g1 g2 := by omega
    refine Ev.step (f := fun _ => some (busyS g0 g1 g2 l)) (fun k => ?_) (Ev.now _)
    rw [horariumref12_Busy.l0, refdays_eq, Option.bind_some, if_neg (by omega), busyS_eq]
  | m + 1, d, h => by
    have hdd : d < dayN g0 g1 g2 := by omega
    have hD := dayN_le g0 g1 g2
    have hg := dayN_pos hdd
    have hdg := dayN_day hdd
    have ih := refBusy_l0 (g0 := g0) (g1 := g1) (g2 := g2) hl m (d + 1) (by omega)
    rw [List.range_succ, List.map_append] at ih
    obtain ⟨G2, rfl⟩ := Int.eq_ofNat_of_zero_le (show 0 ≤ g2 by unfold GridOk at hg; omega)
    refine Ev.step (f := fun k => horariumref12_Busy.l1 k l ((List.range d).map (fun d => (busyN g0 g1 (G2 : Int) l d : Int))) (d : Int) ((0 : Nat) : Int) ((0 : Nat) : Int) g0 g1 (G2 : Int)) (fun k => ?_) (refBusy_l1 hl hg hdg (by simp; omega) G2 0 0 (by omega) (by omega) ?_)
    · rw [horariumref12_Busy.l0, refdays_eq, Option.bind_some, if_pos (by omega)]
      rfl
    · rw [wrap64_in ((d : Int) + 1) (by omega), Nat.zero_add, ← List.range_eq_range']
      unfold busyN at ih ⊢
      rw [Int.toNat_natCast] at ih ⊢
      exact ih
theorem refBusy_ev {l : List S49} {g0 g1 g2 : Int} (hl : l.length * 24 ≤ 140737488351232 ∧ ∀ x ∈ l, ok49 x) : Ev (fun k => horariumref12_Busy.f k g0 g1 g2 l) (busyS g0 g1 g2 l) := by
  unfold horariumref12_Busy.f
  exact refBusy_l0 hl (dayN g0 g1 g2) 0 (by omega)
theorem refOver_skip {l : List S49} {g0 g1 g2 k a b : Int} {busy : List Int} {bl : List S25} {d : Nat} (hd : d < 1000) {acc r : Int} (hk : k ≠ 24) (hr : Ev (fun n => horariumref16_Over.l0 n k a b l acc busy ((d + 1 : Nat) : Int) g0 g1 g2) r) :
    Ev (fun n => horariumref16_Over.l1 n k a b l acc busy (d : Int) bl 0 g0 g1 g2) r := by
  have h1 : Ev (fun n => horariumref16_Over.j4 n k a b l acc busy (d : Int) bl 0 false g0 g1 g2) r := by
    refine Ev.step (fun n => ?_) hr
    rw [horariumref16_Over.j4, if_neg (by simp), wrap64_in ((d : Int) + 1) (by omega)]
    rfl
  refine Ev.step (fun n => ?_) h1
  have e : (k == 24) = false := by rw [beq_eq_false_iff_ne]; exact hk
  rw [horariumref16_Over.l1, e, ite_self]
theorem refOver_long {l : List S49} {g0 g1 g2 a b : Int} {busy : List Int} {bl : List S25} (hbl : bl.length < 1000000000000000) {d : Nat} (hd : d < 1000) {r : Int} : ∀ (xs pre : List S25) (acc : Int), bl = pre ++ xs → 0 ≤ acc → acc ≤ 1000000000000000 + pre.length →
    Ev (fun n => horariumref16_Over.l0 n 24 a b l (acc + (longN xs a : Int)) busy ((d + 1 : Nat) : Int) g0 g1 g2) r →
    Ev (fun n => horariumref16_Over.l1 n 24 a b l acc busy (d : Int) bl (pre.length : Int) g0 g1 g2) r
  | [], pre, acc, h, h0, h1, hr => by
    have hr' : Ev (fun n => horariumref16_Over.j4 n 24 a b l acc busy (d : Int) bl (pre.length : Int) false g0 g1 g2) r := by
      refine Ev.step (fun n => ?_) hr
      rw [horariumref16_Over.j4, if_neg (by simp), wrap64_in ((d : Int) + 1) (by omega)]
      simp [longN]
    refine Ev.step (fun n => ?_) hr'
    rw [horariumref16_Over.l1, if_neg (by simp [h])]
  | x :: xs, pre, acc, h, h0, h1, hr => by
    have hlen : bl.length = pre.length + (xs.length + 1) := by simp [h]
    have hx := rdB_mid h
    have hs : ((pre ++ [x]).length : Int) = (pre.length : Int) + 1 := by simp
    have hsn : (pre ++ [x]).length = pre.length + 1 := by simp
    have e : longN (x :: xs) a = (if (decide (x.f1 ≥ 2) && decide (x.f0 > a)) = true then 1 else 0) + longN xs a := by
      unfold longN
      rw [List.filter_cons]
      split
      · rw [List.length_cons]; omega
      · omega
    have hj : Ev (fun n => horariumref16_Over.j4 n 24 a b l acc busy (d : Int) bl (pre.length : Int) true g0 g1 g2) r := by
      by_cases hq : (decide (x.f1 ≥ 2) && decide (x.f0 > a)) = true
      · rw [e, if_pos hq] at hr
        have ih := refOver_long hbl hd xs (pre ++ [x]) (acc + 1) (by simp [h]) (by omega) (by omega) (by
          rw [show acc + 1 + (longN xs a : Int) = acc + ((1 + longN xs a : Nat) : Int) by omega]
          exact hr)
        refine Ev.step (fun n => ?_) ih
        simp only [Bool.and_eq_true, decide_eq_true_eq] at hq
        rw [horariumref16_Over.j4, if_pos rfl, if_pos (by omega), if_pos (by omega), hx, if_pos (by omega), if_pos hq.2, wrap64_in (acc + 1) (by omega), wrap64_in ((pre.length : Int) + 1) (by omega), hs]
      · rw [e, if_neg hq, Nat.zero_add] at hr
        have ih := refOver_long hbl hd xs (pre ++ [x]) acc (by simp [h]) (by omega) (by omega) hr
        refine Ev.step (fun n => ?_) ih
        simp only [Bool.and_eq_true, decide_eq_true_eq] at hq
        rw [horariumref16_Over.j4, if_pos rfl, if_pos (by omega), if_pos (by omega), hx, wrap64_in ((pre.length : Int) + 1) (by omega), hs]
        by_cases q1 : x.f1 > 1
        · rw [if_pos q1, if_neg (fun h => hq ⟨by omega, h⟩)]
        · rw [if_neg q1]
    refine Ev.step (fun n => ?_) hj
    rw [horariumref16_Over.l1, if_pos (by omega)]
    rfl
theorem refOver_ev {l : List S49} {g0 g1 g2 k a b : Int} (hl : l.length * 24 ≤ 140737488351232 ∧ ∀ x ∈ l, ok49 x) (ha : a ≤ 9223372036854775807) : Ev (fun n => horariumref16_Over.f n g0 g1 g2 k a b l) (overS g0 g1 g2 l k a b) := by
  have hm : mx a 0 = mx 0 a := mx_comm _ _
  have ha0 := mx_nonneg a
  have ha1 := mx_top ha
  have hD := dayN_le g0 g1 g2
  unfold horariumref16_Over.f overS
  simp only [hm]
  by_cases h21 : k = 21
  · simp only [if_pos h21]
    refine Ev.bind (refDays_ev hl) ?_
    have h7 : daysN g0 g1 g2 l ≤ 7 := by
      have ht : ∀ b : Bool, b.toNat ≤ 1 := fun b => by cases b <;> simp
      unfold daysN
      have := ht (onDow g0 g1 g2 l 0); have := ht (onDow g0 g1 g2 l 1); have := ht (onDow g0 g1 g2 l 2); have := ht (onDow g0 g1 g2 l 3); have := ht (onDow g0 g1 g2 l 4); have := ht (onDow g0 g1 g2 l 5); have := ht (onDow g0 g1 g2 l 6)
      omega
    rw [wrap64_in ((daysN g0 g1 g2 l : Int) - mx 0 a) (by omega), mx_comm]
    exact Ev.now _
  simp only [if_neg h21]
  refine Ev.bind (refBusy_ev hl) ?_
  refine sum_loop' (M := 5864062014730) (g := fun n acc d => horariumref16_Over.l0 n k (mx 0 a) b l acc (busyS g0 g1 g2 l) d g0 g1 g2) (by omega) hD (fun d hd => stepS_bounds (dayN_pos hd) ha0 hl.1) ?_ ?_
  · intro acc d r hd h0 h1 hr
    have hg := dayN_pos hd
    have hbd := stepS_bounds (l := l) (k := k) (b := b) (d := d) hg ha0 hl.1
    have hbn := busyN_le g0 g1 g2 l d hg
    have hbl := (blocksS_ok (g0 := g0) (g1 := g1) (g2 := g2) (day := (d : Int)) (gap := b) (l := l)).1
    refine Ev.step (f := fun n => (horariumref16_Blocks.f n g0 g1 g2 l (d : Int) b).bind fun t => if k = 22 then horariumref16_Over.j1 n k (mx 0 a) b l (wrap64 (acc + (mx (wrap64 ((busyN g0 g1 g2 l d : Int) - mx 0 a)) 0))) (busyS g0 g1 g2 l) (d : Int) t g0 g1 g2 else horariumref16_Over.j1 n k (mx 0 a) b l acc (busyS g0 g1 g2 l) (d : Int) t g0 g1 g2) (fun n => ?_) (Ev.bind (refBlocks_ev hl) ?_)
    · rw [horariumref16_Over.l0, if_pos (by rw [busyS_len]; omega), busyS_rd hd]
      simp only [if_pos (show (0 : Int) ≤ (d : Int) by omega)]
    · by_cases h22 : k = 22
      · simp only [if_pos h22]
        have e : stepS g0 g1 g2 l k (mx 0 a) b d = mx 0 ((busyN g0 g1 g2 l d : Int) - mx 0 a) := by unfold stepS; rw [if_pos h22]
        rw [e] at hbd hr
        rw [wrap64_in ((busyN g0 g1 g2 l d : Int) - mx 0 a) (by omega), mx_comm ((busyN g0 g1 g2 l d : Int) - mx 0 a) 0, wrap64_in (acc + mx 0 ((busyN g0 g1 g2 l d : Int) - mx 0 a)) (by omega)]
        refine Ev.step (fun n => by rw [horariumref16_Over.j1, if_neg (by omega)]) ?_
        refine Ev.step (fun n => by rw [horariumref16_Over.j2]) ?_
        exact refOver_skip (by omega) (by omega) hr
      simp only [if_neg h22]
      by_cases h23 : k = 23
      · have e : stepS g0 g1 g2 l k (mx 0 a) b d = mx 0 (((blocksS g0 g1 g2 l (d : Int) b).length : Int) - 1 - mx 0 a) := by unfold stepS; rw [if_neg h22, if_pos h23]
        rw [e] at hbd hr
        refine Ev.step (f := fun n => horariumref16_Over.j2 n k (mx 0 a) b l (acc + mx 0 (((blocksS g0 g1 g2 l (d : Int) b).length : Int) - 1 - mx 0 a)) (busyS g0 g1 g2 l) (d : Int) (blocksS g0 g1 g2 l (d : Int) b) g0 g1 g2) (fun n => ?_) ?_
        · rw [horariumref16_Over.j1, if_pos h23, wrap64_in (((blocksS g0 g1 g2 l (d : Int) b).length : Int) - 1) (by omega), wrap64_in (((blocksS g0 g1 g2 l (d : Int) b).length : Int) - 1 - mx 0 a) (by omega), mx_comm (((blocksS g0 g1 g2 l (d : Int) b).length : Int) - 1 - mx 0 a) 0, wrap64_in (acc + mx 0 (((blocksS g0 g1 g2 l (d : Int) b).length : Int) - 1 - mx 0 a)) (by omega)]
        refine Ev.step (fun n => by rw [horariumref16_Over.j2]) ?_
        exact refOver_skip (by omega) (by omega) hr
      refine Ev.step (fun n => by rw [horariumref16_Over.j1, if_neg h23]) ?_
      refine Ev.step (fun n => by rw [horariumref16_Over.j2]) ?_
      by_cases h24 : k = 24
      · have e : stepS g0 g1 g2 l k (mx 0 a) b d = (longN (blocksS g0 g1 g2 l (d : Int) b) (mx 0 a) : Int) := by unfold stepS; rw [if_neg h22, if_neg h23, if_pos h24]
        rw [e] at hr
        subst h24
        exact refOver_long (by omega) (by omega) _ [] acc rfl h0 (by simp; omega) hr
      · have e : stepS g0 g1 g2 l k (mx 0 a) b d = 0 := by unfold stepS; rw [if_neg h22, if_neg h23, if_neg h24]
        rw [e, Int.add_zero] at hr
        exact refOver_skip (by omega) h24 hr
  · intro acc
    refine Ev.step (f := fun _ => some acc) (fun n => ?_) (Ev.now _)
    rw [horariumref16_Over.l0, if_neg (by rw [busyS_len]; omega)]
theorem ManyOver_ev (a0 : S23) (a1 : Int) (a2 : S25) (y2 : ok25 a2) (a3 : List S49) (a4 : Bool) (y3 : a3.length * 24 ≤ 140737488351232 ∧ ∀ z ∈ a3, ok49 z) : Ev (fun k => horariumlaw16_ManyOver.f k a0.f0 a0.f1 a0.f2 a1 a2.f0 a2.f1 a3 a4) true := by
  have h2 := wf_i64 y2.1
  unfold horariumlaw16_ManyOver.f
  simp only [few_eq, Option.bind_some, decide_eq_true_eq]
  split
  rotate_left
  · exact Ev.bind heads_ev (Ev.now _)
  rename_i hf
  have hov : Ev (fun n => many_Over.f n a0.f0 a0.f1 a0.f2 a1 a2.f0 a2.f1 a3) (overS a0.f0 a0.f1 a0.f2 a3 a1 a2.f0 a2.f1) := Over_ev y3 h2.2 (fun d _ => few_flt hf _)
  have hrov : Ev (fun n => horariumref16_Over.f n a0.f0 a0.f1 a0.f2 a1 a2.f0 a2.f1 a3) (overS a0.f0 a0.f1 a0.f2 a3 a1 a2.f0 a2.f1) := refOver_ev y3 h2.2
  refine Ev.bind hov (Ev.bind hrov ?_)
  simp only [if_true]
  have hbr : ∃ r, Ev (fun k => many_Broken.f k a0.f0 a0.f1 a0.f2 a1 a2.f0 a2.f1 a3 a4) r ∧ Ev (fun k => horariumref16_Broken.f k a0.f0 a0.f1 a0.f2 a1 a2.f0 a2.f1 a3 a4) r := by
    unfold many_Broken.f horariumref16_Broken.f
    by_cases q1 : a4 = true
    · simp only [if_pos q1]
      exact ⟨_, Ev.bind hov (Ev.now _), Ev.bind hrov (Ev.now _)⟩
    simp only [if_neg q1]
    by_cases q2 : a1 = 23
    · simp only [if_pos q2]
      exact ⟨_, Ev.now _, Ev.now _⟩
    simp only [if_neg q2]
    exact ⟨_, Ev.bind hov (Ev.now _), Ev.bind hrov (Ev.now _)⟩
  have hle : ∃ r, Ev (fun k => many_Least.f k a0.f0 a0.f1 a0.f2 a1 a2.f0 a2.f1 a3 a4) r ∧ Ev (fun k => horariumref16_Least.f k a0.f0 a0.f1 a0.f2 a1 a2.f0 a2.f1 a3 a4) r := by
    unfold many_Least.f horariumref16_Least.f
    by_cases q1 : a4 = true
    · simp only [if_pos q1]
      exact ⟨_, Ev.bind hov (Ev.now _), Ev.bind hrov (Ev.now _)⟩
    simp only [if_neg q1]
    by_cases q2 : a1 = 23
    · simp only [if_pos q2]
      exact ⟨_, Ev.now _, Ev.now _⟩
    simp only [if_neg q2]
    by_cases q3 : a1 = 24
    · simp only [if_pos q3]
      exact ⟨_, Ev.now _, Ev.now _⟩
    simp only [if_neg q3]
    exact ⟨_, Ev.bind hov (Ev.now _), Ev.bind hrov (Ev.now _)⟩
  obtain ⟨b, hb1, hb2⟩ := hbr
  obtain ⟨c, hc1, hc2⟩ := hle
  refine Ev.bind hb1 (Ev.bind hb2 ?_)
  simp only [beq_self_eq_true, if_true]
  refine Ev.bind hc1 (Ev.bind hc2 ?_)
  simp only [if_true]
  exact Ev.bind heads_ev (Ev.now _)
theorem horariumlaw16_ManyOver.walk (w : World) (a0 : S23) (cs0 : Array Value) (w0 : k23.K w a0 cs0.toList) (y0 : ok23 a0) (a1 : Int) (w1 : (Lit.int .i64 a1).wf = true) (a2 : S25) (cs2 : Array Value) (w2 : k25.K w a2 cs2.toList) (y2 : ok25 a2) (a3 : (List S49)) (A3 : Option Addr) (len3 cap3 : Nat) (w3 : (Kd.slice 49 k49).K w a3 [.slice A3 len3 cap3]) (y3 : (a3.length * 24 ≤ 140737488351232 ∧ ∀ z ∈ a3, ok49 z)) (a4 : Bool) :
    Calls Try.prog 6 #[.agg cs0, .int .i64 a1, .agg cs2, .slice A3 len3 cap3, .bool a4] w fun e w' => e = .returned (.bool true) ∧ Below w.heap.size w w' := by
  obtain rfl := arr_of (k23_open w0)
  obtain rfl := arr_of (k25_open w2)
  obtain ⟨_, _, e3, l3, g3⟩ := w3
  cases e3
  obtain ⟨k, hk⟩ := (ManyOver_ev a0 a1 a2 y2 a3 a4 y3).rounds
  refine (horariumlaw16_ManyOver.calls k _ _ _ _ _ _ _ _ _ _ true (Aside0.mk rfl) w g3 l3 hk).mono ?_
  rintro e w' h
  exact h
end Go.Proofs.Ytlfnpakpkniipaa.Q
