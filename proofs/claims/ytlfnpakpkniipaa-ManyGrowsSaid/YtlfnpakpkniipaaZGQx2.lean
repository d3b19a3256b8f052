/- Words for the claim. -/
import Derived.Test.YtlfnpakpkniipaaZGWords
import Derived.Test.YtlfnpakpkniipaaZGQx0
namespace Go.Proofs.Ytlfnpakpkniipaa.Q
open Go.RowKit Go.Proofs.YtlfnpakpkniipaaW.PrintWords Go.Proofs.YtlfnpakpkniipaaW.PrintLast Go.Proofs.YtlfnpakpkniipaaW.PrintMore
attribute [local go_sem] max2_int min2_int max_two min_two max_three min_three max_four min_four
set_option linter.unusedVariables false
set_option linter.unusedSimpArgs false
def horariumlaw16_few.f (l0 : List (S49)) : Option (Bool) := some (decide ((l0.length : Int) ≤ 12))
set_option maxHeartbeats 8000000 in
set_option maxRecDepth 100000 in
theorem horariumlaw16_few.calls (A0 : Option Addr) (c0 : Nat) (l0 : List (S49)) (r : Bool) (w : World) (hr0 : Kd.C k49 w A0 l0.length l0) (hc0 : l0.length ≤ c0) (h : horariumlaw16_few.f l0 = some r) :
  Calls Try.prog 9 #[.slice A0 l0.length c0] w fun e w' => e = .returned (.bool r) ∧ Drawn0 w w' := by
 have HR0 := zm hr0
 have HC0 := zm hc0
 clear hr0 hc0
 have H : (some (decide ((l0.length : Int) ≤ 12))) = some r := h
 clear h
 obtain rfl := Option.some.inj H
 go_enter Try.func9, Try.ntmps9
 go_wp2
 go_ret
 exact ⟨by first | rfl | (simp; done) | (simp [*]; done), by repeat (first | exact Drawn0.refl _ | apply Drawn0.step)⟩
def many_Known.f (a0 : Int) : Option (Bool) := if a0 ≥ 21 then (some (decide (a0 ≤ 24))) else (some false)
set_option maxHeartbeats 8000000 in
set_option maxRecDepth 100000 in
theorem many_Known.calls (a0 : Int) (r : Bool) (w : World) (h : many_Known.f a0 = some r) :
  Calls Try.prog 11 #[.int .i64 a0] w fun e w' => e = .returned (.bool r) ∧ Drawn0 w w' := by
 have H : (if a0 ≥ 21 then (some (decide (a0 ≤ 24))) else (some false)) = some r := h
 clear h
 by_cases c2 : a0 ≥ 21
 ·rw [if_pos c2] at H
  have c2b0 : decide (21 ≤ a0) = true := decide_eq_true c2
  clear c2
  obtain rfl := Option.some.inj H
  go_enter Try.func11, Try.ntmps11
  go_wp2
  go_ret
  exact ⟨by first | rfl | (simp; done) | (simp [*]; done), by repeat (first | exact Drawn0.refl _ | apply Drawn0.step)⟩
 rw [if_neg c2] at H
 have c2b0 : decide (21 ≤ a0) = false := decide_eq_false c2
 clear c2
 obtain rfl := Option.some.inj H
 go_enter Try.func11, Try.ntmps11
 go_wp2
 go_ret
 exact ⟨by first | rfl | (simp; done) | (simp [*]; done), by repeat (first | exact Drawn0.refl _ | apply Drawn0.step)⟩
def many_within.f (a0 : Int) (a1 : Int) (a2 : Int) : Option (Bool) := if a1 ≤ a0 then (some (decide (a0 ≤ a2))) else (some false)
set_option maxHeartbeats 8000000 in
set_option maxRecDepth 100000 in
theorem many_within.calls (a0 : Int) (a1 : Int) (a2 : Int) (r : Bool) (w : World) (h : many_within.f a0 a1 a2 = some r) :
  Calls Try.prog 29 #[.int .i64 a0, .int .i64 a1, .int .i64 a2] w fun e w' => e = .returned (.bool r) ∧ Drawn0 w w' := by
 have H : (if a1 ≤ a0 then (some (decide (a0 ≤ a2))) else (some false)) = some r := h
 clear h
 by_cases c4 : a1 ≤ a0
 ·rw [if_pos c4] at H
  have c4b0 : decide (a1 ≤ a0) = true := decide_eq_true c4
  clear c4
  obtain rfl := Option.some.inj H
  go_enter Try.func29, Try.ntmps29
  go_wp2
  go_ret
  exact ⟨by first | rfl | (simp; done) | (simp [*]; done), by repeat (first | exact Drawn0.refl _ | apply Drawn0.step)⟩
 rw [if_neg c4] at H
 have c4b0 : decide (a1 ≤ a0) = false := decide_eq_false c4
 clear c4
 obtain rfl := Option.some.inj H
 go_enter Try.func29, Try.ntmps29
 go_wp2
 go_ret
 exact ⟨by first | rfl | (simp; done) | (simp [*]; done), by repeat (first | exact Drawn0.refl _ | apply Drawn0.step)⟩
def many_Right.j0 : Nat → Int → Int → Int → Int → Bool → Option (Bool)
 | 0, _, _, _, _, _ => none
 | k + 1, x0, x1, x2, x7, x16 => if x16 = true then ((many_within.f x1 1 96).bind fun t102 => (if t102 = true then (some (x2 == 0)) else (some false))) else (if x7 = 23 then ((many_within.f x1 0 48).bind fun t103 => (if t103 = true then ((many_within.f x2 0 96).bind fun t104 => (some t104)) else (some false))) else (if x7 = 24 then ((many_within.f x1 1 96).bind fun t105 => (if t105 = true then ((many_within.f x2 0 96).bind fun t106 => (some t106)) else (some false))) else ((many_within.f x0 1 14).bind fun t107 => (if t107 = true then (if x1 = 0 then (some (x2 == 0)) else (some false)) else (some false)))))
def many_Right.f (k : Nat) (a0 : Int) (a1 : Int) (a2 : Int) : Option (Bool) := if a0 = 21 then ((many_within.f a1 1 7).bind fun t101 => (if t101 = true then (some (a2 == 0)) else (some false))) else (if a0 = 22 then (many_Right.j0 k a0 a1 a2 a0 (a0 == 22)) else (many_Right.j0 k a0 a1 a2 a0 (a0 == 13)))
theorem many_Right.mono_l : ∀ k, (∀ y0 y1 y2 y3 y4, LeO (many_Right.j0 k y0 y1 y2 y3 y4) (many_Right.j0 (k + 1) y0 y1 y2 y3 y4))
 | 0 => fun _ _ _ _ _ r h => by simp [many_Right.j0] at h
 | k + 1 => by
  have ih0 := many_Right.mono_l k
  intro y0 y1 y2 y3 y4
  unfold many_Right.j0
  repeat' first
  | (with_reducible exact ih0 _ _ _ _ _)
  | (with_reducible exact LeO.refl _)
  | (with_reducible exact LeO.none _)
  | (with_reducible refine LeO.ite ?_ ?_)
  | (with_reducible refine LeO.bind ?_ (fun _ => ?_))
  | refine LeO.ite ?_ ?_
  | refine LeO.bind ?_ (fun _ => ?_)
theorem many_Right.mono : ∀ a0 a1 a2 k, LeO (many_Right.f k a0 a1 a2) (many_Right.f (k + 1) a0 a1 a2) := by
 intro a0 a1 a2 k
 have ih0 := many_Right.mono_l k
 unfold many_Right.f
 repeat' first
   | (with_reducible exact ih0 _ _ _ _ _)
   | (with_reducible exact LeO.refl _)
   | (with_reducible exact LeO.none _)
   | (with_reducible refine LeO.ite ?_ ?_)
   | (with_reducible refine LeO.bind ?_ (fun _ => ?_))
   | refine LeO.ite ?_ ?_
   | refine LeO.bind ?_ (fun _ => ?_)
set_option maxHeartbeats 8000000 in
set_option maxRecDepth 100000 in
theorem many_Right.calls (k : Nat) (a0 : Int) (a1 : Int) (a2 : Int) (r : Bool) (w : World) (h : many_Right.f k a0 a1 a2 = some r) :
  Calls Try.prog 13 #[.int .i64 a0, .int .i64 a1, .int .i64 a2] w fun e w' => e = .returned (.bool r) ∧ Drawn0 w w' := by
 have H : (if a0 = 21 then ((many_within.f a1 1 7).bind fun t101 => (if t101 = true then (some (a2 == 0)) else (some false))) else (if a0 = 22 then (many_Right.j0 k a0 a1 a2 a0 (a0 == 22)) else (many_Right.j0 k a0 a1 a2 a0 (a0 == 13)))) = some r := h
 clear h
 by_cases c4 : a0 = 21
 ·rw [if_pos c4] at H
  have c4b0 : (a0 == 21) = true := beq_iff_eq.mpr c4
  have c4b1 : (a0 != 21) = false := bne_eq_false_iff_eq.mpr c4
  clear c4
  replace H := zo H
  obtain ⟨t101, A50, H⟩ := H
  have A5 := zm A50
  clear A50
  by_cases c6 : t101 = true
  ·subst c6
   have H1 : (some (a2 == 0)) = some r := by rw [if_pos rfl] at H; exact H
   clear H
   have H := H1
   clear H1
   obtain rfl := Option.some.inj H
   go_enter Try.func13, Try.ntmps13
   go_wp2_with (first | ((with_reducible refine gate_callee (f := 29) rfl ?_); refine goesL_ (some 11) rfl rfl Try.func29 (by kernel_rfl) rfl #[.int .i64 a1, .int .i64 1, .int .i64 7] rfl (by (try simp only [zt1, zt2, zt3]) <;> rfl) ?_; (with_reducible refine (many_within.calls a1 1 7 true _ A5.out).mono ?_); rintro e w' ⟨rfl, ⟨nd, rfl⟩⟩; refine ⟨_, rfl, ?_⟩))
   go_ret
   exact ⟨by first | rfl | (simp; done) | (simp [*]; done), by repeat (first | exact Drawn0.refl _ | apply Drawn0.step)⟩
  replace c6 := Bool.eq_false_iff.mpr c6
  subst c6
  have H1 : (some false) = some r := by rw [if_neg (show ¬ (false = true) by decide)] at H; exact H
  clear H
  have H := H1
  clear H1
  obtain rfl := Option.some.inj H
  go_enter Try.func13, Try.ntmps13
  go_wp2_with (first | ((with_reducible refine gate_callee (f := 29) rfl ?_); refine goesL_ (some 11) rfl rfl Try.func29 (by kernel_rfl) rfl #[.int .i64 a1, .int .i64 1, .int .i64 7] rfl (by (try simp only [zt1, zt2, zt3]) <;> rfl) ?_; (with_reducible refine (many_within.calls a1 1 7 false _ A5.out).mono ?_); rintro e w' ⟨rfl, ⟨nd, rfl⟩⟩; refine ⟨_, rfl, ?_⟩))
  go_ret
  exact ⟨by first | rfl | (simp; done) | (simp [*]; done), by repeat (first | exact Drawn0.refl _ | apply Drawn0.step)⟩
 rw [if_neg c4] at H
 have c4b0 : (a0 == 21) = false := beq_eq_false_iff_ne.mpr c4
 have c4b1 : (a0 != 21) = true := bne_iff_ne.mpr c4
 have HC7 := zm H
 clear H
 go_enter Try.func13, Try.ntmps13
 go_upto_if 16 with (fail)
 go_cut [16] (fun v16 wc => ∃ (kq : Nat) (x16_6 : Bool), v16 = .bool x16_6 ∧ Aside0 (many_Right.j0 kq a0 a1 a2 a0 x16_6 = some r) ∧ Aside0 (kq ≤ k) ∧ Drawn0 w wc)
 case first =>
  have H := HC7.out
  clear HC7
  by_cases c8 : a0 = 22
  ·rw [if_pos c8] at H
   have c8b0 : (a0 == 22) = true := beq_iff_eq.mpr c8
   have c8b1 : (a0 != 22) = false := bne_eq_false_iff_eq.mpr c8
   clear c8
   (first | rw [c8b0] | (simp only [i64_w, i32_w]; rw [c8b0]) | skip)
   have H' := zm H
   clear H
   go_wp2
   go_meet
   case rel => exact ⟨_, ((a0 == 22)), (by first | rfl | (simp; done) | (simp [*]; done)), H', ⟨by first | omega | exact Nat.le_refl _⟩, by repeat (first | exact Drawn0.refl _ | apply Drawn0.step)⟩
  rw [if_neg c8] at H
  have c8b0 : (a0 == 22) = false := beq_eq_false_iff_ne.mpr c8
  have c8b1 : (a0 != 22) = true := bne_iff_ne.mpr c8
  (first | rw [c8b0] | (simp only [i64_w, i32_w]; rw [c8b0]) | skip)
  have H' := zm H
  clear H
  go_wp2
  go_meet
  case rel => exact ⟨_, ((a0 == 13)), (by first | rfl | (simp; done) | (simp [*]; done)), H', ⟨by first | omega | exact Nat.le_refl _⟩, by repeat (first | exact Drawn0.refl _ | apply Drawn0.step)⟩
 case rest =>
  clear HC7
  (try clear c1); (try clear c2); (try clear p2); (try clear c4); (try clear c4b0); (try clear c4b1); (try clear c6); (try clear c8); (try clear c8b0); (try clear c8b1)
  obtain ⟨kq, x16_6, rfl, HA, HJ6, ⟨mc6, rfl⟩⟩ := hcut
  cases kq with
  | zero => exact absurd HA.out (by simp [many_Right.j0])
  | succ kj6 =>
   have H := HA.out
   clear HA
   simp only [many_Right.j0] at H
   by_cases c9 : x16_6 = true
   ·subst c9
    have H1 : ((many_within.f a1 1 96).bind fun t102 => (if t102 = true then (some (a2 == 0)) else (some false))) = some r := by rw [if_pos rfl] at H; exact H
    clear H
    have H := H1
    clear H1
    replace H := zo H
    obtain ⟨t102, A100, H⟩ := H
    have A10 := zm A100
    clear A100
    by_cases c11 : t102 = true
    ·subst c11
     have H1 : (some (a2 == 0)) = some r := by rw [if_pos rfl] at H; exact H
     clear H
     have H := H1
     clear H1
     obtain rfl := Option.some.inj H
     go_wp2_with (first | ((with_reducible refine gate_callee (f := 29) rfl ?_); refine goesL_ (some 20) rfl rfl Try.func29 (by kernel_rfl) rfl #[.int .i64 a1, .int .i64 1, .int .i64 96] rfl (by (try simp only [zt1, zt2, zt3]) <;> rfl) ?_; (with_reducible refine (many_within.calls a1 1 96 true _ A10.out).mono ?_); rintro e w' ⟨rfl, ⟨nd, rfl⟩⟩; refine ⟨_, rfl, ?_⟩))
     go_ret
     exact ⟨by first | rfl | (simp; done) | (simp [*]; done), by repeat (first | exact Drawn0.refl _ | apply Drawn0.step)⟩
    replace c11 := Bool.eq_false_iff.mpr c11
    subst c11
    have H1 : (some false) = some r := by rw [if_neg (show ¬ (false = true) by decide)] at H; exact H
    clear H
    have H := H1
    clear H1
    obtain rfl := Option.some.inj H
    go_wp2_with (first | ((with_reducible refine gate_callee (f := 29) rfl ?_); refine goesL_ (some 20) rfl rfl Try.func29 (by kernel_rfl) rfl #[.int .i64 a1, .int .i64 1, .int .i64 96] rfl (by (try simp only [zt1, zt2, zt3]) <;> rfl) ?_; (with_reducible refine (many_within.calls a1 1 96 false _ A10.out).mono ?_); rintro e w' ⟨rfl, ⟨nd, rfl⟩⟩; refine ⟨_, rfl, ?_⟩))
    go_ret
    exact ⟨by first | rfl | (simp; done) | (simp [*]; done), by repeat (first | exact Drawn0.refl _ | apply Drawn0.step)⟩
   replace c9 := Bool.eq_false_iff.mpr c9
   subst c9
   have H1 : (if a0 = 23 then ((many_within.f a1 0 48).bind fun t103 => (if t103 = true then ((many_within.f a2 0 96).bind fun t104 => (some t104)) else (some false))) else (if a0 = 24 then ((many_within.f a1 1 96).bind fun t105 => (if t105 = true then ((many_within.f a2 0 96).bind fun t106 => (some t106)) else (some false))) else ((many_within.f a0 1 14).bind fun t107 => (if t107 = true then (if a1 = 0 then (some (a2 == 0)) else (some false)) else (some false))))) = some r := by rw [if_neg (show ¬ (false = true) by decide)] at H; exact H
   clear H
   have H := H1
   clear H1
   by_cases c12 : a0 = 23
   ·rw [if_pos c12] at H
    have c12b0 : (a0 == 23) = true := beq_iff_eq.mpr c12
    have c12b1 : (a0 != 23) = false := bne_eq_false_iff_eq.mpr c12
    clear c12
    replace H := zo H
    obtain ⟨t103, A130, H⟩ := H
    have A13 := zm A130
    clear A130
    by_cases c14 : t103 = true
    ·subst c14
     have H1 : ((many_within.f a2 0 96).bind fun t104 => (some t104)) = some r := by rw [if_pos rfl] at H; exact H
     clear H
     have H := H1
     clear H1
     replace H := zo H
     obtain ⟨t104, A150, H⟩ := H
     have A15 := zm A150
     clear A150
     obtain rfl := Option.some.inj H
     go_wp2_with (first | ((with_reducible refine gate_callee (f := 29) rfl ?_); refine goesL_ (some 28) rfl rfl Try.func29 (by kernel_rfl) rfl #[.int .i64 a1, .int .i64 0, .int .i64 48] rfl (by (try simp only [zt1, zt2, zt3]) <;> rfl) ?_; (with_reducible refine (many_within.calls a1 0 48 true _ A13.out).mono ?_); rintro e w' ⟨rfl, ⟨nd, rfl⟩⟩; refine ⟨_, rfl, ?_⟩) | (go_at_call 29; (with_reducible refine (many_within.calls a2 0 96 t104 _ A15.out).mono ?_); rintro e w' ⟨rfl, ⟨nd, rfl⟩⟩))
     go_ret
     exact ⟨by first | rfl | (simp; done) | (simp [*]; done), by repeat (first | exact Drawn0.refl _ | apply Drawn0.step)⟩
    replace c14 := Bool.eq_false_iff.mpr c14
    subst c14
    have H1 : (some false) = some r := by rw [if_neg (show ¬ (false = true) by decide)] at H; exact H
    clear H
    have H := H1
    clear H1
    obtain rfl := Option.some.inj H
    go_wp2_with (first | ((with_reducible refine gate_callee (f := 29) rfl ?_); refine goesL_ (some 28) rfl rfl Try.func29 (by kernel_rfl) rfl #[.int .i64 a1, .int .i64 0, .int .i64 48] rfl (by (try simp only [zt1, zt2, zt3]) <;> rfl) ?_; (with_reducible refine (many_within.calls a1 0 48 false _ A13.out).mono ?_); rintro e w' ⟨rfl, ⟨nd, rfl⟩⟩; refine ⟨_, rfl, ?_⟩))
    go_ret
    exact ⟨by first | rfl | (simp; done) | (simp [*]; done), by repeat (first | exact Drawn0.refl _ | apply Drawn0.step)⟩
   rw [if_neg c12] at H
   have c12b0 : (a0 == 23) = false := beq_eq_false_iff_ne.mpr c12
   have c12b1 : (a0 != 23) = true := bne_iff_ne.mpr c12
   by_cases c16 : a0 = 24
   ·rw [if_pos c16] at H
    have c16b0 : (a0 == 24) = true := beq_iff_eq.mpr c16
    have c16b1 : (a0 != 24) = false := bne_eq_false_iff_eq.mpr c16
    clear c16
    replace H := zo H
    obtain ⟨t105, A170, H⟩ := H
    have A17 := zm A170
    clear A170
    by_cases c18 : t105 = true
    ·subst c18
     have H1 : ((many_within.f a2 0 96).bind fun t106 => (some t106)) = some r := by rw [if_pos rfl] at H; exact H
     clear H
     have H := H1
     clear H1
     replace H := zo H
     obtain ⟨t106, A190, H⟩ := H
     have A19 := zm A190
     clear A190
     obtain rfl := Option.some.inj H
     go_wp2_with (first | ((with_reducible refine gate_callee (f := 29) rfl ?_); refine goesL_ (some 36) rfl rfl Try.func29 (by kernel_rfl) rfl #[.int .i64 a1, .int .i64 1, .int .i64 96] rfl (by (try simp only [zt1, zt2, zt3]) <;> rfl) ?_; (with_reducible refine (many_within.calls a1 1 96 true _ A17.out).mono ?_); rintro e w' ⟨rfl, ⟨nd, rfl⟩⟩; refine ⟨_, rfl, ?_⟩) | (go_at_call 29; (with_reducible refine (many_within.calls a2 0 96 t106 _ A19.out).mono ?_); rintro e w' ⟨rfl, ⟨nd, rfl⟩⟩))
     go_ret
     exact ⟨by first | rfl | (simp; done) | (simp [*]; done), by repeat (first | exact Drawn0.refl _ | apply Drawn0.step)⟩
    replace c18 := Bool.eq_false_iff.mpr c18
    subst c18
    have H1 : (some false) = some r := by rw [if_neg (show ¬ (false = true) by decide)] at H; exact H
    clear H
    have H := H1
    clear H1
    obtain rfl := Option.some.inj H
    go_wp2_with (first | ((with_reducible refine gate_callee (f := 29) rfl ?_); refine goesL_ (some 36) rfl rfl Try.func29 (by kernel_rfl) rfl #[.int .i64 a1, .int .i64 1, .int .i64 96] rfl (by (try simp only [zt1, zt2, zt3]) <;> rfl) ?_; (with_reducible refine (many_within.calls a1 1 96 false _ A17.out).mono ?_); rintro e w' ⟨rfl, ⟨nd, rfl⟩⟩; refine ⟨_, rfl, ?_⟩))
    go_ret
    exact ⟨by first | rfl | (simp; done) | (simp [*]; done), by repeat (first | exact Drawn0.refl _ | apply Drawn0.step)⟩
   rw [if_neg c16] at H
   have c16b0 : (a0 == 24) = false := beq_eq_false_iff_ne.mpr c16
   have c16b1 : (a0 != 24) = true := bne_iff_ne.mpr c16
   replace H := zo H
   obtain ⟨t107, A200, H⟩ := H
   have A20 := zm A200
   clear A200
   by_cases c21 : t107 = true
   ·subst c21
    have H1 : (if a1 = 0 then (some (a2 == 0)) else (some false)) = some r := by rw [if_pos rfl] at H; exact H
    clear H
    have H := H1
    clear H1
    by_cases c22 : a1 = 0
    ·rw [if_pos c22] at H
     have c22b0 : (a1 == 0) = true := beq_iff_eq.mpr c22
     have c22b1 : (a1 != 0) = false := bne_eq_false_iff_eq.mpr c22
     clear c22
     obtain rfl := Option.some.inj H
     go_wp2_with (first | ((with_reducible refine gate_callee (f := 29) rfl ?_); refine goesL_ (some 42) rfl rfl Try.func29 (by kernel_rfl) rfl #[.int .i64 a0, .int .i64 1, .int .i64 14] rfl (by (try simp only [zt1, zt2, zt3]) <;> rfl) ?_; (with_reducible refine (many_within.calls a0 1 14 true _ A20.out).mono ?_); rintro e w' ⟨rfl, ⟨nd, rfl⟩⟩; refine ⟨_, rfl, ?_⟩))
     go_ret
     exact ⟨by first | rfl | (simp; done) | (simp [*]; done), by repeat (first | exact Drawn0.refl _ | apply Drawn0.step)⟩
    rw [if_neg c22] at H
    have c22b0 : (a1 == 0) = false := beq_eq_false_iff_ne.mpr c22
    have c22b1 : (a1 != 0) = true := bne_iff_ne.mpr c22
    obtain rfl := Option.some.inj H
    go_wp2_with (first | ((with_reducible refine gate_callee (f := 29) rfl ?_); refine goesL_ (some 42) rfl rfl Try.func29 (by kernel_rfl) rfl #[.int .i64 a0, .int .i64 1, .int .i64 14] rfl (by (try simp only [zt1, zt2, zt3]) <;> rfl) ?_; (with_reducible refine (many_within.calls a0 1 14 true _ A20.out).mono ?_); rintro e w' ⟨rfl, ⟨nd, rfl⟩⟩; refine ⟨_, rfl, ?_⟩))
    go_ret
    exact ⟨by first | rfl | (simp; done) | (simp [*]; done), by repeat (first | exact Drawn0.refl _ | apply Drawn0.step)⟩
   replace c21 := Bool.eq_false_iff.mpr c21
   subst c21
   have H1 : (some false) = some r := by rw [if_neg (show ¬ (false = true) by decide)] at H; exact H
   clear H
   have H := H1
   clear H1
   obtain rfl := Option.some.inj H
   go_wp2_with (first | ((with_reducible refine gate_callee (f := 29) rfl ?_); refine goesL_ (some 42) rfl rfl Try.func29 (by kernel_rfl) rfl #[.int .i64 a0, .int .i64 1, .int .i64 14] rfl (by (try simp only [zt1, zt2, zt3]) <;> rfl) ?_; (with_reducible refine (many_within.calls a0 1 14 false _ A20.out).mono ?_); rintro e w' ⟨rfl, ⟨nd, rfl⟩⟩; refine ⟨_, rfl, ?_⟩))
   go_ret
   exact ⟨by first | rfl | (simp; done) | (simp [*]; done), by repeat (first | exact Drawn0.refl _ | apply Drawn0.step)⟩
def when_within.f (a0 : Int) (a1 : Int) (a2 : Int) : Option (Bool) := if a1 ≤ a0 then (some (decide (a0 ≤ a2))) else (some false)
set_option maxHeartbeats 8000000 in
set_option maxRecDepth 100000 in
theorem when_within.calls (a0 : Int) (a1 : Int) (a2 : Int) (r : Bool) (w : World) (h : when_within.f a0 a1 a2 = some r) :
  Calls Try.prog 52 #[.int .i64 a0, .int .i64 a1, .int .i64 a2] w fun e w' => e = .returned (.bool r) ∧ Drawn0 w w' := by
 have H : (if a1 ≤ a0 then (some (decide (a0 ≤ a2))) else (some false)) = some r := h
 clear h
 by_cases c4 : a1 ≤ a0
 ·rw [if_pos c4] at H
  have c4b0 : decide (a1 ≤ a0) = true := decide_eq_true c4
  clear c4
  obtain rfl := Option.some.inj H
  go_enter Try.func52, Try.ntmps52
  go_wp2
  go_ret
  exact ⟨by first | rfl | (simp; done) | (simp [*]; done), by repeat (first | exact Drawn0.refl _ | apply Drawn0.step)⟩
 rw [if_neg c4] at H
 have c4b0 : decide (a1 ≤ a0) = false := decide_eq_false c4
 clear c4
 obtain rfl := Option.some.inj H
 go_enter Try.func52, Try.ntmps52
 go_wp2
 go_ret
 exact ⟨by first | rfl | (simp; done) | (simp [*]; done), by repeat (first | exact Drawn0.refl _ | apply Drawn0.step)⟩
def when_RightGrid.f (a0_0 : Int) (a0_1 : Int) (a0_2 : Int) : Option (Bool) := (when_within.f a0_0 1 20).bind fun t109 => (if t109 = true then ((when_within.f a0_1 1 7).bind fun t110 => (if t110 = true then ((when_within.f a0_2 1 96).bind fun t111 => (some t111)) else (some false))) else (some false))
set_option maxHeartbeats 8000000 in
set_option maxRecDepth 100000 in
theorem when_RightGrid.calls (a0_0 : Int) (a0_1 : Int) (a0_2 : Int) (r : Bool) (w : World) (h : when_RightGrid.f a0_0 a0_1 a0_2 = some r) :
  Calls Try.prog 39 #[.agg #[.int .i64 a0_0, .int .i64 a0_1, .int .i64 a0_2]] w fun e w' => e = .returned (.bool r) ∧ Below w.heap.size w w' := by
 have hu23 := Try.underlying23
 have HB := zm (Below.refl w.heap.size w)
 have H : ((when_within.f a0_0 1 20).bind fun t109 => (if t109 = true then ((when_within.f a0_1 1 7).bind fun t110 => (if t110 = true then ((when_within.f a0_2 1 96).bind fun t111 => (some t111)) else (some false))) else (some false))) = some r := h
 clear h
 replace H := zo H
 obtain ⟨t109, A20, H⟩ := H
 have A2 := zm A20
 clear A20
 by_cases c3 : t109 = true
 ·subst c3
  have H1 : ((when_within.f a0_1 1 7).bind fun t110 => (if t110 = true then ((when_within.f a0_2 1 96).bind fun t111 => (some t111)) else (some false))) = some r := by rw [if_pos rfl] at H; exact H
  clear H
  have H := H1
  clear H1
  replace H := zo H
  obtain ⟨t110, A40, H⟩ := H
  have A4 := zm A40
  clear A40
  by_cases c5 : t110 = true
  ·subst c5
   have H1 : ((when_within.f a0_2 1 96).bind fun t111 => (some t111)) = some r := by rw [if_pos rfl] at H; exact H
   clear H
   have H := H1
   clear H1
   replace H := zo H
   obtain ⟨t111, A60, H⟩ := H
   have A6 := zm A60
   clear A60
   obtain rfl := Option.some.inj H
   go_enter Try.func39, Try.ntmps39
   go_wp2_with (first | ((with_reducible refine gate_dst (N := 1) rfl ?_); refine box_event ?hg (N := 1) ?hd (cs := #[.int .i64 a0_0, .int .i64 a0_1, .int .i64 a0_2]) (t := 23) ?hr ?_; (case hd => rfl); (case hg => rfl); (case hr => go_simp; try rfl); intro gb108 hg w7 hbox hb; have BK108 := zm (hbox); have GW108 := zm ((by rw [hg]; exact (below_size (by apply_rules [HB.out, zb1, zb2, zb3])) : w.heap.size ≤ gb108)); have GE108 := GW108; replace HB := zm (below_step (by apply_rules [HB.out, zb1, zb2, zb3]) hb); clear hb hbox hg; obtain ⟨hcz8_0, hcz8_1, hcz8_2, hfz8_0, hfz8_1, hfz8_2⟩ := zf3 BK108.out) | ((with_reducible refine gate_callee (f := 52) rfl ?_); refine goesL_ (some 5) rfl rfl Try.func52 (by kernel_rfl) rfl #[.int .i64 a0_0, .int .i64 1, .int .i64 20] rfl (by (try simp only [zt1, zt2, zt3]) <;> rfl) ?_; (with_reducible refine (when_within.calls a0_0 1 20 true _ A2.out).mono ?_); rintro e w' ⟨rfl, ⟨nd, rfl⟩⟩; refine ⟨_, rfl, ?_⟩) | (go_at_call 52; (with_reducible refine (when_within.calls a0_1 1 7 true _ A4.out).mono ?_); rintro e w' ⟨rfl, ⟨nd, rfl⟩⟩) | (go_at_call 52; (with_reducible refine (when_within.calls a0_2 1 96 t111 _ A6.out).mono ?_); rintro e w' ⟨rfl, ⟨nd, rfl⟩⟩))
   go_ret
   exact ⟨by first | rfl | (simp [errW_none, errW_some] <;> rfl) | (simp [*, errW_none, errW_some] <;> rfl), by apply_rules [HB.out, zb1, zb2, zb3, zb4, GE108.out]⟩
  replace c5 := Bool.eq_false_iff.mpr c5
  subst c5
  have H1 : (some false) = some r := by rw [if_neg (show ¬ (false = true) by decide)] at H; exact H
  clear H
  have H := H1
  clear H1
  obtain rfl := Option.some.inj H
  go_enter Try.func39, Try.ntmps39
  go_wp2_with (first | ((with_reducible refine gate_dst (N := 1) rfl ?_); refine box_event ?hg (N := 1) ?hd (cs := #[.int .i64 a0_0, .int .i64 a0_1, .int .i64 a0_2]) (t := 23) ?hr ?_; (case hd => rfl); (case hg => rfl); (case hr => go_simp; try rfl); intro gb108 hg w9 hbox hb; have BK108 := zm (hbox); have GW108 := zm ((by rw [hg]; exact (below_size (by apply_rules [HB.out, zb1, zb2, zb3])) : w.heap.size ≤ gb108)); have GE108 := GW108; replace HB := zm (below_step (by apply_rules [HB.out, zb1, zb2, zb3]) hb); clear hb hbox hg; obtain ⟨hcz10_0, hcz10_1, hcz10_2, hfz10_0, hfz10_1, hfz10_2⟩ := zf3 BK108.out) | ((with_reducible refine gate_callee (f := 52) rfl ?_); refine goesL_ (some 5) rfl rfl Try.func52 (by kernel_rfl) rfl #[.int .i64 a0_0, .int .i64 1, .int .i64 20] rfl (by (try simp only [zt1, zt2, zt3]) <;> rfl) ?_; (with_reducible refine (when_within.calls a0_0 1 20 true _ A2.out).mono ?_); rintro e w' ⟨rfl, ⟨nd, rfl⟩⟩; refine ⟨_, rfl, ?_⟩) | (go_at_call 52; (with_reducible refine (when_within.calls a0_1 1 7 false _ A4.out).mono ?_); rintro e w' ⟨rfl, ⟨nd, rfl⟩⟩))
  go_ret
  exact ⟨by first | rfl | (simp [errW_none, errW_some] <;> rfl) | (simp [*, errW_none, errW_some] <;> rfl), by apply_rules [HB.out, zb1, zb2, zb3, zb4, GE108.out]⟩
 replace c3 := Bool.eq_false_iff.mpr c3
 subst c3
 have H1 : (some false) = some r := by rw [if_neg (show ¬ (false = true) by decide)] at H; exact H
 clear H
 have H := H1
 clear H1
 obtain rfl := Option.some.inj H
 go_enter Try.func39, Try.ntmps39
 go_wp2_with (first | ((with_reducible refine gate_dst (N := 1) rfl ?_); refine box_event ?hg (N := 1) ?hd (cs := #[.int .i64 a0_0, .int .i64 a0_1, .int .i64 a0_2]) (t := 23) ?hr ?_; (case hd => rfl); (case hg => rfl); (case hr => go_simp; try rfl); intro gb108 hg w11 hbox hb; have BK108 := zm (hbox); have GW108 := zm ((by rw [hg]; exact (below_size (by apply_rules [HB.out, zb1, zb2, zb3])) : w.heap.size ≤ gb108)); have GE108 := GW108; replace HB := zm (below_step (by apply_rules [HB.out, zb1, zb2, zb3]) hb); clear hb hbox hg; obtain ⟨hcz12_0, hcz12_1, hcz12_2, hfz12_0, hfz12_1, hfz12_2⟩ := zf3 BK108.out) | ((with_reducible refine gate_callee (f := 52) rfl ?_); refine goesL_ (some 5) rfl rfl Try.func52 (by kernel_rfl) rfl #[.int .i64 a0_0, .int .i64 1, .int .i64 20] rfl (by (try simp only [zt1, zt2, zt3]) <;> rfl) ?_; (with_reducible refine (when_within.calls a0_0 1 20 false _ A2.out).mono ?_); rintro e w' ⟨rfl, ⟨nd, rfl⟩⟩; refine ⟨_, rfl, ?_⟩))
 go_ret
 exact ⟨by first | rfl | (simp [errW_none, errW_some] <;> rfl) | (simp [*, errW_none, errW_some] <;> rfl), by apply_rules [HB.out, zb1, zb2, zb3, zb4, GE108.out]⟩
def when_tame.f (a0_0 : Int) (a0_1 : Int) (a0_2 : Int) (a0_3 : Int) : Option (Bool) := (when_within.f a0_2 0 96).bind fun t113 => (if t113 = true then ((when_within.f a0_3 1 96).bind fun t114 => (some t114)) else (some false))
set_option maxHeartbeats 8000000 in
set_option maxRecDepth 100000 in
theorem when_tame.calls (a0_0 : Int) (a0_1 : Int) (a0_2 : Int) (a0_3 : Int) (r : Bool) (w : World) (h : when_tame.f a0_0 a0_1 a0_2 a0_3 = some r) :
  Calls Try.prog 42 #[.agg #[.int .u32 a0_0, .int .u8 a0_1, .int .i64 a0_2, .int .i64 a0_3]] w fun e w' => e = .returned (.bool r) ∧ Below w.heap.size w w' := by
 have hu49 := Try.underlying49
 have HB := zm (Below.refl w.heap.size w)
 have H : ((when_within.f a0_2 0 96).bind fun t113 => (if t113 = true then ((when_within.f a0_3 1 96).bind fun t114 => (some t114)) else (some false))) = some r := h
 clear h
 replace H := zo H
 obtain ⟨t113, A20, H⟩ := H
 have A2 := zm A20
 clear A20
 by_cases c3 : t113 = true
 ·subst c3
  have H1 : ((when_within.f a0_3 1 96).bind fun t114 => (some t114)) = some r := by rw [if_pos rfl] at H; exact H
  clear H
  have H := H1
  clear H1
  replace H := zo H
  obtain ⟨t114, A40, H⟩ := H
  have A4 := zm A40
  clear A40
  obtain rfl := Option.some.inj H
  go_enter Try.func42, Try.ntmps42
  go_wp2_with (first | ((with_reducible refine gate_dst (N := 1) rfl ?_); refine box_event ?hg (N := 1) ?hd (cs := #[.int .u32 a0_0, .int .u8 a0_1, .int .i64 a0_2, .int .i64 a0_3]) (t := 49) ?hr ?_; (case hd => rfl); (case hg => rfl); (case hr => go_simp; try rfl); intro gb112 hg w5 hbox hb; have BK112 := zm (hbox); have GW112 := zm ((by rw [hg]; exact (below_size (by apply_rules [HB.out, zb1, zb2, zb3])) : w.heap.size ≤ gb112)); have GE112 := GW112; replace HB := zm (below_step (by apply_rules [HB.out, zb1, zb2, zb3]) hb); clear hb hbox hg; obtain ⟨hcz6_0, hcz6_1, hcz6_2, hcz6_3, hfz6_0, hfz6_1, hfz6_2, hfz6_3⟩ := zf4 BK112.out) | ((with_reducible refine gate_callee (f := 52) rfl ?_); refine goesL_ (some 5) rfl rfl Try.func52 (by kernel_rfl) rfl #[.int .i64 a0_2, .int .i64 0, .int .i64 96] rfl (by (try simp only [zt1, zt2, zt3]) <;> rfl) ?_; (with_reducible refine (when_within.calls a0_2 0 96 true _ A2.out).mono ?_); rintro e w' ⟨rfl, ⟨nd, rfl⟩⟩; refine ⟨_, rfl, ?_⟩) | (go_at_call 52; (with_reducible refine (when_within.calls a0_3 1 96 t114 _ A4.out).mono ?_); rintro e w' ⟨rfl, ⟨nd, rfl⟩⟩))
  go_ret
  exact ⟨by first | rfl | (simp [errW_none, errW_some] <;> rfl) | (simp [*, errW_none, errW_some] <;> rfl), by apply_rules [HB.out, zb1, zb2, zb3, zb4, GE112.out]⟩
 replace c3 := Bool.eq_false_iff.mpr c3
 subst c3
 have H1 : (some false) = some r := by rw [if_neg (show ¬ (false = true) by decide)] at H; exact H
 clear H
 have H := H1
 clear H1
 obtain rfl := Option.some.inj H
 go_enter Try.func42, Try.ntmps42
 go_wp2_with (first | ((with_reducible refine gate_dst (N := 1) rfl ?_); refine box_event ?hg (N := 1) ?hd (cs := #[.int .u32 a0_0, .int .u8 a0_1, .int .i64 a0_2, .int .i64 a0_3]) (t := 49) ?hr ?_; (case hd => rfl); (case hg => rfl); (case hr => go_simp; try rfl); intro gb112 hg w7 hbox hb; have BK112 := zm (hbox); have GW112 := zm ((by rw [hg]; exact (below_size (by apply_rules [HB.out, zb1, zb2, zb3])) : w.heap.size ≤ gb112)); have GE112 := GW112; replace HB := zm (below_step (by apply_rules [HB.out, zb1, zb2, zb3]) hb); clear hb hbox hg; obtain ⟨hcz8_0, hcz8_1, hcz8_2, hcz8_3, hfz8_0, hfz8_1, hfz8_2, hfz8_3⟩ := zf4 BK112.out) | ((with_reducible refine gate_callee (f := 52) rfl ?_); refine goesL_ (some 5) rfl rfl Try.func52 (by kernel_rfl) rfl #[.int .i64 a0_2, .int .i64 0, .int .i64 96] rfl (by (try simp only [zt1, zt2, zt3]) <;> rfl) ?_; (with_reducible refine (when_within.calls a0_2 0 96 false _ A2.out).mono ?_); rintro e w' ⟨rfl, ⟨nd, rfl⟩⟩; refine ⟨_, rfl, ?_⟩))
 go_ret
 exact ⟨by first | rfl | (simp [errW_none, errW_some] <;> rfl) | (simp [*, errW_none, errW_some] <;> rfl), by apply_rules [HB.out, zb1, zb2, zb3, zb4, GE112.out]⟩
def when_Right.f (a0_0 : Int) (a0_1 : Int) (a0_2 : Int) (a1_0 : Int) (a1_1 : Int) (a1_2 : Int) (a1_3 : Int) : Option (Bool) := (when_RightGrid.f a0_0 a0_1 a0_2).bind fun t117 => (if t117 = true then ((when_tame.f a1_0 a1_1 a1_2 a1_3).bind fun t118 => (if t118 = true then (if (wrap64 (a1_2 + a1_3)) > a0_2 then (some false) else (if a1_0 = 0 then (some false) else (if 0 ≤ a0_0 then (if (shr .u32 a1_0 a0_0) = 0 then (if a1_1 = 0 then (some false) else (if 0 ≤ a0_1 then (some ((shr .i64 (wrap64 (a1_1)) a0_1) == 0)) else (none))) else (some false)) else (none)))) else (some false))) else (some false))
set_option maxHeartbeats 8000000 in
set_option maxRecDepth 100000 in
theorem when_Right.calls (a0_0 : Int) (a0_1 : Int) (a0_2 : Int) (a1_0 : Int) (a1_1 : Int) (a1_2 : Int) (a1_3 : Int) (r : Bool) (w : World) (h : when_Right.f a0_0 a0_1 a0_2 a1_0 a1_1 a1_2 a1_3 = some r) :
  Calls Try.prog 27 #[.agg #[.int .i64 a0_0, .int .i64 a0_1, .int .i64 a0_2], .agg #[.int .u32 a1_0, .int .u8 a1_1, .int .i64 a1_2, .int .i64 a1_3]] w fun e w' => e = .returned (.bool r) ∧ Below w.heap.size w w' := by
 have hu23 := Try.underlying23
 have hu49 := Try.underlying49
 have HB := zm (Below.refl w.heap.size w)
 have H : ((when_RightGrid.f a0_0 a0_1 a0_2).bind fun t117 => (if t117 = true then ((when_tame.f a1_0 a1_1 a1_2 a1_3).bind fun t118 => (if t118 = true then (if (wrap64 (a1_2 + a1_3)) > a0_2 then (some false) else (if a1_0 = 0 then (some false) else (if 0 ≤ a0_0 then (if (shr .u32 a1_0 a0_0) = 0 then (if a1_1 = 0 then (some false) else (if 0 ≤ a0_1 then (some ((shr .i64 (wrap64 (a1_1)) a0_1) == 0)) else (none))) else (some false)) else (none)))) else (some false))) else (some false))) = some r := h
 clear h
 replace H := zo H
 obtain ⟨t117, A30, H⟩ := H
 have A3 := zm A30
 clear A30
 by_cases c4 : t117 = true
 ·subst c4
  have H1 : ((when_tame.f a1_0 a1_1 a1_2 a1_3).bind fun t118 => (if t118 = true then (if (wrap64 (a1_2 + a1_3)) > a0_2 then (some false) else (if a1_0 = 0 then (some false) else (if 0 ≤ a0_0 then (if (shr .u32 a1_0 a0_0) = 0 then (if a1_1 = 0 then (some false) else (if 0 ≤ a0_1 then (some ((shr .i64 (wrap64 (a1_1)) a0_1) == 0)) else (none))) else (some false)) else (none)))) else (some false))) = some r := by rw [if_pos rfl] at H; exact H
  clear H
  have H := H1
  clear H1
  replace H := zo H
  obtain ⟨t118, A50, H⟩ := H
  have A5 := zm A50
  clear A50
  by_cases c6 : t118 = true
  ·subst c6
   have H1 : (if (wrap64 (a1_2 + a1_3)) > a0_2 then (some false) else (if a1_0 = 0 then (some false) else (if 0 ≤ a0_0 then (if (shr .u32 a1_0 a0_0) = 0 then (if a1_1 = 0 then (some false) else (if 0 ≤ a0_1 then (some ((shr .i64 (wrap64 (a1_1)) a0_1) == 0)) else (none))) else (some false)) else (none)))) = some r := by rw [if_pos rfl] at H; exact H
   clear H
   have H := H1
   clear H1
   by_cases c7 : (wrap64 (a1_2 + a1_3)) > a0_2
   ·rw [if_pos c7] at H
    have c7b0 : decide (a0_2 < (wrap64 (a1_2 + a1_3))) = true := decide_eq_true c7
    clear c7
    obtain rfl := Option.some.inj H
    go_enter Try.func27, Try.ntmps27
    go_wp2_with (first | ((with_reducible refine gate_dst (N := 2) rfl ?_); refine box_event ?hg (N := 2) ?hd (cs := #[.int .i64 a0_0, .int .i64 a0_1, .int .i64 a0_2]) (t := 23) ?hr ?_; (case hd => rfl); (case hg => rfl); (case hr => go_simp; try rfl); intro gb115 hg w8 hbox hb; have BK115 := zm (hbox); have GW115 := zm ((by rw [hg]; exact (below_size (by apply_rules [HB.out, zb1, zb2, zb3])) : w.heap.size ≤ gb115)); have GE115 := GW115; replace HB := zm (below_step (by apply_rules [HB.out, zb1, zb2, zb3]) hb); clear hb hbox hg) | ((with_reducible refine gate_dst (N := 3) rfl ?_); refine box_event ?hg (N := 3) ?hd (cs := #[.int .u32 a1_0, .int .u8 a1_1, .int .i64 a1_2, .int .i64 a1_3]) (t := 49) ?hr ?_; (case hd => rfl); (case hg => rfl); (case hr => go_simp; try rfl); intro gb116 hg w9 hbox hb; have n0_ := zm (blk_below (by apply_rules [BK115.out, zk1, zk2, zk3]) hb); have n1_ := zm (below_step (by apply_rules [HB.out, zb1, zb2, zb3, zb4, GE115.out]) hb); have n2_ := zm (hbox); have n3_ := zm ((by rw [hg]; exact (below_size (by apply_rules [HB.out, zb1, zb2, zb3, zb4, GE115.out])) : w.heap.size ≤ gb116)); have n4_ := n3_; have n5_ := zm ((by rw [hg]; exact Nat.ne_of_lt (blk_lt (by apply_rules [BK115.out, zk1, zk2, zk3])) : gb115 ≠ gb116)); have n6_ := zm ((by rw [hg]; exact Nat.ne_of_gt (blk_lt (by apply_rules [BK115.out, zk1, zk2, zk3])) : gb116 ≠ gb115)); clear BK115; clear HB; have BK115 := n0_; have HB := n1_; have BK116 := n2_; have GW116 := n3_; have GE116 := n4_; have NB115_116 := n5_; have NB116_115 := n6_; clear n0_ n1_ n2_ n3_ n4_ n5_ n6_; clear hb hbox hg; have hnb10 := NB115_116.out; have hnc10 := NB116_115.out; obtain ⟨hcz11_0, hcz11_1, hcz11_2, hfz11_0, hfz11_1, hfz11_2⟩ := zf3 BK115.out) | ((with_reducible refine gate_callee (f := 39) rfl ?_); refine goesL_ (some 6) rfl rfl Try.func39 (by kernel_rfl) rfl #[.agg #[.int .i64 a0_0, .int .i64 a0_1, .int .i64 a0_2]] rfl (by (try simp only [zt1, zt2, zt3]) <;> rfl) ?_; (with_reducible refine (when_RightGrid.calls a0_0 a0_1 a0_2 true _ A3.out).mono ?_); rintro e w12 ⟨rfl, hb⟩; refine ⟨_, rfl, ?_⟩; replace BK115 := zm (blk_below (by apply_rules [BK115.out, zk1, zk2, zk3]) hb); replace BK116 := zm (blk_below (by apply_rules [BK116.out, zk1, zk2, zk3]) hb); replace HB := zm (below_step (by apply_rules [HB.out, zb1, zb2, zb3, zb4, GE115.out, zb4, GE116.out]) hb); (try clear hb); obtain ⟨hcz13_0, hcz13_1, hcz13_2, hcz13_3, hfz13_0, hfz13_1, hfz13_2, hfz13_3⟩ := zf4 BK116.out) | (go_at_call 42; (with_reducible refine (when_tame.calls a1_0 a1_1 a1_2 a1_3 true _ A5.out).mono ?_); rintro e w14 ⟨rfl, hb⟩; replace BK115 := zm (blk_below (by apply_rules [BK115.out, zk1, zk2, zk3]) hb); replace BK116 := zm (blk_below (by apply_rules [BK116.out, zk1, zk2, zk3]) hb); replace HB := zm (below_step (by apply_rules [HB.out, zb1, zb2, zb3, zb4, GE115.out, zb4, GE116.out]) hb); (try clear hb); obtain ⟨hcz15_0, hcz15_1, hcz15_2, hcz15_3, hfz15_0, hfz15_1, hfz15_2, hfz15_3⟩ := zf4 BK116.out; obtain ⟨hcz16_0, hcz16_1, hcz16_2, hfz16_0, hfz16_1, hfz16_2⟩ := zf3 BK115.out))
    go_ret
    exact ⟨by first | rfl | (simp [errW_none, errW_some] <;> rfl) | (simp [*, errW_none, errW_some] <;> rfl), by apply_rules [HB.out, zb1, zb2, zb3, zb4, GE115.out, zb4, GE116.out]⟩
   rw [if_neg c7] at H
   have c7b0 : decide (a0_2 < (wrap64 (a1_2 + a1_3))) = false := decide_eq_false c7
   clear c7
   by_cases c17 : a1_0 = 0
   ·rw [if_pos c17] at H
    have c17b0 : (a1_0 == 0) = true := beq_iff_eq.mpr c17
    have c17b1 : (a1_0 != 0) = false := bne_eq_false_iff_eq.mpr c17
    clear c17
    obtain rfl := Option.some.inj H
    go_enter Try.func27, Try.ntmps27
    go_wp2_with (first | ((with_reducible refine gate_dst (N := 2) rfl ?_); refine box_event ?hg (N := 2) ?hd (cs := #[.int .i64 a0_0, .int .i64 a0_1, .int .i64 a0_2]) (t := 23) ?hr ?_; (case hd => rfl); (case hg => rfl); (case hr => go_simp; try rfl); intro gb115 hg w18 hbox hb; have BK115 := zm (hbox); have GW115 := zm ((by rw [hg]; exact (below_size (by apply_rules [HB.out, zb1, zb2, zb3])) : w.heap.size ≤ gb115)); have GE115 := GW115; replace HB := zm (below_step (by apply_rules [HB.out, zb1, zb2, zb3]) hb); clear hb hbox hg) | ((with_reducible refine gate_dst (N := 3) rfl ?_); refine box_event ?hg (N := 3) ?hd (cs := #[.int .u32 a1_0, .int .u8 a1_1, .int .i64 a1_2, .int .i64 a1_3]) (t := 49) ?hr ?_; (case hd => rfl); (case hg => rfl); (case hr => go_simp; try rfl); intro gb116 hg w19 hbox hb; have n0_ := zm (blk_below (by apply_rules [BK115.out, zk1, zk2, zk3]) hb); have n1_ := zm (below_step (by apply_rules [HB.out, zb1, zb2, zb3, zb4, GE115.out]) hb); have n2_ := zm (hbox); have n3_ := zm ((by rw [hg]; exact (below_size (by apply_rules [HB.out, zb1, zb2, zb3, zb4, GE115.out])) : w.heap.size ≤ gb116)); have n4_ := n3_; have n5_ := zm ((by rw [hg]; exact Nat.ne_of_lt (blk_lt (by apply_rules [BK115.out, zk1, zk2, zk3])) : gb115 ≠ gb116)); have n6_ := zm ((by rw [hg]; exact Nat.ne_of_gt (blk_lt (by apply_rules [BK115.out, zk1, zk2, zk3])) : gb116 ≠ gb115)); clear BK115; clear HB; have BK115 := n0_; have HB := n1_; have BK116 := n2_; have GW116 := n3_; have GE116 := n4_; have NB115_116 := n5_; have NB116_115 := n6_; clear n0_ n1_ n2_ n3_ n4_ n5_ n6_; clear hb hbox hg; have hnb20 := NB115_116.out; have hnc20 := NB116_115.out; obtain ⟨hcz21_0, hcz21_1, hcz21_2, hfz21_0, hfz21_1, hfz21_2⟩ := zf3 BK115.out) | ((with_reducible refine gate_callee (f := 39) rfl ?_); refine goesL_ (some 6) rfl rfl Try.func39 (by kernel_rfl) rfl #[.agg #[.int .i64 a0_0, .int .i64 a0_1, .int .i64 a0_2]] rfl (by (try simp only [zt1, zt2, zt3]) <;> rfl) ?_; (with_reducible refine (when_RightGrid.calls a0_0 a0_1 a0_2 true _ A3.out).mono ?_); rintro e w22 ⟨rfl, hb⟩; refine ⟨_, rfl, ?_⟩; replace BK115 := zm (blk_below (by apply_rules [BK115.out, zk1, zk2, zk3]) hb); replace BK116 := zm (blk_below (by apply_rules [BK116.out, zk1, zk2, zk3]) hb); replace HB := zm (below_step (by apply_rules [HB.out, zb1, zb2, zb3, zb4, GE115.out, zb4, GE116.out]) hb); (try clear hb); obtain ⟨hcz23_0, hcz23_1, hcz23_2, hcz23_3, hfz23_0, hfz23_1, hfz23_2, hfz23_3⟩ := zf4 BK116.out) | (go_at_call 42; (with_reducible refine (when_tame.calls a1_0 a1_1 a1_2 a1_3 true _ A5.out).mono ?_); rintro e w24 ⟨rfl, hb⟩; replace BK115 := zm (blk_below (by apply_rules [BK115.out, zk1, zk2, zk3]) hb); replace BK116 := zm (blk_below (by apply_rules [BK116.out, zk1, zk2, zk3]) hb); replace HB := zm (below_step (by apply_rules [HB.out, zb1, zb2, zb3, zb4, GE115.out, zb4, GE116.out]) hb); (try clear hb); obtain ⟨hcz25_0, hcz25_1, hcz25_2, hcz25_3, hfz25_0, hfz25_1, hfz25_2, hfz25_3⟩ := zf4 BK116.out; obtain ⟨hcz26_0, hcz26_1, hcz26_2, hfz26_0, hfz26_1, hfz26_2⟩ := zf3 BK115.out))
    go_ret
    exact ⟨by first | rfl | (simp [errW_none, errW_some] <;> rfl) | (simp [*, errW_none, errW_some] <;> rfl), by apply_rules [HB.out, zb1, zb2, zb3, zb4, GE115.out, zb4, GE116.out]⟩
   rw [if_neg c17] at H
   have c17b0 : (a1_0 == 0) = false := beq_eq_false_iff_ne.mpr c17
   have c17b1 : (a1_0 != 0) = true := bne_iff_ne.mpr c17
   by_cases c27 : 0 ≤ a0_0
   ·rw [if_pos c27] at H
    have c27b0 := eq_true c27
    have c27b1 : decide (0 ≤ a0_0) = true := decide_eq_true c27
    clear c27
    obtain ⟨ji28, hji28⟩ : ∃ j_ : Int, (shr .u32 a1_0 a0_0) = j_ := ⟨_, rfl⟩
    replace H : (if (ji28) = 0 then (if a1_1 = 0 then (some false) else (if 0 ≤ a0_1 then (some ((shr .i64 (wrap64 (a1_1)) a0_1) == 0)) else (none))) else (some false)) = some r := by first | (rw [hji28] at H; exact H) | (simp only [hji28] at H ⊢; exact H)
    (try rw [hji28] at A3)
    (try rw [hji28] at A5)
    have hji28_ : (a1_0 / 2 ^ min a0_0.toNat 32) = ji28 := hji28
    have hji28z : a0_0 ≤ 32 → (a1_0 / 2 ^ a0_0.toNat) = ji28 := shr_small hji28
    by_cases c29 : (ji28) = 0
    ·rw [if_pos c29] at H
     have c29b0 : ((ji28) == 0) = true := beq_iff_eq.mpr c29
     have c29b1 : ((ji28) != 0) = false := bne_eq_false_iff_eq.mpr c29
     clear c29
     by_cases c30 : a1_1 = 0
     ·rw [if_pos c30] at H
      have c30b0 : (a1_1 == 0) = true := beq_iff_eq.mpr c30
      have c30b1 : (a1_1 != 0) = false := bne_eq_false_iff_eq.mpr c30
      clear c30
      obtain rfl := Option.some.inj H
      go_enter Try.func27, Try.ntmps27
      go_wp2_with (first | ((with_reducible refine gate_dst (N := 2) rfl ?_); refine box_event ?hg (N := 2) ?hd (cs := #[.int .i64 a0_0, .int .i64 a0_1, .int .i64 a0_2]) (t := 23) ?hr ?_; (case hd => rfl); (case hg => rfl); (case hr => go_simp; try rfl); intro gb115 hg w31 hbox hb; have BK115 := zm (hbox); have GW115 := zm ((by rw [hg]; exact (below_size (by apply_rules [HB.out, zb1, zb2, zb3])) : w.heap.size ≤ gb115)); have GE115 := GW115; replace HB := zm (below_step (by apply_rules [HB.out, zb1, zb2, zb3]) hb); clear hb hbox hg) | ((with_reducible refine gate_dst (N := 3) rfl ?_); refine box_event ?hg (N := 3) ?hd (cs := #[.int .u32 a1_0, .int .u8 a1_1, .int .i64 a1_2, .int .i64 a1_3]) (t := 49) ?hr ?_; (case hd => rfl); (case hg => rfl); (case hr => go_simp; try rfl); intro gb116 hg w32 hbox hb; have n0_ := zm (blk_below (by apply_rules [BK115.out, zk1, zk2, zk3]) hb); have n1_ := zm (below_step (by apply_rules [HB.out, zb1, zb2, zb3, zb4, GE115.out]) hb); have n2_ := zm (hbox); have n3_ := zm ((by rw [hg]; exact (below_size (by apply_rules [HB.out, zb1, zb2, zb3, zb4, GE115.out])) : w.heap.size ≤ gb116)); have n4_ := n3_; have n5_ := zm ((by rw [hg]; exact Nat.ne_of_lt (blk_lt (by apply_rules [BK115.out, zk1, zk2, zk3])) : gb115 ≠ gb116)); have n6_ := zm ((by rw [hg]; exact Nat.ne_of_gt (blk_lt (by apply_rules [BK115.out, zk1, zk2, zk3])) : gb116 ≠ gb115)); clear BK115; clear HB; have BK115 := n0_; have HB := n1_; have BK116 := n2_; have GW116 := n3_; have GE116 := n4_; have NB115_116 := n5_; have NB116_115 := n6_; clear n0_ n1_ n2_ n3_ n4_ n5_ n6_; clear hb hbox hg; have hnb33 := NB115_116.out; have hnc33 := NB116_115.out; obtain ⟨hcz34_0, hcz34_1, hcz34_2, hfz34_0, hfz34_1, hfz34_2⟩ := zf3 BK115.out) | ((with_reducible refine gate_callee (f := 39) rfl ?_); refine goesL_ (some 6) rfl rfl Try.func39 (by kernel_rfl) rfl #[.agg #[.int .i64 a0_0, .int .i64 a0_1, .int .i64 a0_2]] rfl (by (try simp only [zt1, zt2, zt3]) <;> rfl) ?_; (with_reducible refine (when_RightGrid.calls a0_0 a0_1 a0_2 true _ A3.out).mono ?_); rintro e w35 ⟨rfl, hb⟩; refine ⟨_, rfl, ?_⟩; replace BK115 := zm (blk_below (by apply_rules [BK115.out, zk1, zk2, zk3]) hb); replace BK116 := zm (blk_below (by apply_rules [BK116.out, zk1, zk2, zk3]) hb); replace HB := zm (below_step (by apply_rules [HB.out, zb1, zb2, zb3, zb4, GE115.out, zb4, GE116.out]) hb); (try clear hb); obtain ⟨hcz36_0, hcz36_1, hcz36_2, hcz36_3, hfz36_0, hfz36_1, hfz36_2, hfz36_3⟩ := zf4 BK116.out) | (go_at_call 42; (with_reducible refine (when_tame.calls a1_0 a1_1 a1_2 a1_3 true _ A5.out).mono ?_); rintro e w37 ⟨rfl, hb⟩; replace BK115 := zm (blk_below (by apply_rules [BK115.out, zk1, zk2, zk3]) hb); replace BK116 := zm (blk_below (by apply_rules [BK116.out, zk1, zk2, zk3]) hb); replace HB := zm (below_step (by apply_rules [HB.out, zb1, zb2, zb3, zb4, GE115.out, zb4, GE116.out]) hb); (try clear hb); obtain ⟨hcz38_0, hcz38_1, hcz38_2, hcz38_3, hfz38_0, hfz38_1, hfz38_2, hfz38_3⟩ := zf4 BK116.out; obtain ⟨hcz39_0, hcz39_1, hcz39_2, hfz39_0, hfz39_1, hfz39_2⟩ := zf3 BK115.out))
      go_ret
      exact ⟨by first | rfl | (simp [errW_none, errW_some] <;> rfl) | (simp only [← hji28]; first | rfl | (simp [errW_none, errW_some] <;> rfl)) | (simp [*, errW_none, errW_some] <;> rfl), by apply_rules [HB.out, zb1, zb2, zb3, zb4, GE115.out, zb4, GE116.out]⟩
     rw [if_neg c30] at H
     have c30b0 : (a1_1 == 0) = false := beq_eq_false_iff_ne.mpr c30
     have c30b1 : (a1_1 != 0) = true := bne_iff_ne.mpr c30
     by_cases c40 : 0 ≤ a0_1
     ·rw [if_pos c40] at H
      have c40b0 := eq_true c40
      have c40b1 : decide (0 ≤ a0_1) = true := decide_eq_true c40
      clear c40
      obtain ⟨ji41, hji41⟩ : ∃ j_ : Int, (shr .i64 (wrap64 (a1_1)) a0_1) = j_ := ⟨_, rfl⟩
      replace H : (some ((ji41) == 0)) = some r := by first | (rw [hji41] at H; exact H) | (simp only [hji41] at H ⊢; exact H)
      (try rw [hji41] at A3)
      (try rw [hji41] at A5)
      have hji41_ : ((wrap64 (a1_1)) / 2 ^ min a0_1.toNat 64) = ji41 := hji41
      have hji41z : a0_1 ≤ 64 → ((wrap64 (a1_1)) / 2 ^ a0_1.toNat) = ji41 := shr_small hji41
      obtain rfl := Option.some.inj H
      go_enter Try.func27, Try.ntmps27
      go_wp2_with (first | ((with_reducible refine gate_dst (N := 2) rfl ?_); refine box_event ?hg (N := 2) ?hd (cs := #[.int .i64 a0_0, .int .i64 a0_1, .int .i64 a0_2]) (t := 23) ?hr ?_; (case hd => rfl); (case hg => rfl); (case hr => go_simp; try rfl); intro gb115 hg w42 hbox hb; have BK115 := zm (hbox); have GW115 := zm ((by rw [hg]; exact (below_size (by apply_rules [HB.out, zb1, zb2, zb3])) : w.heap.size ≤ gb115)); have GE115 := GW115; replace HB := zm (below_step (by apply_rules [HB.out, zb1, zb2, zb3]) hb); clear hb hbox hg) | ((with_reducible refine gate_dst (N := 3) rfl ?_); refine box_event ?hg (N := 3) ?hd (cs := #[.int .u32 a1_0, .int .u8 a1_1, .int .i64 a1_2, .int .i64 a1_3]) (t := 49) ?hr ?_; (case hd => rfl); (case hg => rfl); (case hr => go_simp; try rfl); intro gb116 hg w43 hbox hb; have n0_ := zm (blk_below (by apply_rules [BK115.out, zk1, zk2, zk3]) hb); have n1_ := zm (below_step (by apply_rules [HB.out, zb1, zb2, zb3, zb4, GE115.out]) hb); have n2_ := zm (hbox); have n3_ := zm ((by rw [hg]; exact (below_size (by apply_rules [HB.out, zb1, zb2, zb3, zb4, GE115.out])) : w.heap.size ≤ gb116)); have n4_ := n3_; have n5_ := zm ((by rw [hg]; exact Nat.ne_of_lt (blk_lt (by apply_rules [BK115.out, zk1, zk2, zk3])) : gb115 ≠ gb116)); have n6_ := zm ((by rw [hg]; exact Nat.ne_of_gt (blk_lt (by apply_rules [BK115.out, zk1, zk2, zk3])) : gb116 ≠ gb115)); clear BK115; clear HB; have BK115 := n0_; have HB := n1_; have BK116 := n2_; have GW116 := n3_; have GE116 := n4_; have NB115_116 := n5_; have NB116_115 := n6_; clear n0_ n1_ n2_ n3_ n4_ n5_ n6_; clear hb hbox hg; have hnb44 := NB115_116.out; have hnc44 := NB116_115.out; obtain ⟨hcz45_0, hcz45_1, hcz45_2, hfz45_0, hfz45_1, hfz45_2⟩ := zf3 BK115.out) | ((with_reducible refine gate_callee (f := 39) rfl ?_); refine goesL_ (some 6) rfl rfl Try.func39 (by kernel_rfl) rfl #[.agg #[.int .i64 a0_0, .int .i64 a0_1, .int .i64 a0_2]] rfl (by (try simp only [zt1, zt2, zt3]) <;> rfl) ?_; (with_reducible refine (when_RightGrid.calls a0_0 a0_1 a0_2 true _ A3.out).mono ?_); rintro e w46 ⟨rfl, hb⟩; refine ⟨_, rfl, ?_⟩; replace BK115 := zm (blk_below (by apply_rules [BK115.out, zk1, zk2, zk3]) hb); replace BK116 := zm (blk_below (by apply_rules [BK116.out, zk1, zk2, zk3]) hb); replace HB := zm (below_step (by apply_rules [HB.out, zb1, zb2, zb3, zb4, GE115.out, zb4, GE116.out]) hb); (try clear hb); obtain ⟨hcz47_0, hcz47_1, hcz47_2, hcz47_3, hfz47_0, hfz47_1, hfz47_2, hfz47_3⟩ := zf4 BK116.out) | (go_at_call 42; (with_reducible refine (when_tame.calls a1_0 a1_1 a1_2 a1_3 true _ A5.out).mono ?_); rintro e w48 ⟨rfl, hb⟩; replace BK115 := zm (blk_below (by apply_rules [BK115.out, zk1, zk2, zk3]) hb); replace BK116 := zm (blk_below (by apply_rules [BK116.out, zk1, zk2, zk3]) hb); replace HB := zm (below_step (by apply_rules [HB.out, zb1, zb2, zb3, zb4, GE115.out, zb4, GE116.out]) hb); (try clear hb); obtain ⟨hcz49_0, hcz49_1, hcz49_2, hcz49_3, hfz49_0, hfz49_1, hfz49_2, hfz49_3⟩ := zf4 BK116.out; obtain ⟨hcz50_0, hcz50_1, hcz50_2, hfz50_0, hfz50_1, hfz50_2⟩ := zf3 BK115.out))
      go_ret
      exact ⟨by first | rfl | (simp [errW_none, errW_some] <;> rfl) | (simp only [← hji28, ← hji41]; first | rfl | (simp [errW_none, errW_some] <;> rfl)) | (simp [*, errW_none, errW_some] <;> rfl), by apply_rules [HB.out, zb1, zb2, zb3, zb4, GE115.out, zb4, GE116.out]⟩
     rw [if_neg c40] at H
     exact absurd H (by simp)
    rw [if_neg c29] at H
    have c29b0 : ((ji28) == 0) = false := beq_eq_false_iff_ne.mpr c29
    have c29b1 : ((ji28) != 0) = true := bne_iff_ne.mpr c29
    obtain rfl := Option.some.inj H
    go_enter Try.func27, Try.ntmps27
    go_wp2_with (first | ((with_reducible refine gate_dst (N := 2) rfl ?_); refine box_event ?hg (N := 2) ?hd (cs := #[.int .i64 a0_0, .int .i64 a0_1, .int .i64 a0_2]) (t := 23) ?hr ?_; (case hd => rfl); (case hg => rfl); (case hr => go_simp; try rfl); intro gb115 hg w51 hbox hb; have BK115 := zm (hbox); have GW115 := zm ((by rw [hg]; exact (below_size (by apply_rules [HB.out, zb1, zb2, zb3])) : w.heap.size ≤ gb115)); have GE115 := GW115; replace HB := zm (below_step (by apply_rules [HB.out, zb1, zb2, zb3]) hb); clear hb hbox hg) | ((with_reducible refine gate_dst (N := 3) rfl ?_); refine box_event ?hg (N := 3) ?hd (cs := #[.int .u32 a1_0, .int .u8 a1_1, .int .i64 a1_2, .int .i64 a1_3]) (t := 49) ?hr ?_; (case hd => rfl); (case hg => rfl); (case hr => go_simp; try rfl); intro gb116 hg w52 hbox hb; have n0_ := zm (blk_below (by apply_rules [BK115.out, zk1, zk2, zk3]) hb); have n1_ := zm (below_step (by apply_rules [HB.out, zb1, zb2, zb3, zb4, GE115.out]) hb); have n2_ := zm (hbox); have n3_ := zm ((by rw [hg]; exact (below_size (by apply_rules [HB.out, zb1, zb2, zb3, zb4, GE115.out])) : w.heap.size ≤ gb116)); have n4_ := n3_; have n5_ := zm ((by rw [hg]; exact Nat.ne_of_lt (blk_lt (by apply_rules [BK115.out, zk1, zk2, zk3])) : gb115 ≠ gb116)); have n6_ := zm ((by rw [hg]; exact Nat.ne_of_gt (blk_lt (by apply_rules [BK115.out, zk1, zk2, zk3])) : gb116 ≠ gb115)); clear BK115; clear HB; have BK115 := n0_; have HB := n1_; have BK116 := n2_; have GW116 := n3_; have GE116 := n4_; have NB115_116 := n5_; have NB116_115 := n6_; clear n0_ n1_ n2_ n3_ n4_ n5_ n6_; clear hb hbox hg; have hnb53 := NB115_116.out; have hnc53 := NB116_115.out; obtain ⟨hcz54_0, hcz54_1, hcz54_2, hfz54_0, hfz54_1, hfz54_2⟩ := zf3 BK115.out) | ((with_reducible refine gate_callee (f := 39) rfl ?_); refine goesL_ (some 6) rfl rfl Try.func39 (by kernel_rfl) rfl #[.agg #[.int .i64 a0_0, .int .i64 a0_1, .int .i64 a0_2]] rfl (by (try simp only [zt1, zt2, zt3]) <;> rfl) ?_; (with_reducible refine (when_RightGrid.calls a0_0 a0_1 a0_2 true _ A3.out).mono ?_); rintro e w55 ⟨rfl, hb⟩; refine ⟨_, rfl, ?_⟩; replace BK115 := zm (blk_below (by apply_rules [BK115.out, zk1, zk2, zk3]) hb); replace BK116 := zm (blk_below (by apply_rules [BK116.out, zk1, zk2, zk3]) hb); replace HB := zm (below_step (by apply_rules [HB.out, zb1, zb2, zb3, zb4, GE115.out, zb4, GE116.out]) hb); (try clear hb); obtain ⟨hcz56_0, hcz56_1, hcz56_2, hcz56_3, hfz56_0, hfz56_1, hfz56_2, hfz56_3⟩ := zf4 BK116.out) | (go_at_call 42; (with_reducible refine (when_tame.calls a1_0 a1_1 a1_2 a1_3 true _ A5.out).mono ?_); rintro e w57 ⟨rfl, hb⟩; replace BK115 := zm (blk_below (by apply_rules [BK115.out, zk1, zk2, zk3]) hb); replace BK116 := zm (blk_below (by apply_rules [BK116.out, zk1, zk2, zk3]) hb); replace HB := zm (below_step (by apply_rules [HB.out, zb1, zb2, zb3, zb4, GE115.out, zb4, GE116.out]) hb); (try clear hb); obtain ⟨hcz58_0, hcz58_1, hcz58_2, hcz58_3, hfz58_0, hfz58_1, hfz58_2, hfz58_3⟩ := zf4 BK116.out; obtain ⟨hcz59_0, hcz59_1, hcz59_2, hfz59_0, hfz59_1, hfz59_2⟩ := zf3 BK115.out))
    go_ret
    exact ⟨by first | rfl | (simp [errW_none, errW_some] <;> rfl) | (simp only [← hji28]; first | rfl | (simp [errW_none, errW_some] <;> rfl)) | (simp [*, errW_none, errW_some] <;> rfl), by apply_rules [HB.out, zb1, zb2, zb3, zb4, GE115.out, zb4, GE116.out]⟩
   rw [if_neg c27] at H
   exact absurd H (by simp)
  replace c6 := Bool.eq_false_iff.mpr c6
  subst c6
  have H1 : (some false) = some r := by rw [if_neg (show ¬ (false = true) by decide)] at H; exact H
  clear H
  have H := H1
  clear H1
  obtain rfl := Option.some.inj H
  go_enter Try.func27, Try.ntmps27
  go_wp2_with (first | ((with_reducible refine gate_dst (N := 2) rfl ?_); refine box_event ?hg (N := 2) ?hd (cs := #[.int .i64 a0_0, .int .i64 a0_1, .int .i64 a0_2]) (t := 23) ?hr ?_; (case hd => rfl); (case hg => rfl); (case hr => go_simp; try rfl); intro gb115 hg w60 hbox hb; have BK115 := zm (hbox); have GW115 := zm ((by rw [hg]; exact (below_size (by apply_rules [HB.out, zb1, zb2, zb3])) : w.heap.size ≤ gb115)); have GE115 := GW115; replace HB := zm (below_step (by apply_rules [HB.out, zb1, zb2, zb3]) hb); clear hb hbox hg) | ((with_reducible refine gate_dst (N := 3) rfl ?_); refine box_event ?hg (N := 3) ?hd (cs := #[.int .u32 a1_0, .int .u8 a1_1, .int .i64 a1_2, .int .i64 a1_3]) (t := 49) ?hr ?_; (case hd => rfl); (case hg => rfl); (case hr => go_simp; try rfl); intro gb116 hg w61 hbox hb; have n0_ := zm (blk_below (by apply_rules [BK115.out, zk1, zk2, zk3]) hb); have n1_ := zm (below_step (by apply_rules [HB.out, zb1, zb2, zb3, zb4, GE115.out]) hb); have n2_ := zm (hbox); have n3_ := zm ((by rw [hg]; exact (below_size (by apply_rules [HB.out, zb1, zb2, zb3, zb4, GE115.out])) : w.heap.size ≤ gb116)); have n4_ := n3_; have n5_ := zm ((by rw [hg]; exact Nat.ne_of_lt (blk_lt (by apply_rules [BK115.out, zk1, zk2, zk3])) : gb115 ≠ gb116)); have n6_ := zm ((by rw [hg]; exact Nat.ne_of_gt (blk_lt (by apply_rules [BK115.out, zk1, zk2, zk3])) : gb116 ≠ gb115)); clear BK115; clear HB; have BK115 := n0_; have HB := n1_; have BK116 := n2_; have GW116 := n3_; have GE116 := n4_; have NB115_116 := n5_; have NB116_115 := n6_; clear n0_ n1_ n2_ n3_ n4_ n5_ n6_; clear hb hbox hg; have hnb62 := NB115_116.out; have hnc62 := NB116_115.out; obtain ⟨hcz63_0, hcz63_1, hcz63_2, hfz63_0, hfz63_1, hfz63_2⟩ := zf3 BK115.out) | ((with_reducible refine gate_callee (f := 39) rfl ?_); refine goesL_ (some 6) rfl rfl Try.func39 (by kernel_rfl) rfl #[.agg #[.int .i64 a0_0, .int .i64 a0_1, .int .i64 a0_2]] rfl (by (try simp only [zt1, zt2, zt3]) <;> rfl) ?_; (with_reducible refine (when_RightGrid.calls a0_0 a0_1 a0_2 true _ A3.out).mono ?_); rintro e w64 ⟨rfl, hb⟩; refine ⟨_, rfl, ?_⟩; replace BK115 := zm (blk_below (by apply_rules [BK115.out, zk1, zk2, zk3]) hb); replace BK116 := zm (blk_below (by apply_rules [BK116.out, zk1, zk2, zk3]) hb); replace HB := zm (below_step (by apply_rules [HB.out, zb1, zb2, zb3, zb4, GE115.out, zb4, GE116.out]) hb); (try clear hb); obtain ⟨hcz65_0, hcz65_1, hcz65_2, hcz65_3, hfz65_0, hfz65_1, hfz65_2, hfz65_3⟩ := zf4 BK116.out) | (go_at_call 42; (with_reducible refine (when_tame.calls a1_0 a1_1 a1_2 a1_3 false _ A5.out).mono ?_); rintro e w66 ⟨rfl, hb⟩; replace BK115 := zm (blk_below (by apply_rules [BK115.out, zk1, zk2, zk3]) hb); replace BK116 := zm (blk_below (by apply_rules [BK116.out, zk1, zk2, zk3]) hb); replace HB := zm (below_step (by apply_rules [HB.out, zb1, zb2, zb3, zb4, GE115.out, zb4, GE116.out]) hb); (try clear hb)))
  go_ret
  exact ⟨by first | rfl | (simp [errW_none, errW_some] <;> rfl) | (simp [*, errW_none, errW_some] <;> rfl), by apply_rules [HB.out, zb1, zb2, zb3, zb4, GE115.out, zb4, GE116.out]⟩
 replace c4 := Bool.eq_false_iff.mpr c4
 subst c4
 have H1 : (some false) = some r := by rw [if_neg (show ¬ (false = true) by decide)] at H; exact H
 clear H
 have H := H1
 clear H1
 obtain rfl := Option.some.inj H
 go_enter Try.func27, Try.ntmps27
 go_wp2_with (first | ((with_reducible refine gate_dst (N := 2) rfl ?_); refine box_event ?hg (N := 2) ?hd (cs := #[.int .i64 a0_0, .int .i64 a0_1, .int .i64 a0_2]) (t := 23) ?hr ?_; (case hd => rfl); (case hg => rfl); (case hr => go_simp; try rfl); intro gb115 hg w67 hbox hb; have BK115 := zm (hbox); have GW115 := zm ((by rw [hg]; exact (below_size (by apply_rules [HB.out, zb1, zb2, zb3])) : w.heap.size ≤ gb115)); have GE115 := GW115; replace HB := zm (below_step (by apply_rules [HB.out, zb1, zb2, zb3]) hb); clear hb hbox hg) | ((with_reducible refine gate_dst (N := 3) rfl ?_); refine box_event ?hg (N := 3) ?hd (cs := #[.int .u32 a1_0, .int .u8 a1_1, .int .i64 a1_2, .int .i64 a1_3]) (t := 49) ?hr ?_; (case hd => rfl); (case hg => rfl); (case hr => go_simp; try rfl); intro gb116 hg w68 hbox hb; have n0_ := zm (blk_below (by apply_rules [BK115.out, zk1, zk2, zk3]) hb); have n1_ := zm (below_step (by apply_rules [HB.out, zb1, zb2, zb3, zb4, GE115.out]) hb); have n2_ := zm (hbox); have n3_ := zm ((by rw [hg]; exact (below_size (by apply_rules [HB.out, zb1, zb2, zb3, zb4, GE115.out])) : w.heap.size ≤ gb116)); have n4_ := n3_; have n5_ := zm ((by rw [hg]; exact Nat.ne_of_lt (blk_lt (by apply_rules [BK115.out, zk1, zk2, zk3])) : gb115 ≠ gb116)); have n6_ := zm ((by rw [hg]; exact Nat.ne_of_gt (blk_lt (by apply_rules [BK115.out, zk1, zk2, zk3])) : gb116 ≠ gb115)); clear BK115; clear HB; have BK115 := n0_; have HB := n1_; have BK116 := n2_; have GW116 := n3_; have GE116 := n4_; have NB115_116 := n5_; have NB116_115 := n6_; clear n0_ n1_ n2_ n3_ n4_ n5_ n6_; clear hb hbox hg; have hnb69 := NB115_116.out; have hnc69 := NB116_115.out; obtain ⟨hcz70_0, hcz70_1, hcz70_2, hfz70_0, hfz70_1, hfz70_2⟩ := zf3 BK115.out) | ((with_reducible refine gate_callee (f := 39) rfl ?_); refine goesL_ (some 6) rfl rfl Try.func39 (by kernel_rfl) rfl #[.agg #[.int .i64 a0_0, .int .i64 a0_1, .int .i64 a0_2]] rfl (by (try simp only [zt1, zt2, zt3]) <;> rfl) ?_; (with_reducible refine (when_RightGrid.calls a0_0 a0_1 a0_2 false _ A3.out).mono ?_); rintro e w71 ⟨rfl, hb⟩; refine ⟨_, rfl, ?_⟩; replace BK115 := zm (blk_below (by apply_rules [BK115.out, zk1, zk2, zk3]) hb); replace BK116 := zm (blk_below (by apply_rules [BK116.out, zk1, zk2, zk3]) hb); replace HB := zm (below_step (by apply_rules [HB.out, zb1, zb2, zb3, zb4, GE115.out, zb4, GE116.out]) hb); (try clear hb)))
 go_ret
 exact ⟨by first | rfl | (simp [errW_none, errW_some] <;> rfl) | (simp [*, errW_none, errW_some] <;> rfl), by apply_rules [HB.out, zb1, zb2, zb3, zb4, GE115.out, zb4, GE116.out]⟩
end Go.Proofs.Ytlfnpakpkniipaa.Q
