/- Words for the claim. -/
import Derived.IntWalk
import Derived.Test.YtlfnpakpkniipaaZGQPWhen
import Derived.Test.YtlfnpakpkniipaaZGQx2
import Derived.Test.YtlfnpakpkniipaaZGQx3
import Derived.Test.YtlfnpakpkniipaaZGQx4
import Derived.Test.YtlfnpakpkniipaaZGQx10
import Derived.Test.YtlfnpakpkniipaaZGQx12
set_option linter.unusedVariables false
set_option linter.unusedSimpArgs false
namespace Go.Proofs.Ytlfnpakpkniipaa.Q
open Go.RowKit Go.IntWalk Go.Proofs.YtlfnpakpkniipaaW.PrintWords Go.Proofs.YtlfnpakpkniipaaW.PrintLast Go.Proofs.YtlfnpakpkniipaaW.PrintMore Go.Proofs.YtlfnpakpkniipaaH
def wok (g0 g1 g2 : Int) (x : S49) : Bool := decide (WhenOk g0 g1 g2 x.f0 x.f1 x.f2 x.f3)
theorem right_eq {g0 g1 g2 : Int} {x : S49} (h : ok49 x) : when_Right.f g0 g1 g2 x.f0 x.f1 x.f2 x.f3 = some (wok g0 g1 g2 x) := when_Right_eq h.1 h.2.1
theorem rdW_mid {l pre xs : List S49} {x : S49} (h : l = pre ++ x :: xs) : rd_T49 l (pre.length : Int) = x := by unfold rd_T49; rw [h, Int.toNat_natCast, getD_mid]
theorem bv_nat {k : IntKind} {n : Nat} (h : n < 2 ^ k.bits) : (BitVec.ofInt k.bits (n : Int)).toNat = n := by
  rw [BitVec.ofInt_natCast, BitVec.toNat_ofNat, Nat.mod_eq_of_lt h]
theorem wrap_nat {k : IntKind} {n : Nat} (h : n < 2 ^ k.bits) (hs : k.signed = false) : k.wrap (n : Int) = (n : Int) := by
  have h1 : (n : Int) < ((2 ^ k.bits : Nat) : Int) := by exact_mod_cast h
  have h2 : (n : Int) % 2 ^ k.bits = (n : Int) := Int.emod_eq_of_lt (by omega) (by simpa using h1)
  unfold IntKind.wrap
  simp [hs, h2]
theorem or_nat {k : IntKind} {m n : Nat} (hm : m < 2 ^ k.bits) (hn : n < 2 ^ k.bits) (hs : k.signed = false) : Go.bits .or k (m : Int) (n : Int) = ((m ||| n : Nat) : Int) := by
  unfold Go.bits
  simp only [BitVec.toNat_or, bv_nat hm, bv_nat hn]
  exact wrap_nat (Nat.or_lt_two_pow hm hn) hs
theorem and_nat {k : IntKind} {m n : Nat} (hm : m < 2 ^ k.bits) (hn : n < 2 ^ k.bits) (hs : k.signed = false) : Go.bits .and k (m : Int) (n : Int) = ((m &&& n : Nat) : Int) := by
  unfold Go.bits
  simp only [BitVec.toNat_and, bv_nat hm, bv_nat hn]
  exact wrap_nat (Nat.and_lt_two_pow _ hn) hs
theorem or8 {a b : Int} (ha : 0 ≤ a) (ha' : a < 256) (hb : 0 ≤ b) (hb' : b < 256) : Go.bits .or .u8 a b = ((a.toNat ||| b.toNat : Nat) : Int) ∧ (a.toNat ||| b.toNat) < 256 := by
  obtain ⟨m, rfl⟩ := Int.eq_ofNat_of_zero_le ha
  obtain ⟨n, rfl⟩ := Int.eq_ofNat_of_zero_le hb
  rw [Int.toNat_natCast, Int.toNat_natCast]
  exact ⟨or_nat (k := .u8) (show m < 256 by omega) (show n < 256 by omega) rfl, Nat.or_lt_two_pow (n := 8) (by omega) (by omega)⟩
theorem day_bit {x : Int} (hx : 0 ≤ x) (d : Nat) : ((x / 2 ^ d).tmod 2 == 1) = x.toNat.testBit d := by
  obtain ⟨n, rfl⟩ := Int.eq_ofNat_of_zero_le hx
  rw [Nat.testBit_eq_decide_div_mod_eq]
  have e : ((n : Int) / 2 ^ d) = ((n / 2 ^ d : Nat) : Int) := by simp
  have h0 : 0 ≤ (n : Int) / 2 ^ d := Int.ediv_nonneg hx (Int.pow_nonneg (by omega))
  rw [Int.tmod_eq_emod_of_nonneg h0, e, Int.toNat_natCast]
  rw [Bool.eq_iff_iff]; simp only [beq_iff_eq, decide_eq_true_eq]
  omega
theorem pop8_testBit (n : Nat) : pop8 n = (n.testBit 0).toNat + (n.testBit 1).toNat + (n.testBit 2).toNat + (n.testBit 3).toNat + (n.testBit 4).toNat + (n.testBit 5).toNat + (n.testBit 6).toNat + (n.testBit 7).toNat := by
  have h : ∀ d, (n.testBit d).toNat = n / 2 ^ d % 2 := fun d => by
    rw [Nat.testBit_eq_decide_div_mod_eq]
    have : n / 2 ^ d % 2 < 2 := Nat.mod_lt _ (by omega)
    by_cases hd : n / 2 ^ d % 2 = 1
    · rw [decide_eq_true hd, hd]; rfl
    · rw [decide_eq_false hd]; simp; omega
  simp only [h]
  unfold pop8
  simp
def onDow (g0 g1 g2 : Int) (l : List S49) (d : Nat) : Bool := l.any (fun x => wok g0 g1 g2 x && x.f1.toNat.testBit d)
def daysN (g0 g1 g2 : Int) (l : List S49) : Nat := (onDow g0 g1 g2 l 0).toNat + (onDow g0 g1 g2 l 1).toNat + (onDow g0 g1 g2 l 2).toNat + (onDow g0 g1 g2 l 3).toNat + (onDow g0 g1 g2 l 4).toNat + (onDow g0 g1 g2 l 5).toNat + (onDow g0 g1 g2 l 6).toNat
theorem wok_seven {g0 g1 g2 : Int} {x : S49} (h : ok49 x) (hw : wok g0 g1 g2 x = true) : x.f1.toNat.testBit 7 = false := by
  have hb := wf_u8 h.2.1
  unfold wok at hw; rw [decide_eq_true_eq] at hw
  have hg := hw.1; unfold GridOk at hg
  have h7 := hw.2.2.2.2.2.2.2
  refine Nat.testBit_lt_two_pow ?_
  have h8 : x.f1 / 2 ^ 7 = 0 := by
    obtain ⟨n, hn⟩ := Int.eq_ofNat_of_zero_le hb.1
    obtain ⟨m, hm⟩ := Int.eq_ofNat_of_zero_le (show 0 ≤ g1 by omega)
    have hm7 : m ≤ 7 := by omega
    rw [hm] at h7
    rw [hn] at h7 ⊢
    rw [Int.toNat_natCast] at h7
    have e : ∀ d : Nat, ((n : Int) / 2 ^ d) = ((n / 2 ^ d : Nat) : Int) := fun d => by simp
    rw [e] at h7 ⊢
    have h9 : n / 2 ^ m = 0 := by omega
    have hp : 0 < 2 ^ m := Nat.pow_pos (by omega)
    have h10 : n < 2 ^ m := by
      rcases Nat.lt_or_ge n (2 ^ m) with h | h
      · exact h
      · have := Nat.div_pos h hp; omega
    have h11 : (2 : Nat) ^ m ≤ 2 ^ 7 := Nat.pow_le_pow_right (by omega) hm7
    have : n / 2 ^ 7 = 0 := Nat.div_eq_of_lt (by omega)
    rw [this]; rfl
  have : x.f1 / 128 = 0 := by simpa using h8
  omega
theorem days_l0 {l : List S49} {g0 g1 g2 : Int} (hl : l.length < 9223372036854775807) (hk : ∀ x ∈ l, ok49 x) : ∀ (xs pre : List S49) (a : Nat), l = pre ++ xs → a < 256 → (∀ d, a.testBit d = onDow g0 g1 g2 pre d) → Ev (fun k => many_Days.l0 k (a : Int) l (l.length : Int) (pre.length : Int) g0 g1 g2) (daysN g0 g1 g2 l : Int)
  | [], pre, a, h, h0, hp => by
    refine Ev.step (f := fun _ => some (daysN g0 g1 g2 l : Int)) (fun k => ?_) (Ev.now _)
    have hpl : pre = l := by simp [h]
    rw [many_Days.l0, if_neg (by simp [h])]
    unfold bits_OnesCount8.f
    rw [if_pos (by omega), Option.bind_some, Int.toNat_natCast, pop8_testBit]
    simp only [hp]
    rw [hpl]
    have h7 : onDow g0 g1 g2 l 7 = false := by
      unfold onDow; rw [List.any_eq_false]
      intro x hx
      simp only [Bool.and_eq_true, not_and]
      intro hw; rw [wok_seven (hk x hx) hw]; simp
    rw [h7]; rfl
  | x :: xs, pre, a, h, h0, hp => by
    have hlen : l.length = pre.length + (xs.length + 1) := by simp [h]
    have hx := rdW_mid h
    have hxk := hk x (by simp [h])
    have hb := wf_u8 hxk.2.1
    have hs : ((pre ++ [x]).length : Int) = (pre.length : Int) + 1 := by simp
    refine Ev.step (f := fun k => if wok g0 g1 g2 x = true then many_Days.l0 k (Go.bits .or .u8 (a : Int) x.f1) l (l.length : Int) ((pre ++ [x]).length : Int) g0 g1 g2 else many_Days.l0 k (a : Int) l (l.length : Int) ((pre ++ [x]).length : Int) g0 g1 g2) (fun k => ?_) ?_
    · rw [many_Days.l0, if_pos (by omega), if_pos (by omega), if_pos (by omega), hx, right_eq hxk, Option.bind_some, wrap64_in _ (by omega), hs]
    · cases hw : wok g0 g1 g2 x with
      | true =>
        refine Ev.congr (fun _ => by rw [if_pos rfl]) ?_
        obtain ⟨ho, hlt⟩ := or8 (a := (a : Int)) (b := x.f1) (by omega) (by omega) hb.1 hb.2
        rw [ho]
        refine days_l0 hl hk xs (pre ++ [x]) _ (by simp [h]) hlt ?_
        intro d
        rw [Nat.testBit_or, Int.toNat_natCast, hp d]
        simp [onDow, hw]
      | false =>
        refine Ev.congr (fun _ => by rw [if_neg (by simp)]) ?_
        refine days_l0 hl hk xs (pre ++ [x]) _ (by simp [h]) h0 ?_
        intro d
        rw [hp d]
        simp [onDow, hw]
theorem Days_ev {l : List S49} {g0 g1 g2 : Int} (hl : l.length * 24 ≤ 140737488351232 ∧ ∀ x ∈ l, ok49 x) : Ev (fun k => many_Days.f k g0 g1 g2 l) (daysN g0 g1 g2 l : Int) := by
  unfold many_Days.f
  exact days_l0 (small hl.1 (by omega)) hl.2 l [] 0 rfl (by omega) (fun d => by simp [onDow])
theorem heads_ev : Ev (fun k => horariumlaw16_heads.f k) true := Ev.of horariumlaw16_heads.mono (k := 60) (by decide +kernel)
theorem few_eq (l : List S49) : horariumlaw16_few.f l = some (decide ((l.length : Int) ≤ 12)) := rfl
end Go.Proofs.Ytlfnpakpkniipaa.Q
