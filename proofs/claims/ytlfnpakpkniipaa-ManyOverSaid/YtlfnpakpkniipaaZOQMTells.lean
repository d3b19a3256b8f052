/- Words for the claim. -/
import Derived.Test.YtlfnpakpkniipaaZOQMDays
import Derived.Test.YtlfnpakpkniipaaZOQx2
import Derived.Test.YtlfnpakpkniipaaZOQx10
import Derived.Test.YtlfnpakpkniipaaZOQx11
import Derived.Test.YtlfnpakpkniipaaZOQx12
import Derived.Test.YtlfnpakpkniipaaZOQx13
set_option linter.unusedVariables false
set_option linter.unusedSimpArgs false
namespace Go.Proofs.Ytlfnpakpkniipaa.Q
open Go.RowKit Go.IntWalk Go.Proofs.YtlfnpakpkniipaaW.PrintWords Go.Proofs.YtlfnpakpkniipaaW.PrintLast Go.Proofs.YtlfnpakpkniipaaW.PrintMore Go.Proofs.YtlfnpakpkniipaaH
theorem refDays_l1 {l : List S49} {g0 g1 g2 : Int} (hl : l.length < 9223372036854775807) (hk : ∀ x ∈ l, ok49 x) {c : Int} {d : Nat} (hd : d < 7) {r : Int} : ∀ (xs pre : List S49) (q : Bool), l = pre ++ xs →
    Ev (fun k => if (q || onDow g0 g1 g2 xs d) = true then horariumref16_Days.l0 k l (wrap64 (c + 1)) (wrap64 ((d : Int) + 1)) g0 g1 g2 else horariumref16_Days.l0 k l c (wrap64 ((d : Int) + 1)) g0 g1 g2) r →
    Ev (fun k => horariumref16_Days.l1 k l c (d : Int) q (pre.length : Int) g0 g1 g2) r
  | [], pre, q, h, hr => by
    refine Ev.step (fun k => ?_) hr
    rw [horariumref16_Days.l1, if_neg (by simp [h])]
    simp [onDow]
  | x :: xs, pre, q, h, hr => by
    have hlen : l.length = pre.length + (xs.length + 1) := by simp [h]
    have hx := rdW_mid h
    have hxk := hk x (by simp [h])
    have hb := wf_u8 hxk.2.1
    have hs : ((pre ++ [x]).length : Int) = (pre.length : Int) + 1 := by simp
    cases q with
    | true =>
      refine Ev.step (f := fun k => horariumref16_Days.l1 k l c (d : Int) true ((pre ++ [x]).length : Int) g0 g1 g2) (fun k => ?_) ?_
      · rw [horariumref16_Days.l1, if_pos (by omega), if_pos rfl, wrap64_in _ (by omega), hs]
      · exact refDays_l1 hl hk hd xs (pre ++ [x]) true (by simp [h]) (by simpa using hr)
    | false =>
      have hu : IntKind.u64.wrap (d : Int) = (d : Int) := by simp [IntKind.wrap, IntKind.bits, IntKind.signed]; omega
      have hsh : shr .u8 x.f1 (d : Int) = x.f1 / 2 ^ d := by unfold shr; rw [Int.toNat_natCast, Nat.min_eq_left (by simp only [IntKind.bits]; omega)]
      refine Ev.step (f := fun k => (horariumref09_Right.f k g0 g1 g2 x.f0 x.f1 x.f2 x.f3).bind fun t => if t = true then horariumref16_Days.l1 k l c (d : Int) (x.f1.toNat.testBit d) ((pre ++ [x]).length : Int) g0 g1 g2 else horariumref16_Days.l1 k l c (d : Int) false ((pre ++ [x]).length : Int) g0 g1 g2) (fun k => ?_) ?_
      · rw [horariumref16_Days.l1, if_pos (by omega), if_neg (by simp), if_pos (by omega), hx, wrap64_in _ (by omega), hs, hu, if_pos (by omega), hsh, day_bit hb.1]
      · refine Ev.bind (refRight_ev hxk) ?_
        cases hw : wok g0 g1 g2 x with
        | true =>
          refine Ev.congr (fun _ => by rw [if_pos rfl]) ?_
          refine refDays_l1 hl hk hd xs (pre ++ [x]) _ (by simp [h]) ?_
          simpa [onDow, hw] using hr
        | false =>
          refine Ev.congr (fun _ => by rw [if_neg (by simp)]) ?_
          refine refDays_l1 hl hk hd xs (pre ++ [x]) _ (by simp [h]) ?_
          simpa [onDow, hw] using hr
def cntDow (g0 g1 g2 : Int) (l : List S49) : Nat → Nat → Nat
  | 0, _ => 0
  | m + 1, d => (onDow g0 g1 g2 l d).toNat + cntDow g0 g1 g2 l m (d + 1)
theorem refDays_l0 {l : List S49} {g0 g1 g2 : Int} (hl : l.length < 9223372036854775807) (hk : ∀ x ∈ l, ok49 x) : ∀ (m d c : Nat), d + m = 7 → c ≤ d → Ev (fun k => horariumref16_Days.l0 k l (c : Int) (d : Int) g0 g1 g2) ((c + cntDow g0 g1 g2 l m d : Nat) : Int)
  | 0, d, c, h, hc => by
    refine Ev.step (f := fun _ => some (c : Int)) (fun k => ?_) (Ev.now _)
    rw [horariumref16_Days.l0, if_neg (by omega)]
  | m + 1, d, c, h, hc => by
    refine Ev.step (f := fun k => horariumref16_Days.l1 k l (c : Int) (d : Int) false 0 g0 g1 g2) (fun k => ?_) ?_
    · rw [horariumref16_Days.l0, if_pos (by omega)]
    · refine refDays_l1 hl hk (by omega) l [] false rfl ?_
      rw [wrap64_in _ (by omega), wrap64_in _ (by omega), Bool.false_or, cntDow]
      cases onDow g0 g1 g2 l d with
      | true =>
        refine Ev.congr (fun _ => by rw [if_pos rfl]) ?_
        have := refDays_l0 (g0 := g0) (g1 := g1) (g2 := g2) hl hk m (d + 1) (c + 1) (by omega) (by omega)
        rw [show c + 1 + cntDow g0 g1 g2 l m (d + 1) = c + (true.toNat + cntDow g0 g1 g2 l m (d + 1)) by simp; omega] at this
        exact this
      | false =>
        refine Ev.congr (fun _ => by rw [if_neg (by simp)]) ?_
        have := refDays_l0 (g0 := g0) (g1 := g1) (g2 := g2) hl hk m (d + 1) c (by omega) (by omega)
        rw [show c + cntDow g0 g1 g2 l m (d + 1) = c + (false.toNat + cntDow g0 g1 g2 l m (d + 1)) by simp] at this
        exact this
theorem refDays_ev {l : List S49} {g0 g1 g2 : Int} (hl : l.length * 24 ≤ 140737488351232 ∧ ∀ x ∈ l, ok49 x) : Ev (fun k => horariumref16_Days.f k g0 g1 g2 l) (daysN g0 g1 g2 l : Int) := by
  have h := refDays_l0 (g0 := g0) (g1 := g1) (g2 := g2) (small hl.1 (by omega)) hl.2 7 0 0 rfl (by omega)
  rw [show 0 + cntDow g0 g1 g2 l 7 0 = daysN g0 g1 g2 l by simp [cntDow, daysN]; omega] at h
  exact h
end Go.Proofs.Ytlfnpakpkniipaa.Q
