/- Words for the claim. -/
import Derived.Test.YtlfnpakpkniipaaZGQInsSort
import Derived.Deep.RegionHeld3
import Derived.Test.YtlfnpakpkniipaaZGWords
set_option linter.unusedVariables false
set_option linter.unusedSimpArgs false
namespace Go.Proofs.Ytlfnpakpkniipaa.Q
open Go.RowKit Go.Proofs.YtlfnpakpkniipaaW.PrintWords Go.Proofs.YtlfnpakpkniipaaW.PrintLast Go.Proofs.YtlfnpakpkniipaaW.PrintMore
attribute [local go_sem] max2_int min2_int max_two min_two max_three min_three max_four min_four
theorem set_at {α : Type} (P : List α) (x y : α) (l : List α) : (P ++ x :: l).set P.length y = P ++ y :: l := by simp
theorem wat_at (P : List S49) (x : S49) (l : List S49) : wat (P ++ x :: l) P.length = x := by unfold wat; simp [List.getD]
def swpT (P A M B S : List S49) (t : Nat) : List S49 := P ++ (B.take t ++ A.drop t) ++ M ++ (A.take t ++ B.drop t) ++ S
theorem swpT_step {P A M B S : List S49} {t : Nat} (hA : t < A.length) (hB : B.length = A.length) :
    wat (swpT P A M B S t) (P.length + t) = wat A t ∧ wat (swpT P A M B S t) (P.length + A.length + M.length + t) = wat B t ∧
    ((swpT P A M B S t).set (P.length + t) (wat B t)).set (P.length + A.length + M.length + t) (wat A t) = swpT P A M B S (t + 1) := by
  obtain ⟨a, A2, hA2⟩ : ∃ a A2, A.drop t = a :: A2 := by
    cases h : A.drop t with
    | nil => have := congrArg List.length h; simp at this; omega
    | cons a A2 => exact ⟨a, A2, rfl⟩
  obtain ⟨b, B2, hB2⟩ : ∃ b B2, B.drop t = b :: B2 := by
    cases h : B.drop t with
    | nil => have := congrArg List.length h; simp at this; omega
    | cons a A2 => exact ⟨a, A2, rfl⟩
  have ea : A = A.take t ++ a :: A2 := by rw [← hA2, List.take_append_drop]
  have eb : B = B.take t ++ b :: B2 := by rw [← hB2, List.take_append_drop]
  have la : (A.take t).length = t := by simp; omega
  have lb : (B.take t).length = t := by simp; omega
  have wa : wat A t = a := by
    have := wat_at (A.take t) a A2
    rw [← ea, la] at this; exact this
  have wb : wat B t = b := by
    have := wat_at (B.take t) b B2
    rw [← eb, lb] at this; exact this
  have ta : A.take (t + 1) = A.take t ++ [a] := by
    have h := congrArg (List.take (t + 1)) ea
    rw [h, List.take_append, la, List.take_take, Nat.min_eq_right (by omega)]; simp
  have tb : B.take (t + 1) = B.take t ++ [b] := by
    have h := congrArg (List.take (t + 1)) eb
    rw [h, List.take_append, lb, List.take_take, Nat.min_eq_right (by omega)]; simp
  have da : A.drop (t + 1) = A2 := by rw [← List.drop_drop, hA2]; rfl
  have db : B.drop (t + 1) = B2 := by rw [← List.drop_drop, hB2]; rfl
  have hl2 : A2.length + t + 1 = A.length := by have := congrArg List.length ea; simp at this; omega
  have f1 : swpT P A M B S t = (P ++ B.take t) ++ a :: (A2 ++ M ++ (A.take t ++ b :: B2) ++ S) := by unfold swpT; rw [hA2, hB2]; simp
  have l1 : (P ++ B.take t).length = P.length + t := by rw [List.length_append, lb]
  have f2 : ∀ x, (P ++ B.take t) ++ x :: (A2 ++ M ++ (A.take t ++ b :: B2) ++ S) = (P ++ B.take t ++ x :: A2 ++ M ++ A.take t) ++ b :: (B2 ++ S) := fun x => by simp
  have l2 : ∀ x, (P ++ B.take t ++ x :: A2 ++ M ++ A.take t).length = P.length + A.length + M.length + t := fun x => by simp only [List.length_append, List.length_cons, la, lb]; omega
  refine ⟨?_, ?_, ?_⟩
  · rw [f1, ← l1, wat_at, wa]
  · rw [f1, f2, ← l2 a, wat_at, wb]
  · rw [wa, wb, f1, ← l1, set_at, f2, ← l2 b, set_at]
    unfold swpT
    rw [ta, tb, da, db]
    simp
set_option maxHeartbeats 8000000 in
set_option maxRecDepth 100000 in
theorem swap_calls {base g cap : Nat} {ok : Nat → Prop} (P A M B S : List S49) (hA : B.length = A.length) (hA0 : 0 < A.length) (w : World) (n : Nat) (hn : n = (P ++ A ++ M ++ B ++ S).length) (hn6 : n ≤ 1000000) (hR : Kd.R k49 49 w base ok (.slice (some ⟨g, 0, none⟩) n cap) (P ++ A ++ M ++ B ++ S)) (fv : Value) :
    Calls Try.prog 62 #[.slice (some ⟨g, 0, none⟩) n cap, .int .i64 (P.length : Nat), .int .i64 ((P.length + A.length + M.length : Nat) : Int), .int .i64 (A.length : Nat), fv] w fun ex w' => ex = .returned (.tuple #[]) ∧ Kd.R k49 49 w' base ok (.slice (some ⟨g, 0, none⟩) n cap) (P ++ B ++ M ++ A ++ S) ∧ w.grownBy w' (some g) := by
  have hu49 := Try.underlying49
  have e0 : P ++ A ++ M ++ B ++ S = swpT P A M B S 0 := by simp [swpT]
  have e1 : P ++ B ++ M ++ A ++ S = swpT P A M B S A.length := by unfold swpT; rw [List.take_of_length_le (Nat.le_of_eq hA), List.drop_length, List.take_length, List.drop_eq_nil_of_le (Nat.le_of_eq hA)]; simp
  have hl : P.length + A.length + M.length + A.length ≤ n := by rw [hn]; simp; omega
  rw [e0] at hR
  rw [e1]
  have HR0 := Aside0.mk hR
  have HG0 := Aside0.mk (grown_of_below (Below.refl w.heap.size w) (some g))
  have HAB := Aside0.mk hA
  clear hR hn e0 e1 hA
  obtain ⟨a, ha⟩ : ∃ a, P.length = a := ⟨_, rfl⟩
  obtain ⟨k, hk⟩ : ∃ k, A.length = k := ⟨_, rfl⟩
  obtain ⟨b, hb⟩ : ∃ b, P.length + A.length + M.length = b := ⟨_, rfl⟩
  rw [hb, ha, hk]
  have HA := Aside0.mk ha
  have HK := Aside0.mk hk
  have HB := Aside0.mk hb
  have hab : a + k ≤ b := by omega
  have hbn : b + k ≤ n := by omega
  have hk0 : 0 < k := by omega
  clear ha hk hb hl hA0
  go_enter Try.func62, Try.ntmps62
  go_wp2
  go_loopg [10] k (fun g1 vi wr => ∃ (t : Nat), vi = .int .i64 (t : Int) ∧ Aside0 (t + g1 = k) ∧ Aside0 (Kd.R k49 49 wr base ok (.slice (some ⟨g, 0, none⟩) n cap) (swpT P A M B S t)) ∧ Aside0 (w.grownBy wr (some g)))
  case atStart => exact ⟨0, rfl, ⟨by omega⟩, HR0, HG0⟩
  case round =>
    clear HR0 HG0
    obtain ⟨t, rfl, HI, HR, HG⟩ := hrel
    have hig := HI.out
    by_cases hlt : t < k
    · have hd : decide ((t : Int) < (k : Int)) = true := decide_eq_true (by omega)
      have l1 : a + t ≤ 1000000 := by omega
      have l2 : b + t ≤ 1000000 := by omega
      have w1 : wrap64 ((a : Int) + (t : Int)) = ((a + t : Nat) : Int) := by rw [Go.IntWalk.wrap64_in _ ⟨by omega, by omega⟩]; rfl
      have w2 : wrap64 ((b : Int) + (t : Int)) = ((b + t : Nat) : Int) := by rw [Go.IntWalk.wrap64_in _ ⟨by omega, by omega⟩]; rfl
      have n1 : ((a + t : Nat) : Int) < (n : Int) := by omega
      have n2 : ((b + t : Nat) : Int) < (n : Int) := by omega
      have m1 : (a + t < n) = True := eq_true (by omega)
      have m2 : (b + t < n) = True := eq_true (by omega)
      obtain ⟨r, hr⟩ : ∃ r, b + t = a + t + 1 + r := ⟨b - a - 1, by omega⟩
      obtain ⟨p, hp⟩ : ∃ p, (a + t) * 4 = p := ⟨_, rfl⟩
      obtain ⟨q, hq⟩ : ∃ q, r * 4 = q := ⟨_, rfl⟩
      have hp4 : (b + t) * 4 = p + 4 + q := by omega
      have st := swpT_step (P := P) (M := M) (S := S) (t := t) (show t < A.length by rw [HK.out]; exact hlt) HAB.out
      rw [HB.out, HA.out] at st
      have ST := Aside0.mk st
      clear st
      obtain ⟨c0, c1, c2, c3⟩ := row_cells HR.out (j := a + t) (by omega)
      obtain ⟨d0, d1, d2, d3⟩ := row_cells HR.out (j := b + t) (by omega)
      rw [hp4, ST.out.2.1] at d0 d1 d2 d3
      rw [hp, ST.out.1] at c0 c1 c2 c3
      obtain ⟨cur, hcur⟩ := row_blk HR.out
      have f0 := blk_frozen hcur p
      have f1 := blk_frozen hcur (p + 1)
      have f2 := blk_frozen hcur (p + 2)
      have f3 := blk_frozen hcur (p + 3)
      have f4 := blk_frozen hcur (p + 4 + q)
      have f5 := blk_frozen hcur (p + 4 + q + 1)
      have f6 := blk_frozen hcur (p + 4 + q + 2)
      have f7 := blk_frozen hcur (p + 4 + q + 3)
      clear hcur
      generalize wat A t = x at c0 c1 c2 c3 ST
      generalize wat B t = y at d0 d1 d2 d3 ST
      clear hq hr l1 l2
      go_wp2
      go_region
      go_wp2
      have r1 := row_set HR.out (j := a + t) (by omega) y
      have r2 := row_set r1.1 (j := b + t) (by omega) x
      rw [ST.out.2.2, hp, hp4] at r2
      rw [hp] at r1
      have g2 := grown_trans HG.out (grown_trans r1.2 r2.2)
      have rr := r2.1
      clear r1 r2
      go_roundg (k - t - 1)
      case measure => omega
      case rel => exact ⟨t + 1, by first | rfl | (simp; done) | (unfold wrap64; congr 1; omega), ⟨by omega⟩, ⟨Kd.R_drew rr⟩, ⟨grown_trans g2 (grown_drew _)⟩⟩
    · have hd : decide ((t : Int) < (k : Int)) = false := decide_eq_false (by omega)
      obtain rfl : t = k := by omega
      go_wp2
      go_end0
      exact ⟨rfl, HR.out, HG.out⟩
end Go.Proofs.Ytlfnpakpkniipaa.Q
