-- Written by this session's own program (wip/tools/myprint.py over the guide's print): functions of the given program as Lean functions, and that the machine's calls tell the same.
import Derived.Test.YtcpknfcococneaaQx0
import Derived.Test.YtcpknfcococneaaQx6
namespace Go.Proofs.Ytcpknfcococneaa.Q
open Go.RowKit Go.Proofs.YtcpknfcococneaaW.PrintWords Go.Proofs.YtcpknfcococneaaW.PrintLast Go.Proofs.YtcpknfcococneaaW.PrintMore
attribute [local go_sem] max2_int min2_int max_two min_two max_three min_three max_four min_four   -- for this text's walks alone
set_option linter.unusedVariables false
set_option linter.unusedSimpArgs false

/-! ### class_places: function 32 -/
/-- What class.places tells: the places from here on, the rooms met ahead of them. -/
def class_places.go (n : Int) (fin : Bool) : List Int → List S60 → Option Bool
  | _, [] => some fin
  | met, x :: xs => if (Lit.int .i64 x.f0).wf = true then (if x.f0 < 0 then some false else if x.f0 ≥ n then some false else (class_cheap.f x.f1).bind fun b => (if b = true then (if met.contains x.f0 = true then some false else class_places.go n fin (x.f0 :: met) xs) else some false)) else none
def class_places.f (a0 : Int) (l1 : List (S60)) : Option (Bool) := class_places.go a0 (decide (l1.length ≤ 12)) [] l1
theorem class_places.law : Go.Maps.Keyed Try.prog 3 := Go.Maps.int_keyed Try.underlying3
theorem class_places.zeroE (w : World) : (zeroValue 4).run Try.prog w = .ok (.bool false) w := by kernel_rfl
theorem class_places.mem (x : Int) (ks : List Int) : ks.contains x = true ↔ Value.int .i64 x ∈ ks.map (Value.int .i64) := by simp
theorem class_places.step {n : Int} {fin : Bool} {met : List Int} {l1 : List S60} {i : Int} {r : Bool} (h0 : 0 ≤ i) (h1 : i < (l1.length : Int)) (h : class_places.go n fin met (l1.drop i.toNat) = some r) :
    (Lit.int .i64 (rd_T60 l1 i).f0).wf = true ∧
      (((rd_T60 l1 i).f0 < 0 ∧ r = false) ∨ (0 ≤ (rd_T60 l1 i).f0 ∧ (((rd_T60 l1 i).f0 ≥ n ∧ r = false) ∨ ((rd_T60 l1 i).f0 < n ∧ ∃ b, class_cheap.f (rd_T60 l1 i).f1 = some b ∧ (b = false ∧ r = false ∨ b = true ∧ ((met.contains (rd_T60 l1 i).f0 = true ∧ r = false) ∨ (met.contains (rd_T60 l1 i).f0 = false ∧ class_places.go n fin ((rd_T60 l1 i).f0 :: met) (l1.drop (i + 1).toNat) = some r))))))) := by
  have hd : l1.drop i.toNat = rd_T60 l1 i :: l1.drop (i + 1).toNat := by
    rw [List.drop_eq_getElem_cons (by omega), show (i + 1).toNat = i.toNat + 1 by omega]
    simp [rd_T60, List.getD_eq_getElem?_getD, List.getElem?_eq_getElem (show i.toNat < l1.length by omega)]
  rw [hd] at h
  simp only [class_places.go] at h
  by_cases c : (Lit.int .i64 (rd_T60 l1 i).f0).wf = true
  · rw [if_pos c] at h
    refine ⟨c, ?_⟩
    by_cases c0 : (rd_T60 l1 i).f0 < 0
    · rw [if_pos c0] at h
      exact .inl ⟨c0, by simpa using h.symm⟩
    rw [if_neg c0] at h
    refine .inr ⟨by omega, ?_⟩
    by_cases c1 : (rd_T60 l1 i).f0 ≥ n
    · rw [if_pos c1] at h
      exact .inl ⟨c1, by simpa using h.symm⟩
    rw [if_neg c1] at h
    refine .inr ⟨by omega, ?_⟩
    obtain ⟨b, hb, h⟩ := Option.bind_eq_some_iff.mp h
    refine ⟨b, hb, ?_⟩
    cases b with
    | false => exact .inl ⟨rfl, by simpa using h.symm⟩
    | true =>
      refine .inr ⟨rfl, ?_⟩
      rw [if_pos rfl] at h
      by_cases d : met.contains (rd_T60 l1 i).f0 = true
      · rw [if_pos d] at h
        exact .inl ⟨d, by simpa using h.symm⟩
      · rw [if_neg d] at h
        exact .inr ⟨by simpa using d, h⟩
  · rw [if_neg c] at h
    exact absurd h (by simp)
set_option maxHeartbeats 8000000 in
set_option maxRecDepth 100000 in
theorem class_places.calls (a0 : Int) (A1 : Option Addr) (c1 : Nat) (l1 : List (S60)) (r : Bool) (w : World) (hr1 : Kd.C k60 w A1 l1.length l1) (hc1 : l1.length ≤ c1) (h : class_places.f a0 l1 = some r) :
    Calls Try.prog 32 #[.int .i64 a0, .slice A1 l1.length c1] w fun e w' => e = .returned (.bool r) ∧ Below w.heap.size w w' := by
  have hu60 := Try.underlying60
  have HR1 := Aside0.mk hr1
  have HL : l1.length ≤ 9223372036854775807 := hr1.2.1
  clear hr1 hc1
  have H' := Aside0.mk (show class_places.go a0 (decide (l1.length ≤ 12)) [] (l1.drop (0 : Int).toNat) = some r from h)
  clear h
  have hmm := @run_makeMap Try.prog
  go_enter Try.func32, Try.ntmps32
  go_wp2
  go_loopg [11] l1.length (fun kq v11 w' => ∃ (i : Int) (met : List Int), v11 = .int .i64 i ∧ Aside0 (0 ≤ i ∧ i + kq = l1.length) ∧ Aside0 (class_places.go a0 (decide (l1.length ≤ 12)) met (l1.drop i.toNat) = some r) ∧ Aside0 (Go.Proofs.YtcpknfcococneaaH.BSet Try.prog w' 3 4 w.heap.size i.toNat (met.map (Value.int .i64))) ∧ Aside0 (Below w.heap.size w w'))
  case atStart => exact ⟨0, [], rfl, ⟨by omega⟩, H', ⟨by simpa using Go.Proofs.YtcpknfcococneaaH.bset_made w Try.prog 3 4⟩, ⟨below_alloc (Below.refl _ _) _⟩⟩
  case round =>
    clear H'
    obtain ⟨i, met, rfl, ⟨hi0, hik⟩, HA, HM, HB⟩ := hrel
    by_cases hlt : i < (l1.length : Int)
    · have hd := decide_eq_true hlt
      obtain ⟨hwf, hr⟩ := class_places.step hi0 hlt HA.out
      obtain ⟨ad, e1, hx0, hx1⟩ := at_T60 HR1.out i hi0 hlt
      cases e1
      replace hx0 := (HB.out.cell (World.block_lt_of_cell? w _ hx0)).trans hx0
      replace hx1 := (HB.out.cell (World.block_lt_of_cell? w _ hx1)).trans hx1
      generalize rd_T60 l1 i = x at *
      obtain ⟨x0, x1⟩ := x
      have HWF := Aside0.mk hwf
      have HRR := Aside0.mk hr
      clear hwf hr
      have p := eq_true hi0
      have q := eq_true hlt
      have HW1 := Aside0.mk (below_alloc HB.out (.cells #[.int .i64 x0, .int .i64 x1] 60 (0, 0)))
      have HX1 := Aside0.mk (blk_new wr (.cells #[.int .i64 x0, .int .i64 x1] 60 (0, 0)))
      have HM1 := Aside0.mk (HM.out.alloc (.cells #[.int .i64 x0, .int .i64 x1] 60 (0, 0)))
      rcases HRR.out with ⟨k0, rfl⟩ | ⟨k0, hr⟩
      · have k0' := decide_eq_true k0
        clear HRR
        go_wp2
        go_ret
        exact ⟨rfl, HW1.out⟩
      have k0' : decide (x0 < 0) = false := decide_eq_false (by exact Int.not_lt.2 k0)
      rcases hr with ⟨k1, rfl⟩ | ⟨k1, b, hb, hr⟩
      · have k1' : decide (a0 ≤ x0) = true := decide_eq_true k1
        clear HRR
        go_wp2
        go_ret
        exact ⟨rfl, HW1.out⟩
      have k1' : decide (a0 ≤ x0) = false := decide_eq_false (Int.not_le.2 k1)
      have HBB := Aside0.mk hb
      have HRR2 := Aside0.mk hr
      clear hb hr HRR
      have hz := class_places.zeroE
      have hkl : keyOf Try.prog 3 (.int .i64 x0) = some (.int .i64 x0) := Go.Maps.keyOf_int_mk Try.underlying3 HWF.out
      have HKL := Aside0.mk hkl
      clear hkl
      rcases HRR2.out with ⟨rfl, rfl⟩ | ⟨rfl, hr⟩
      · go_wp2_with (go_at_call 45; refine (class_cheap.calls x1 false _ HBB.out).mono ?_; rintro e w3 ⟨rfl, hd3⟩; have HX3 := Aside0.mk (Go.Proofs.YtcpknfcococneaaH.blk_drawn HX1.out hd3); have HM3 := Aside0.mk (HM1.out.drawn hd3); have HW3 := Aside0.mk (Go.Proofs.YtcpknfcococneaaH.below_drawn HW1.out hd3); clear hd3; have y0 := (blk_cell HX3.out 0).trans rfl; have y1 := (blk_cell HX3.out 1).trans rfl)
        go_ret
        exact ⟨rfl, HW3.out⟩
      · rcases hr with ⟨hh, rfl⟩ | ⟨hh, hr⟩
        · have HH := Aside0.mk hh
          clear hh HRR2
          go_wp2_with (first | (go_at_call 45; refine (class_cheap.calls x1 true _ HBB.out).mono ?_; rintro e w3 ⟨rfl, hd3⟩; have HX3 := Aside0.mk (Go.Proofs.YtcpknfcococneaaH.blk_drawn HX1.out hd3); have HM3 := Aside0.mk (HM1.out.drawn hd3); have HW3 := Aside0.mk (Go.Proofs.YtcpknfcococneaaH.below_drawn HW1.out hd3); clear hd3; have y0 := (blk_cell HX3.out 0).trans rfl; have y1 := (blk_cell HX3.out 1).trans rfl) | (at_lookup; refine gate_guard (by rfl) ?_; dsimp only; refine Go.Proofs.YtcpknfcococneaaH.wpList_look_bset rfl (.tmp 31) (.tmp 33) 74 rfl class_places.law Try.underlying74 Try.underlying4 (hz _) rfl HM3.out (.int .i64 x0) (.int .i64 x0) rfl HKL.out ?_; intro c hc; obtain rfl : c = true := hc.2 ((class_places.mem _ _).1 HH.out); clear hc))
          go_ret
          exact ⟨rfl, HW3.out⟩
        · have HH := Aside0.mk hh
          have HS := Aside0.mk hr
          clear hh hr HRR2
          go_wp2_with (first | (go_at_call 45; refine (class_cheap.calls x1 true _ HBB.out).mono ?_; rintro e w3 ⟨rfl, hd3⟩; have HX3 := Aside0.mk (Go.Proofs.YtcpknfcococneaaH.blk_drawn HX1.out hd3); have HM3 := Aside0.mk (HM1.out.drawn hd3); have HW3 := Aside0.mk (Go.Proofs.YtcpknfcococneaaH.below_drawn HW1.out hd3); clear hd3; have y0 := (blk_cell HX3.out 0).trans rfl; have y1 := (blk_cell HX3.out 1).trans rfl) | (at_lookup; refine gate_guard (by rfl) ?_; dsimp only; refine Go.Proofs.YtcpknfcococneaaH.wpList_look_bset rfl (.tmp 31) (.tmp 33) 74 rfl class_places.law Try.underlying74 Try.underlying4 (hz _) rfl HM3.out (.int .i64 x0) (.int .i64 x0) rfl HKL.out ?_; intro c hc; obtain rfl : c = false := Bool.eq_false_iff.2 (fun hct => by have := (class_places.mem _ _).2 (hc.1 hct); rw [HH.out] at this; exact absurd this (by simp)); clear hc) | (at_mapUpdate; refine Go.Proofs.YtcpknfcococneaaH.wpList_put_bset rfl (.tmp 36) (.tmp 38) (.const (.bool true)) 74 rfl class_places.law Try.underlying74 Try.underlying4 (by unfold maxLen; omega) rfl HM3.out (.int .i64 x0) (.int .i64 x0) rfl rfl HKL.out ?_; intro w4 hm4 hg4))
          have HM4 := Aside0.mk hm4
          have HW4 := Aside0.mk (Go.Proofs.YtcpknfcococneaaH.below_put HW3.out hg4 (by omega) HW3.out.size)
          clear hm4 hg4
          go_roundg (gk - 1)
          case measure => have := hik; omega
          case rel => exact ⟨i + 1, x0 :: met, by first | rfl | (unfold wrap64; congr 1; omega), ⟨by omega, by omega⟩, HS, ⟨by rw [show (i + 1).toNat = i.toNat + 1 by omega]; exact HM4.out⟩, HW4⟩
    · have hd := decide_eq_false hlt
      have hz : l1.drop i.toNat = [] := List.drop_eq_nil_of_le (by omega)
      have hr : decide (l1.length ≤ 12) = r := by
        have := HA.out
        rw [hz] at this
        simpa [class_places.go] using this
      have HRR := Aside0.mk hr
      clear hz hr
      go_wp2
      go_ret
      exact ⟨by rw [← HRR.out]; simp; omega, HB.out⟩

end Go.Proofs.Ytcpknfcococneaa.Q
