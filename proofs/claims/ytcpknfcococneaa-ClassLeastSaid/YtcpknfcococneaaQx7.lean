-- Written by this session's own program (wip/tools/myprint.py over the guide's print): functions of the given program as Lean functions, and that the machine's calls tell the same.
import Derived.Test.YtcpknfcococneaaQx0
import Derived.Test.YtcpknfcococneaaQx6
namespace Go.Proofs.Ytcpknfcococneaa.Q
open Go.RowKit Go.Proofs.YtcpknfcococneaaW.PrintWords Go.Proofs.YtcpknfcococneaaW.PrintLast Go.Proofs.YtcpknfcococneaaW.PrintMore
attribute [local go_sem] max2_int min2_int max_two min_two max_three min_three max_four min_four   -- for this text's walks alone
set_option linter.unusedVariables false
set_option linter.unusedSimpArgs false

/-! ### class_times: function 31 -/
/-- The key that a time is. -/
def wkey (x : S46) : Value := .agg #[.int .u32 x.f0, .int .u8 x.f1, .int .i64 x.f2, .int .i64 x.f3]
def wokW (x : S46) : Bool := (Lit.int .u32 x.f0).wf && (Lit.int .u8 x.f1).wf && (Lit.int .i64 x.f2).wf && (Lit.int .i64 x.f3).wf
def hasW (x : S46) : List S46 → Bool
  | [] => false
  | y :: ys => (y.f0 == x.f0 && y.f1 == x.f1 && y.f2 == x.f2 && y.f3 == x.f3) || hasW x ys
theorem hasW_iff (x : S46) : ∀ ks, hasW x ks = true ↔ wkey x ∈ ks.map wkey
  | [] => by simp [hasW]
  | y :: ys => by
    have ih := hasW_iff x ys
    simp only [hasW, Bool.or_eq_true, Bool.and_eq_true, beq_iff_eq, List.map_cons, List.mem_cons, ih]
    constructor
    · rintro (⟨⟨⟨h1, h2⟩, h3⟩, h4⟩ | h)
      · exact .inl (by simp [wkey, h1, h2, h3, h4])
      · exact .inr h
    · rintro (h | h)
      · simp [wkey] at h
        exact .inl ⟨⟨⟨h.1.symm, h.2.1.symm⟩, h.2.2.1.symm⟩, h.2.2.2.symm⟩
      · exact .inr h
/-- What class.times tells: the times from here on, those met ahead of them. -/
def class_times.go (g0 g1 g2 : Int) (fin : Bool) : List S46 → List S58 → Option Bool
  | _, [] => some fin
  | met, x :: xs => if wokW x.f0 = true then (when_Right.f g0 g1 g2 x.f0.f0 x.f0.f1 x.f0.f2 x.f0.f3).bind fun a => (if a = true then (class_cheap.f x.f1).bind fun b => (if b = true then (if hasW x.f0 met = true then some false else class_times.go g0 g1 g2 fin (x.f0 :: met) xs) else some false) else some false) else none
def class_times.f (a0_0 : Int) (a0_1 : Int) (a0_2 : Int) (l1 : List (S58)) : Option (Bool) := class_times.go a0_0 a0_1 a0_2 (decide (0 < l1.length) && decide (l1.length ≤ 16)) [] l1
theorem class_times.law : Go.Maps.Keyed Try.prog 46 := Go.Maps.Keyed.of_law (deep_law_laid (by kernel_rfl) (m := 2) (by omega) (of_decide_eq_true (by kernel_rfl)) (by kernel_rfl) (by kernel_rfl))
theorem class_times.zeroE (w : World) : (zeroValue 4).run Try.prog w = .ok (.bool false) w := by kernel_rfl
theorem class_times.formed (a b c d : Int) : Value.formed Try.prog 46 (.agg #[.int .u32 a, .int .u8 b, .int .i64 c, .int .i64 d]) = true := by kernel_rfl
theorem class_times.tk : Program.keyType Try.prog 46 = true := by kernel_rfl
theorem class_times.ts : ∃ n, Try.prog.types.size + 1 = n + 1 + 1 := ⟨Try.prog.types.size - 1, by kernel_rfl⟩
theorem class_times.cl : Try.prog.cellsOf 46 = 4 ∧ Try.prog.cellsOf 44 = 1 ∧ Try.prog.cellsOf 5 = 1 ∧ Try.prog.cellsOf 3 = 1 := ⟨by kernel_rfl, by kernel_rfl, by kernel_rfl, by kernel_rfl⟩
theorem class_times.key (x : S46) (h : wokW x = true) : ∃ l, keyOf Try.prog 46 (wkey x) = some l := by
  simp only [wokW, Bool.and_eq_true] at h
  obtain ⟨⟨⟨h0, h1⟩, h2⟩, h3⟩ := h
  obtain ⟨n, hn⟩ := class_times.ts
  obtain ⟨c0, c1, c2, c3⟩ := class_times.cl
  have hf := class_times.formed x.f0 x.f1 x.f2 x.f3
  unfold keyOf wkey
  rw [Try.underlying46, class_times.tk, hf, hn]
  simp [Program.keyLits, Try.underlying46, Try.underlying44, Try.underlying5, Try.underlying3, c0, c1, c2, c3, Value.cells, h0, h1, h2, h3]
theorem class_times.step {g0 g1 g2 : Int} {fin : Bool} {met : List S46} {l1 : List S58} {i : Int} {r : Bool} (h0 : 0 ≤ i) (h1 : i < (l1.length : Int)) (h : class_times.go g0 g1 g2 fin met (l1.drop i.toNat) = some r) :
    wokW (rd_T58 l1 i).f0 = true ∧ ∃ a, when_Right.f g0 g1 g2 (rd_T58 l1 i).f0.f0 (rd_T58 l1 i).f0.f1 (rd_T58 l1 i).f0.f2 (rd_T58 l1 i).f0.f3 = some a ∧
      (a = false ∧ r = false ∨ a = true ∧ ∃ b, class_cheap.f (rd_T58 l1 i).f1 = some b ∧ (b = false ∧ r = false ∨ b = true ∧ ((hasW (rd_T58 l1 i).f0 met = true ∧ r = false) ∨ (hasW (rd_T58 l1 i).f0 met = false ∧ class_times.go g0 g1 g2 fin ((rd_T58 l1 i).f0 :: met) (l1.drop (i + 1).toNat) = some r)))) := by
  have hd : l1.drop i.toNat = rd_T58 l1 i :: l1.drop (i + 1).toNat := by
    rw [List.drop_eq_getElem_cons (by omega), show (i + 1).toNat = i.toNat + 1 by omega]
    simp [rd_T58, List.getD_eq_getElem?_getD, List.getElem?_eq_getElem (show i.toNat < l1.length by omega)]
  rw [hd] at h
  simp only [class_times.go] at h
  by_cases c : wokW (rd_T58 l1 i).f0 = true
  · rw [if_pos c] at h
    refine ⟨c, ?_⟩
    obtain ⟨a, ha, h⟩ := Option.bind_eq_some_iff.mp h
    refine ⟨a, ha, ?_⟩
    cases a with
    | false => exact .inl ⟨rfl, by simpa using h.symm⟩
    | true =>
      refine .inr ⟨rfl, ?_⟩
      rw [if_pos rfl] at h
      obtain ⟨b, hb, h⟩ := Option.bind_eq_some_iff.mp h
      refine ⟨b, hb, ?_⟩
      cases b with
      | false => exact .inl ⟨rfl, by simpa using h.symm⟩
      | true =>
        refine .inr ⟨rfl, ?_⟩
        rw [if_pos rfl] at h
        by_cases d : hasW (rd_T58 l1 i).f0 met = true
        · rw [if_pos d] at h
          exact .inl ⟨d, by simpa using h.symm⟩
        · rw [if_neg d] at h
          exact .inr ⟨by simpa using d, h⟩
  · rw [if_neg c] at h
    exact absurd h (by simp)
set_option maxHeartbeats 8000000 in
set_option maxRecDepth 100000 in
theorem class_times.calls (a0_0 : Int) (a0_1 : Int) (a0_2 : Int) (A1 : Option Addr) (c1 : Nat) (l1 : List (S58)) (r : Bool) (w : World) (hr1 : Kd.C k58 w A1 l1.length l1) (hc1 : l1.length ≤ c1) (h : class_times.f a0_0 a0_1 a0_2 l1 = some r) :
    Calls Try.prog 31 #[.agg #[.int .i64 a0_0, .int .i64 a0_1, .int .i64 a0_2], .slice A1 l1.length c1] w fun e w' => e = .returned (.bool r) ∧ Below w.heap.size w w' := by
  have hu23 := Try.underlying23
  have hu46 := Try.underlying46
  have hu58 := Try.underlying58
  have HR1 := Aside0.mk hr1
  have HL : l1.length ≤ 9223372036854775807 := hr1.2.1
  clear hr1 hc1
  have H' := Aside0.mk (show class_times.go a0_0 a0_1 a0_2 (decide (0 < l1.length) && decide (l1.length ≤ 16)) [] (l1.drop (0 : Int).toNat) = some r from h)
  clear h
  have hmm := @run_makeMap Try.prog
  go_enter Try.func31, Try.ntmps31
  go_wp2
  go_loopg [11] l1.length (fun kq v11 w' => ∃ (i : Int) (met : List S46), v11 = .int .i64 i ∧ Aside0 (0 ≤ i ∧ i + kq = l1.length) ∧ Aside0 (class_times.go a0_0 a0_1 a0_2 (decide (0 < l1.length) && decide (l1.length ≤ 16)) met (l1.drop i.toNat) = some r) ∧ Aside0 (Go.Proofs.YtcpknfcococneaaH.BSet Try.prog w' 46 4 (w.heap.size + 1) i.toNat (met.map wkey)) ∧ Aside0 (w'.heap[w.heap.size]? = some (.cells #[.int .i64 a0_0, .int .i64 a0_1, .int .i64 a0_2] 23 (0, 0))) ∧ Aside0 (Below w.heap.size w w'))
  case atStart => exact ⟨0, [], rfl, ⟨by omega⟩, H', ⟨by simpa using Go.Proofs.YtcpknfcococneaaH.bset_made (w.alloc (.cells #[.int .i64 a0_0, .int .i64 a0_1, .int .i64 a0_2] 23 (0, 0))) Try.prog 46 4⟩, ⟨blk_alloc (blk_new w _) _⟩, ⟨below_alloc (below_alloc (Below.refl _ _) _) _⟩⟩
  case round =>
    clear H'
    obtain ⟨i, met, rfl, ⟨hi0, hik⟩, HA, HM, HG, HB⟩ := hrel
    by_cases hlt : i < (l1.length : Int)
    · have hd := decide_eq_true hlt
      obtain ⟨hwf, a, ha, hr⟩ := class_times.step hi0 hlt HA.out
      obtain ⟨ad, e1, hx0, hx1, hx2, hx3, hx4⟩ := at_T58 HR1.out i hi0 hlt
      cases e1
      replace hx0 := (HB.out.cell (World.block_lt_of_cell? w _ hx0)).trans hx0
      replace hx1 := (HB.out.cell (World.block_lt_of_cell? w _ hx1)).trans hx1
      replace hx2 := (HB.out.cell (World.block_lt_of_cell? w _ hx2)).trans hx2
      replace hx3 := (HB.out.cell (World.block_lt_of_cell? w _ hx3)).trans hx3
      replace hx4 := (HB.out.cell (World.block_lt_of_cell? w _ hx4)).trans hx4
      generalize rd_T58 l1 i = x at *
      obtain ⟨⟨x0, x1, x2, x3⟩, x4⟩ := x
      have HWF := Aside0.mk hwf
      have HAA := Aside0.mk ha
      have HRR := Aside0.mk hr
      clear hwf ha hr
      have p := eq_true hi0
      have q := eq_true hlt
      have hg0 := (blk_cell HG.out 0).trans rfl
      have hg1 := (blk_cell HG.out 1).trans rfl
      have hg2 := (blk_cell HG.out 2).trans rfl
      have hgl := blk_lt HG.out
      have HW1 : Below w.heap.size w (wr.alloc (.cells #[.int .u32 x0, .int .u8 x1, .int .i64 x2, .int .i64 x3, .int .i64 x4] 58 (0, 0))) := below_alloc HB.out _
      have HG1 := blk_alloc HG.out (.cells #[.int .u32 x0, .int .u8 x1, .int .i64 x2, .int .i64 x3, .int .i64 x4] 58 (0, 0))
      have HX1 := blk_new wr (.cells #[.int .u32 x0, .int .u8 x1, .int .i64 x2, .int .i64 x3, .int .i64 x4] 58 (0, 0))
      have HM1 := HM.out.alloc (.cells #[.int .u32 x0, .int .u8 x1, .int .i64 x2, .int .i64 x3, .int .i64 x4] 58 (0, 0))
      replace HW1 := Aside0.mk HW1
      replace HG1 := Aside0.mk HG1
      replace HX1 := Aside0.mk HX1
      replace HM1 := Aside0.mk HM1
      rcases HRR.out with ⟨rfl, rfl⟩ | ⟨rfl, b, hb, hr⟩
      · clear HRR
        go_wp2_with (go_at_call 44; refine (when_Right.calls a0_0 a0_1 a0_2 x0 x1 x2 x3 false _ HAA.out).mono ?_; rintro e w2 ⟨rfl, hb2⟩)
        go_ret
        exact ⟨rfl, below_step HW1.out hb2⟩
      · clear HRR
        have HBB := Aside0.mk hb
        have HRR := Aside0.mk hr
        clear hb hr
        go_wp2_with (go_at_call 44; refine (when_Right.calls a0_0 a0_1 a0_2 x0 x1 x2 x3 true _ HAA.out).mono ?_; rintro e w2 ⟨rfl, hb2⟩; have HX2 := Aside0.mk (blk_below HX1.out hb2); have HG2 := Aside0.mk (blk_below HG1.out hb2); have HM2 := Aside0.mk (HM1.out.below hb2); have HW2 := Aside0.mk (below_step HW1.out hb2); clear hb2 HX1 HG1 HM1 HW1; have y0 := (blk_cell HX2.out 0).trans rfl; have y1 := (blk_cell HX2.out 1).trans rfl; have y2 := (blk_cell HX2.out 2).trans rfl; have y3 := (blk_cell HX2.out 3).trans rfl; have y4 := (blk_cell HX2.out 4).trans rfl)
        have hz := class_times.zeroE
        obtain ⟨kl, hkl⟩ := class_times.key _ HWF.out
        rcases HRR.out with ⟨rfl, rfl⟩ | ⟨rfl, hr⟩
        · go_wp2_with (go_at_call 45; refine (class_cheap.calls x4 false _ HBB.out).mono ?_; rintro e w3 ⟨rfl, hd3⟩)
          go_ret
          exact ⟨rfl, below_step HW2.out hd3.below⟩
        · rcases hr with ⟨hh, rfl⟩ | ⟨hh, hr⟩
          · have HH := Aside0.mk hh
            clear hh HRR
            go_wp2_with (first | (go_at_call 45; refine (class_cheap.calls x4 true _ HBB.out).mono ?_; rintro e w3 ⟨rfl, ⟨m3, rfl⟩⟩) | (at_lookup; refine gate_guard (by rfl) ?_; dsimp only; refine Go.Proofs.YtcpknfcococneaaH.wpList_look_bset rfl (.tmp 27) (.tmp 29) 71 rfl class_times.law Try.underlying71 Try.underlying4 (hz _) rfl (HM2.out.drewN _) (wkey ⟨x0, x1, x2, x3⟩) kl rfl hkl ?_; intro c hc; obtain rfl : c = true := hc.2 ((hasW_iff _ _).1 HH.out); clear hc))
            go_ret
            exact ⟨rfl, pw_below_drewN HW2.out _⟩
          · have HH := Aside0.mk hh
            have HS := Aside0.mk hr
            clear hh hr HRR
            go_wp2_with (first | (go_at_call 45; refine (class_cheap.calls x4 true _ HBB.out).mono ?_; rintro e w3 ⟨rfl, ⟨m3, rfl⟩⟩) | (at_lookup; refine gate_guard (by rfl) ?_; dsimp only; refine Go.Proofs.YtcpknfcococneaaH.wpList_look_bset rfl (.tmp 27) (.tmp 29) 71 rfl class_times.law Try.underlying71 Try.underlying4 (hz _) rfl (HM2.out.drewN _) (wkey ⟨x0, x1, x2, x3⟩) kl rfl hkl ?_; intro c hc; obtain rfl : c = false := Bool.eq_false_iff.2 (fun hct => by have := (hasW_iff _ _).2 (hc.1 hct); rw [HH.out] at this; exact absurd this (by simp)); clear hc) | (at_mapUpdate; refine Go.Proofs.YtcpknfcococneaaH.wpList_put_bset rfl (.tmp 32) (.tmp 34) (.const (.bool true)) 71 rfl class_times.law Try.underlying71 Try.underlying4 (by unfold maxLen; omega) rfl (HM2.out.drewN _) (wkey ⟨x0, x1, x2, x3⟩) kl rfl rfl hkl ?_; intro w4 hm4 hg4))
            have HM4 := Aside0.mk hm4
            have HG4 := Aside0.mk (blk_grown (blk_drewN HG2.out m3) hg4 (by simp))
            have HW4 := Aside0.mk (Go.Proofs.YtcpknfcococneaaH.below_put (pw_below_drewN HW2.out m3) hg4 (by omega) HW2.out.size)
            clear hm4 hg4
            go_roundg (gk - 1)
            case measure => have := hik; omega
            case rel => exact ⟨i + 1, ⟨x0, x1, x2, x3⟩ :: met, by first | rfl | (unfold wrap64; congr 1; omega), ⟨by omega, by omega⟩, HS, ⟨by rw [show (i + 1).toNat = i.toNat + 1 by omega]; exact HM4.out⟩, HG4, HW4⟩
    · have hd := decide_eq_false hlt
      have hz : l1.drop i.toNat = [] := List.drop_eq_nil_of_le (by omega)
      have hr : (decide (0 < l1.length) && decide (l1.length ≤ 16)) = r := by
        have := HA.out
        rw [hz] at this
        simpa [class_times.go] using this
      have HRR := Aside0.mk hr
      clear hz hr
      by_cases h1 : 0 < l1.length
      · have e1 := decide_eq_true h1
        have e2 : decide ((0 : Int) < (l1.length : Int)) = true := decide_eq_true (by omega)
        go_wp2
        go_ret
        exact ⟨by rw [← HRR.out, e1]; simp; omega, HB.out⟩
      · have e1 := decide_eq_false h1
        have e2 : decide ((0 : Int) < (l1.length : Int)) = false := decide_eq_false (by omega)
        go_wp2
        go_ret
        exact ⟨by rw [← HRR.out, e1]; rfl, HB.out⟩

end Go.Proofs.Ytcpknfcococneaa.Q
