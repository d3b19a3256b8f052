-- Written by this session's own program (wip/tools/myprint.py over the guide's print): functions of the given program as Lean functions, and that the machine's calls tell the same.
import Derived.Test.YtcpknfcococneaaQx0
import Derived.RangeFuncNested
import Derived.RangeFuncBound
import Derived.RangeFuncCalls
import Derived.RangeFuncLeaves
import Derived.Shelf.Abstract
import Derived.WalkKit
import Derived.OwnWalkIn
import Derived.TacticsInMore
import Derived.LoopNIn
import Derived.LoopIn
namespace Go.Proofs.Ytcpknfcococneaa.Q
open Go.RowKit Go.Proofs.YtcpknfcococneaaW.PrintWords Go.Proofs.YtcpknfcococneaaW.PrintLast Go.Proofs.YtcpknfcococneaaW.PrintMore
attribute [local go_sem] max2_int min2_int max_two min_two max_three min_three max_four min_four   -- for this text's walks alone
set_option linter.unusedVariables false
set_option linter.unusedSimpArgs false

/-! ### class_Seats: function 14 -/
theorem class_Seats.calls (a0_0 : ByteArray) (a0_1 : Int) (a0_2 : Int) (v3 : Value) (A0_4 : Option Addr) (c0_4 n4 : Nat) (A0_5 : Option Addr) (c0_5 n5 : Nat) (a0_6 : Int) (w : World) :
    Calls Try.prog 14 #[.agg #[.string a0_0, .int .i64 a0_1, .int .u16 a0_2, v3, .slice A0_4 n4 c0_4, .slice A0_5 n5 c0_5, .int .i64 a0_6]] w fun e w' => ∃ B3 B4 B5 : Nat, e = .returned (.func (.func 38) #[] #[.pointer (some ⟨B5, 0, none⟩), .pointer (some ⟨B3, 0, none⟩), .pointer (some ⟨B4, 0, none⟩)]) ∧
      w'.heap[B5]? = some (.cells #[.int .i64 n4] 3 (0, 0)) ∧ w'.heap[B3]? = some (.cells #[.int .i64 (if n5 = 0 then -1 else 0)] 3 (0, 0)) ∧ w'.heap[B4]? = some (.cells #[.int .i64 n5] 3 (0, 0)) ∧ (w.heap.size ≤ B5 ∧ w.heap.size ≤ B3 ∧ w.heap.size ≤ B4) ∧ Below w.heap.size w w' := by
  have hu := Try.underlying30
  by_cases hn : n5 = 0
  · subst hn
    go_enter Try.func14, Try.ntmps14
    go_wp2
    go_region
    all_goals go_wp2
    all_goals go_ret
    · refine ⟨w.heap.size + 1, w.heap.size + 1 + 1, w.heap.size + 1 + 1 + 1, rfl, ?_, ?_, ?_, ⟨by omega, by omega, by omega⟩, ?_⟩
      · exact blk_drew (Go.Proofs.YtcpknfcococneaaH.blk_new' _ _ _ (by simp))
      · first | exact blk_drew (blk_alloc (blk_alloc (Go.Proofs.YtcpknfcococneaaH.blk_new' _ _ _ (by simp)) _) _) | exact blk_drew (blk_alloc (Go.Proofs.YtcpknfcococneaaH.blk_new' _ _ _ (by simp)) _) | (rw [if_neg hn]; exact blk_drew (blk_alloc (blk_alloc (Go.Proofs.YtcpknfcococneaaH.blk_new' _ _ _ (by simp)) _) _)) | (rw [if_neg hn]; exact blk_drew (blk_alloc (Go.Proofs.YtcpknfcococneaaH.blk_new' _ _ _ (by simp)) _))
      · first | exact blk_drew (blk_alloc (blk_alloc (Go.Proofs.YtcpknfcococneaaH.blk_new' _ _ _ (by simp)) _) _) | exact blk_drew (blk_alloc (Go.Proofs.YtcpknfcococneaaH.blk_new' _ _ _ (by simp)) _)
      · exact below_drew (below_alloc (below_alloc (below_alloc (below_alloc (Below.refl _ _) _) _) _) _)
    · refine ⟨w.heap.size + 1 + 1, w.heap.size + 1, w.heap.size + 1 + 1 + 1, rfl, ?_, ?_, ?_, ⟨by omega, by omega, by omega⟩, ?_⟩
      · exact blk_drew (Go.Proofs.YtcpknfcococneaaH.blk_new' _ _ _ (by simp))
      · first | exact blk_drew (blk_alloc (blk_alloc (Go.Proofs.YtcpknfcococneaaH.blk_new' _ _ _ (by simp)) _) _) | exact blk_drew (blk_alloc (Go.Proofs.YtcpknfcococneaaH.blk_new' _ _ _ (by simp)) _) | (rw [if_neg hn]; exact blk_drew (blk_alloc (blk_alloc (Go.Proofs.YtcpknfcococneaaH.blk_new' _ _ _ (by simp)) _) _)) | (rw [if_neg hn]; exact blk_drew (blk_alloc (Go.Proofs.YtcpknfcococneaaH.blk_new' _ _ _ (by simp)) _))
      · first | exact blk_drew (blk_alloc (blk_alloc (Go.Proofs.YtcpknfcococneaaH.blk_new' _ _ _ (by simp)) _) _) | exact blk_drew (blk_alloc (Go.Proofs.YtcpknfcococneaaH.blk_new' _ _ _ (by simp)) _)
      · exact below_drew (below_alloc (below_alloc (below_alloc (below_alloc (Below.refl _ _) _) _) _) _)
  · have h1 : ((n5 : Int) == 0) = false := by simp [hn]
    go_enter Try.func14, Try.ntmps14
    go_wp2
    go_region
    all_goals go_wp2
    all_goals go_ret
    · refine ⟨w.heap.size + 1, w.heap.size + 1 + 1, w.heap.size + 1 + 1 + 1, rfl, ?_, ?_, ?_, ⟨by omega, by omega, by omega⟩, ?_⟩
      · exact blk_drew (Go.Proofs.YtcpknfcococneaaH.blk_new' _ _ _ (by simp))
      · first | exact blk_drew (blk_alloc (blk_alloc (Go.Proofs.YtcpknfcococneaaH.blk_new' _ _ _ (by simp)) _) _) | exact blk_drew (blk_alloc (Go.Proofs.YtcpknfcococneaaH.blk_new' _ _ _ (by simp)) _) | (rw [if_neg hn]; exact blk_drew (blk_alloc (blk_alloc (Go.Proofs.YtcpknfcococneaaH.blk_new' _ _ _ (by simp)) _) _)) | (rw [if_neg hn]; exact blk_drew (blk_alloc (Go.Proofs.YtcpknfcococneaaH.blk_new' _ _ _ (by simp)) _))
      · first | exact blk_drew (blk_alloc (blk_alloc (Go.Proofs.YtcpknfcococneaaH.blk_new' _ _ _ (by simp)) _) _) | exact blk_drew (blk_alloc (Go.Proofs.YtcpknfcococneaaH.blk_new' _ _ _ (by simp)) _)
      · exact below_drew (below_alloc (below_alloc (below_alloc (below_alloc (Below.refl _ _) _) _) _) _)
    · refine ⟨w.heap.size + 1 + 1, w.heap.size + 1, w.heap.size + 1 + 1 + 1, rfl, ?_, ?_, ?_, ⟨by omega, by omega, by omega⟩, ?_⟩
      · exact blk_drew (Go.Proofs.YtcpknfcococneaaH.blk_new' _ _ _ (by simp))
      · first | exact blk_drew (blk_alloc (blk_alloc (Go.Proofs.YtcpknfcococneaaH.blk_new' _ _ _ (by simp)) _) _) | exact blk_drew (blk_alloc (Go.Proofs.YtcpknfcococneaaH.blk_new' _ _ _ (by simp)) _) | (rw [if_neg hn]; exact blk_drew (blk_alloc (blk_alloc (Go.Proofs.YtcpknfcococneaaH.blk_new' _ _ _ (by simp)) _) _)) | (rw [if_neg hn]; exact blk_drew (blk_alloc (Go.Proofs.YtcpknfcococneaaH.blk_new' _ _ _ (by simp)) _))
      · first | exact blk_drew (blk_alloc (blk_alloc (Go.Proofs.YtcpknfcococneaaH.blk_new' _ _ _ (by simp)) _) _) | exact blk_drew (blk_alloc (Go.Proofs.YtcpknfcococneaaH.blk_new' _ _ _ (by simp)) _)
      · exact below_drew (below_alloc (below_alloc (below_alloc (below_alloc (Below.refl _ _) _) _) _) _)

/-! the iterator -/
def srow (t : Nat) (a : Int) (k : Nat) : List (Int × Int) := (List.range k).map fun (j : Nat) => ((t : Int), a + (j : Int))
def sall (n : Nat) (a : Int) (k : Nat) : List (Int × Int) := (List.range n).flatMap fun t => srow t a k
theorem srow_succ (t : Nat) (a : Int) (k : Nat) : srow t a (k + 1) = srow t a k ++ [((t : Int), a + k)] := by simp [srow, List.range_succ]
theorem sall_succ (n : Nat) (a : Int) (k : Nat) : sall (n + 1) a k = sall n a k ++ srow n a k := by simp [sall, List.range_succ]
theorem srow_length (t : Nat) (a : Int) (k : Nat) : (srow t a k).length = k := by simp [srow]
theorem sall_length (n : Nat) (a : Int) (k : Nat) : (sall n a k).length = n * k := by
  induction n with
  | zero => simp [sall]
  | succ n ih => rw [sall_succ, List.length_append, ih, srow_length, Nat.succ_mul]
theorem srow_prefix (t : Nat) (a : Int) {j k : Nat} (h : j ≤ k) : srow t a j <+: srow t a k := by
  induction k with
  | zero => obtain rfl : j = 0 := by omega
            exact List.prefix_refl _
  | succ k ih =>
    by_cases e : j = k + 1
    · subst e; exact List.prefix_refl _
    · exact (ih (by omega)).trans (by rw [srow_succ]; exact List.prefix_append _ _)
theorem sall_prefix (a : Int) (k : Nat) {m n : Nat} (h : m ≤ n) : sall m a k <+: sall n a k := by
  induction n with
  | zero => obtain rfl : m = 0 := by omega
            exact List.prefix_refl _
  | succ n ih =>
    by_cases e : m = n + 1
    · subst e; exact List.prefix_refl _
    · exact (ih (by omega)).trans (by rw [sall_succ]; exact List.prefix_append _ _)
theorem sboth_prefix (a : Int) (k : Nat) {m n j : Nat} (h : m < n) (hj : j ≤ k) : sall m a k ++ srow m a j <+: sall n a k := by
  refine List.IsPrefix.trans ?_ (sall_prefix a k (show m + 1 ≤ n from h))
  rw [sall_succ]
  obtain ⟨c, hc⟩ := srow_prefix m a hj
  exact ⟨c, by rw [List.append_assoc, hc]⟩

theorem cells_of_blk {W : World} {B : Nat} {v : Value} {t : TypeId} (h : W.heap[B]? = some (.cells #[v] t (0, 0))) : W.cell? ⟨B, 0, none⟩ = some v := (blk_cell h 0).trans rfl
/-- The iterator's three variables stay as they are. -/
structure Kept3 (B5 B3 B4 : Nat) (A B : World) : Prop where
  h5 : B.heap[B5]? = A.heap[B5]?
  h3 : B.heap[B3]? = A.heap[B3]?
  h4 : B.heap[B4]? = A.heap[B4]?
theorem Kept3.refl (B5 B3 B4 : Nat) (A : World) : Kept3 B5 B3 B4 A A := ⟨rfl, rfl, rfl⟩
theorem Kept3.trans {B5 B3 B4 : Nat} {A B C : World} (h : Kept3 B5 B3 B4 A B) (k : Kept3 B5 B3 B4 B C) : Kept3 B5 B3 B4 A C := ⟨k.h5.trans h.h5, k.h3.trans h.h3, k.h4.trans h.h4⟩
theorem Kept3.put {B5 B3 B4 : Nat} {w : World} (b5 : B5 < w.heap.size) (b3 : B3 < w.heap.size) (b4 : B4 < w.heap.size) (W : World) (l : Nat) (o o' : Obj) (hl : w.heap.size ≤ l) (_ : W.heap[l]? = some o) (_ : o.isCells = false) (_ : o.isWalk = false) : Kept3 B5 B3 B4 W (W.putObj l o') :=
  ⟨World.putObj_heap_other (by omega), World.putObj_heap_other (by omega), World.putObj_heap_other (by omega)⟩
attribute [local go_sem] Oper.semAt_some
set_option maxRecDepth 100000 in
set_option maxHeartbeats 4000000 in
theorem class_Seats_1.in1 (F : Fence) (n : Nat) (h38 : F.fn 38) (hro : F.round = none) (hn : 1 ≤ n) (l B5 B3 B4 nT : Nat) (a : Int) (k : Nat) (hnT : nT ≤ 9223372036854775807) (ha0 : -1 ≤ a) (hak : a + k ≤ 9223372036854775807) (J Jx : List (Int × Int) → World → Prop)
    (hY : ∀ pre x W, J pre W → pre ++ [x] <+: sall nT a k → YieldAt F (n - 1) Try.prog l #[.agg #[.int .i64 x.1, .int .i64 x.2]] W fun e W' =>
      (e = .returned (.bool true) ∧ J (pre ++ [x]) W' ∧ Kept3 B5 B3 B4 W W') ∨ (e = .returned (.bool false) ∧ Jx (pre ++ [x]) W'))
    (W : World) (c5 : W.heap[B5]? = some (.cells #[.int .i64 nT] 3 (0, 0))) (c3 : W.heap[B3]? = some (.cells #[.int .i64 a] 3 (0, 0))) (c4 : W.heap[B4]? = some (.cells #[.int .i64 (a + k)] 3 (0, 0))) (h0 : J [] W) :
    CallsIn F n Try.prog 38 #[.func (.yield l) #[] #[], .pointer (some ⟨B5, 0, none⟩), .pointer (some ⟨B3, 0, none⟩), .pointer (some ⟨B4, 0, none⟩)] W fun e W' => (∃ v, e = .returned v) ∧
      ((∃ ys, ys = sall nT a k ∧ J ys W') ∨ (∃ pre, pre <+: sall nT a k ∧ Jx pre W')) := by
  refine callsIn_of_wp Try.func38 rfl h38 ?_ hro
  simp only [Try.ntmps38, List.size_toArray, List.length_cons, List.length_nil, Nat.reduceAdd, Nat.reduceSub, Array.replicate_succ, Array.replicate_zero, List.push_toArray, List.append_toArray, List.nil_append, List.cons_append]
  have d5 := cells_of_blk c5
  gi_wp2
  gi_loopw [8] (fun i wr => ∃ t : Nat, t ≤ nT ∧ i = .int .i64 t ∧ J (sall t a k) wr ∧ Kept3 B5 B3 B4 W wr) (fun i _ => nT - (intOf i).toNat)
  case atStart => exact ⟨0, Nat.zero_le _, rfl, h0, Kept3.refl _ _ _ _⟩
  case round =>
    obtain ⟨t, ht, rfl, hJs, hnx⟩ := hrel
    have d3 := cells_of_blk (hnx.h3.trans c3)
    by_cases hlt : t < nT
    · obtain ⟨wo, rfl⟩ : ∃ wo : World, wo = wr := ⟨_, rfl⟩
      gi_wp2
      gi_loopw [6] (fun p wr => ∃ j : Nat, j ≤ k ∧ p = .int .i64 (a + j) ∧ J (sall t a k ++ srow t a j) wr ∧ Kept3 B5 B3 B4 W wr) (fun p _ => (a + k - intOf p).toNat)
      case atStart => exact ⟨0, Nat.zero_le _, by simp, by simpa [srow] using hJs, hnx⟩
      case round =>
        obtain ⟨j, hj, rfl, hJ2, hn2⟩ := hrel
        have d4 := cells_of_blk (hn2.h4.trans c4)
        by_cases hjk : j < k
        · have hlen : (sall t a k ++ srow t a j) ++ [((t : Int), a + (j : Int))] <+: sall nT a k := by
            rw [List.append_assoc, ← srow_succ]
            exact sboth_prefix a k hlt (show j + 1 ≤ k from hjk)
          obtain ⟨fn, tmps, assign, body, hy, hR⟩ := hY _ ((t : Int), a + j) wr hJ2 hlen
          dsimp only at hy
          clear hlen
          gi_wp2
          refine hR.mono ?_
          rintro e W3 (⟨rfl, hJ3, hk3⟩ | ⟨rfl, hJx3⟩)
          · gi_wp2
            go_roundw
            case rel => exact ⟨j + 1, by omega, by first | rfl | (congr 1; omega), by rw [srow_succ, ← List.append_assoc]; exact hJ3, hn2.trans hk3⟩
            case measure => simp [intOf]; omega
          · gi_wp2
            refine bodyPost_ret (results_none rfl _ _ _) rfl ?_
            exact ⟨⟨_, rfl⟩, .inr ⟨_, sboth_prefix a k hlt (show j + 1 ≤ k from hjk), by rw [srow_succ, ← List.append_assoc]; exact hJx3⟩⟩
        · obtain rfl : j = k := by omega
          gi_wp2
          go_roundw
          case rel => exact ⟨t + 1, by omega, by simp, by rw [sall_succ]; exact hJ2, hn2⟩
          case measure => simp [intOf]; omega
    · obtain rfl : t = nT := by omega
      gi_wp2
      go_end0
      exact ⟨⟨_, rfl⟩, .inl ⟨_, rfl, hJs⟩⟩

/-- The iterator's contract, over the seats that it hands over. -/
theorem class_Seats_1.stops (F : Fence) (n : Nat) (h38 : F.fn 38) (hro : F.round = none) (hn : 1 ≤ n) (B5 B3 B4 nT : Nat) (a : Int) (k : Nat) (hnT : nT ≤ 9223372036854775807) (ha0 : -1 ≤ a) (hak : a + k ≤ 9223372036854775807) (w : World) (b5 : B5 < w.heap.size) (b3 : B3 < w.heap.size) (b4 : B4 < w.heap.size)
    (c5 : w.heap[B5]? = some (.cells #[.int .i64 nT] 3 (0, 0))) (c3 : w.heap[B3]? = some (.cells #[.int .i64 a] 3 (0, 0))) (c4 : w.heap[B4]? = some (.cells #[.int .i64 (a + k)] 3 (0, 0))) :
    SeqStopsK F n Try.prog 38 #[.pointer (some ⟨B5, 0, none⟩), .pointer (some ⟨B3, 0, none⟩), .pointer (some ⟨B4, 0, none⟩)] (fun x : { x : Int × Int // x ∈ sall nT a k } => #[Value.agg #[.int .i64 x.1.1, .int .i64 x.1.2]]) (Kept3 B5 B3 B4)
      (fun xs => xs.map (·.1) = sall nT a k) (fun pre => pre.map (·.1) <+: sall nT a k) (nT * k) w := fun l J Jx W hW _ _ hY h0 => by
  have hb : ∀ {B : Nat} {v : Value}, w.heap[B]? = some (.cells #[v] 3 (0, 0)) → W.heap[B]? = some (.cells #[v] 3 (0, 0)) := fun h => blk_below h hW
  refine (class_Seats_1.in1 F n h38 hro hn l B5 B3 B4 nT a k hnT ha0 hak (fun pre W => ∃ ps : List { x : Int × Int // x ∈ sall nT a k }, ps.map (·.1) = pre ∧ J ps W) (fun pre W => ∃ ps : List { x : Int × Int // x ∈ sall nT a k }, ps.map (·.1) = pre ∧ Jx ps W) ?_ W (hb c5) (hb c3) (hb c4) ⟨[], rfl, h0⟩).mono ?_
  · rintro pre x W ⟨ps, rfl, hJ⟩ hp
    have hx : x ∈ sall nT a k := hp.subset (by simp)
    have hl : ps.length < nT * k := by
      have := hp.length_le
      rw [sall_length] at this
      simp at this
      omega
    obtain ⟨fn, tmps, assign, body, hy, hR⟩ := hY ps ⟨x, hx⟩ W hJ hl
    refine ⟨fn, tmps, assign, body, hy, hR.mono ?_⟩
    rintro e W' (⟨he, h1, h2⟩ | ⟨he, h1⟩)
    · exact .inl ⟨he, ⟨_, by simp, h1⟩, h2⟩
    · exact .inr ⟨he, ⟨_, by simp, h1⟩⟩
  · rintro e W' ⟨he, ⟨ys, rfl, ps, h1, h2⟩ | ⟨pre, hp, ps, rfl, h2⟩⟩
    · exact ⟨he, .inl ⟨ps, h1, h2⟩⟩
    · exact ⟨he, .inr ⟨ps, hp, h2⟩⟩

end Go.Proofs.Ytcpknfcococneaa.Q
