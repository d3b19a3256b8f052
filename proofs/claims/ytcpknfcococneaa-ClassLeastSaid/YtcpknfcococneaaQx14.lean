-- Written by this session's own program (wip/tools/myprint.py over the guide's print): functions of the given program as Lean functions, and that the machine's calls tell the same.
import Derived.Test.YtcpknfcococneaaQx0
import Derived.Test.YtcpknfcococneaaQx1
import Derived.Test.YtcpknfcococneaaQx3
import Derived.Test.YtcpknfcococneaaQx9
import Derived.Test.YtcpknfcococneaaQx10
import Derived.Test.YtcpknfcococneaaQx13
namespace Go.Proofs.Ytcpknfcococneaa.Q
open Go.RowKit Go.Proofs.YtcpknfcococneaaW.PrintWords Go.Proofs.YtcpknfcococneaaW.PrintLast Go.Proofs.YtcpknfcococneaaW.PrintMore
attribute [local go_sem] max2_int min2_int max_two min_two max_three min_three max_four min_four   -- for this text's walks alone
set_option linter.unusedVariables false
set_option linter.unusedSimpArgs false

attribute [local go_sem high] eqA41 eqA48
/-! ### horariumlaw13_heads: function 9 -/
def heads13.w : S46 := ⟨1, 1, 0, 1⟩
def heads13.v : S46 := ⟨1, 1, 1, 1⟩
def heads13.ts : List S58 := [⟨heads13.w, 5⟩, ⟨heads13.v, 2⟩]
def heads13.ps : List S60 := [⟨0, 0⟩, ⟨1, 0⟩, ⟨2, 0⟩]
def heads13.nm : ByteArray := ⟨#[99]⟩
def horariumlaw13_heads.f : Option (Bool) := some true
/-- What stays through heads: the times' and the places' rows, the class, the second time. -/
structure heads13.Inv (w : World) (gt gp gc gv : Nat) (W : World) : Prop where
  t : Kd.C k58 W (some ⟨gt, 0, none⟩) 2 heads13.ts
  p : Kd.C k60 W (some ⟨gp, 0, none⟩) 3 heads13.ps
  c : W.heap[gc]? = some (.cells #[.string heads13.nm, .int .i64 0, .int .u16 0, .slice none 0 0, .slice (some ⟨gt, 0, none⟩) 2 2, .slice (some ⟨gp, 0, none⟩) 3 3, .int .i64 (-1)] 30 (0, 0))
  v : W.heap[gv]? = some (.cells #[.int .u32 1, .int .u8 1, .int .i64 1, .int .i64 1] 46 (0, 0))
  b : Below w.heap.size w W
theorem heads13.Inv.below {w W W1 : World} {gt gp gc gv : Nat} (h : heads13.Inv w gt gp gc gv W) (hb : Below W.heap.size W W1) : heads13.Inv w gt gp gc gv W1 :=
  ⟨Kd.C_below h.t hb, Kd.C_below h.p hb, blk_below h.c hb, blk_below h.v hb, below_step h.b hb⟩
theorem heads13.Inv.alloc {w W : World} {gt gp gc gv : Nat} (h : heads13.Inv w gt gp gc gv W) (o : Obj) : heads13.Inv w gt gp gc gv (W.alloc o) := h.below (below_alloc (Below.refl _ _) o)
theorem heads13.Inv.c0 {w W : World} {gt gp gc gv : Nat} (h : heads13.Inv w gt gp gc gv W) : W.cell? ⟨gc, 0, none⟩ = some (.string heads13.nm) := (blk_cell h.c 0).trans rfl
theorem heads13.cheapest : class_Cheapest.f heads13.nm 0 0 [] heads13.ts heads13.ps (-1) = some (1, 0, 2) := by decide +kernel
theorem heads13.spot : class_Spot.f 5 heads13.nm 0 0 [] heads13.ts heads13.ps (-1) 1 (-1) = some (1, 1, 1, 1, -2, true) := by decide +kernel
theorem heads13.count : class_Count.f heads13.nm 0 0 [] heads13.ts heads13.ps (-1) = some 6 := by decide +kernel
theorem heads13.right : class_Right.f 5 1 1 2 3 0 1 heads13.nm 0 0 [] heads13.ts heads13.ps (-1) = some true := by decide +kernel
theorem heads13.whole1 : class_Whole.f heads13.nm 0 0 [] heads13.ts heads13.ps (-1) 1 0 = some true := by decide +kernel
theorem heads13.whole2 : class_Whole.f heads13.nm 0 0 [] heads13.ts heads13.ps (-1) 1 (-1) = some false := by decide +kernel
theorem heads13.call24 {w W : World} {gt gp gc gv : Nat} (h : heads13.Inv w gt gp gc gv W) :
    Calls Try.prog 24 #[.agg #[.string heads13.nm, .int .i64 0, .int .u16 0, .slice none 0 0, .slice (some ⟨gt, 0, none⟩) 2 2, .slice (some ⟨gp, 0, none⟩) 3 3, .int .i64 (-1)]] W fun e w' => e = .returned (.tuple #[.agg #[.int .i64 1, .int .i64 0], .int .i64 2]) ∧ Below W.heap.size W w' ∧ heads13.Inv w gt gp gc gv w' :=
  (class_Cheapest.calls heads13.nm 0 0 none 0 [] (some ⟨gt, 0, none⟩) 2 heads13.ts (some ⟨gp, 0, none⟩) 3 heads13.ps (-1) 1 0 2 W (Kd.C_nil _ _) (Nat.le_refl _) h.t (Nat.le_refl _) h.p (Nat.le_refl _) heads13.cheapest).mono fun e w' h' => ⟨h'.1, h'.2, h.below h'.2⟩
theorem heads13.call16 {w W : World} {gt gp gc gv : Nat} (h : heads13.Inv w gt gp gc gv W) :
    Calls Try.prog 16 #[.agg #[.string heads13.nm, .int .i64 0, .int .u16 0, .slice none 0 0, .slice (some ⟨gt, 0, none⟩) 2 2, .slice (some ⟨gp, 0, none⟩) 3 3, .int .i64 (-1)], .agg #[.int .i64 1, .int .i64 (-1)]] W fun e w' => e = .returned (.tuple #[.agg #[.int .u32 1, .int .u8 1, .int .i64 1, .int .i64 1, .int .i64 (-2)], .bool true]) ∧ Below W.heap.size W w' ∧ heads13.Inv w gt gp gc gv w' :=
  (class_Spot.calls 5 heads13.nm 0 0 none 0 [] (some ⟨gt, 0, none⟩) 2 heads13.ts (some ⟨gp, 0, none⟩) 3 heads13.ps (-1) 1 (-1) 1 1 1 1 (-2) true W (Kd.C_nil _ _) (Nat.le_refl _) h.t (Nat.le_refl _) h.p (Nat.le_refl _) heads13.spot).mono fun e w' h' => ⟨h'.1, h'.2, h.below h'.2⟩
theorem heads13.call15 {w W : World} {gt gp gc gv : Nat} (h : heads13.Inv w gt gp gc gv W) :
    Calls Try.prog 15 #[.agg #[.string heads13.nm, .int .i64 0, .int .u16 0, .slice none 0 0, .slice (some ⟨gt, 0, none⟩) 2 2, .slice (some ⟨gp, 0, none⟩) 3 3, .int .i64 (-1)]] W fun e w' => e = .returned (.int .i64 6) ∧ Below W.heap.size W w' ∧ heads13.Inv w gt gp gc gv w' :=
  (class_Count.calls heads13.nm 0 0 none 0 [] (some ⟨gt, 0, none⟩) 2 heads13.ts (some ⟨gp, 0, none⟩) 3 heads13.ps (-1) 6 W (Kd.C_nil _ _) (Nat.le_refl _) h.t (Nat.le_refl _) h.p (Nat.le_refl _) heads13.count).mono fun e w' h' => ⟨h'.1, h'.2, h.below h'.2⟩
theorem heads13.call10 {w W : World} {gt gp gc gv : Nat} (h : heads13.Inv w gt gp gc gv W) :
    Calls Try.prog 10 #[.agg #[.int .i64 1, .int .i64 1, .int .i64 2], .int .i64 3, .int .i64 0, .int .i64 1, .agg #[.string heads13.nm, .int .i64 0, .int .u16 0, .slice none 0 0, .slice (some ⟨gt, 0, none⟩) 2 2, .slice (some ⟨gp, 0, none⟩) 3 3, .int .i64 (-1)]] W fun e w' => e = .returned (.bool true) ∧ Below W.heap.size W w' ∧ heads13.Inv w gt gp gc gv w' :=
  (class_Right.calls 5 1 1 2 3 0 1 heads13.nm 0 0 none 0 [] (some ⟨gt, 0, none⟩) 2 heads13.ts (some ⟨gp, 0, none⟩) 3 heads13.ps (-1) true W (Kd.C_nil _ _) (Nat.le_refl _) h.t (Nat.le_refl _) h.p (Nat.le_refl _) heads13.right).mono fun e w' h' => ⟨h'.1, h'.2, h.below h'.2⟩
theorem heads13.call22 {w W : World} {gt gp gc gv : Nat} (h : heads13.Inv w gt gp gc gv W) :
    Calls Try.prog 22 #[.agg #[.string heads13.nm, .int .i64 0, .int .u16 0, .slice none 0 0, .slice (some ⟨gt, 0, none⟩) 2 2, .slice (some ⟨gp, 0, none⟩) 3 3, .int .i64 (-1)], .agg #[.int .i64 1, .int .i64 0]] W fun e w' => e = .returned (.bool true) ∧ Below W.heap.size W w' ∧ heads13.Inv w gt gp gc gv w' :=
  (class_Whole.calls heads13.nm 0 0 none 0 [] (some ⟨gt, 0, none⟩) 2 heads13.ts (some ⟨gp, 0, none⟩) 3 heads13.ps (-1) 1 0 true W (Kd.C_nil _ _) (Nat.le_refl _) h.t (Nat.le_refl _) h.p (Nat.le_refl _) heads13.whole1).mono fun e w' h' => ⟨h'.1, h'.2, h.below h'.2⟩
theorem heads13.call22b {w W : World} {gt gp gc gv : Nat} (h : heads13.Inv w gt gp gc gv W) :
    Calls Try.prog 22 #[.agg #[.string heads13.nm, .int .i64 0, .int .u16 0, .slice none 0 0, .slice (some ⟨gt, 0, none⟩) 2 2, .slice (some ⟨gp, 0, none⟩) 3 3, .int .i64 (-1)], .agg #[.int .i64 1, .int .i64 (-1)]] W fun e w' => e = .returned (.bool false) ∧ Below W.heap.size W w' ∧ heads13.Inv w gt gp gc gv w' :=
  (class_Whole.calls heads13.nm 0 0 none 0 [] (some ⟨gt, 0, none⟩) 2 heads13.ts (some ⟨gp, 0, none⟩) 3 heads13.ps (-1) 1 (-1) false W (Kd.C_nil _ _) (Nat.le_refl _) h.t (Nat.le_refl _) h.p (Nat.le_refl _) heads13.whole2).mono fun e w' h' => ⟨h'.1, h'.2, h.below h'.2⟩
attribute [local go_sem high] eqA41 eqA48
set_option maxHeartbeats 8000000 in
set_option maxRecDepth 100000 in
theorem horariumlaw13_heads.calls (r : Bool) (w : World) (h : horariumlaw13_heads.f = some r) :
    Calls Try.prog 9 #[] w fun e w' => e = .returned (.bool r) ∧ Below w.heap.size w w' := by
  have hu23 := Try.underlying23
  have hu30 := Try.underlying30
  have hu41 := Try.underlying41
  have hu46 := Try.underlying46
  have hu48 := Try.underlying48
  have hu58 := Try.underlying58
  have hu60 := Try.underlying60
  obtain rfl := Option.some.inj h
  clear h
  go_enter Try.func9, Try.ntmps9
  go_wp2_with fail
  refine (heads13.call24 (w := w) (gc := w.heap.size + 1 + 1 + 1 + 1) (gv := w.heap.size + 1) ?_).mono ?_
  · exact ⟨Go.Proofs.YtcpknfcococneaaH.C_of_blk (blk_alloc (blk_alloc (Go.Proofs.YtcpknfcococneaaH.blk_new' _ _ _ (by simp)) _) _) heads13.ts (fun x => [.int .u32 x.f0.f0, .int .u8 x.f0.f1, .int .i64 x.f0.f2, .int .i64 x.f0.f3, .int .i64 x.f1]) (fun x => k58_mk _ x) rfl (by decide),
      Go.Proofs.YtcpknfcococneaaH.C_of_blk (blk_alloc (Go.Proofs.YtcpknfcococneaaH.blk_new' _ _ _ (by simp)) _) heads13.ps (fun x => [.int .i64 x.f0, .int .i64 x.f1]) (fun x => k60_mk _ x) rfl (by decide),
      Go.Proofs.YtcpknfcococneaaH.blk_new' _ _ _ (by simp), blk_alloc (blk_alloc (blk_alloc (Go.Proofs.YtcpknfcococneaaH.blk_new' _ _ _ (by simp)) _) _) _,
      below_alloc (below_alloc (below_alloc (below_alloc (below_alloc (Below.refl _ _) _) _) _) _) _⟩
  rintro e w1 ⟨rfl, _, h1⟩
  have HI := Aside0.mk h1
  clear h1
  have y0 := (blk_cell HI.out.c 0).trans rfl; have y1 := (blk_cell HI.out.c 1).trans rfl; have y2 := (blk_cell HI.out.c 2).trans rfl; have y3 := (blk_cell HI.out.c 3).trans rfl; have y4 := (blk_cell HI.out.c 4).trans rfl; have y5 := (blk_cell HI.out.c 5).trans rfl; have y6 := (blk_cell HI.out.c 6).trans rfl; have z0 := (blk_cell HI.out.v 0).trans rfl; have z1 := (blk_cell HI.out.v 1).trans rfl; have z2 := (blk_cell HI.out.v 2).trans rfl; have z3 := (blk_cell HI.out.v 3).trans rfl; have L1 := blk_lt HI.out.c; have L2 := blk_lt HI.out.v
  go_wp2_with fail
  refine (heads13.call16 (w := w) (gc := w.heap.size + 1 + 1 + 1 + 1) (gv := w.heap.size + 1) (HI.out.alloc _)).mono ?_
  rintro e w2 ⟨rfl, hb, h1⟩
  have HS := Aside0.mk (blk_below (blk_new w1 (.cells #[.int .i64 1, .int .i64 0] 41 (0, 0))) hb)
  clear y0 y1 y2 y3 y4 y5 y6 z0 z1 z2 z3 L1 L2
  clear HI hb
  have HI := Aside0.mk h1
  clear h1
  have y0 := (blk_cell HI.out.c 0).trans rfl; have y1 := (blk_cell HI.out.c 1).trans rfl; have y2 := (blk_cell HI.out.c 2).trans rfl; have y3 := (blk_cell HI.out.c 3).trans rfl; have y4 := (blk_cell HI.out.c 4).trans rfl; have y5 := (blk_cell HI.out.c 5).trans rfl; have y6 := (blk_cell HI.out.c 6).trans rfl; have z0 := (blk_cell HI.out.v 0).trans rfl; have z1 := (blk_cell HI.out.v 1).trans rfl; have z2 := (blk_cell HI.out.v 2).trans rfl; have z3 := (blk_cell HI.out.v 3).trans rfl; have L1 := blk_lt HI.out.c; have L2 := blk_lt HI.out.v
  have s0 := (blk_cell HS.out 0).trans rfl; have s1 := (blk_cell HS.out 1).trans rfl; have L3 := blk_lt HS.out
  go_wp2_with fail
  refine (heads13.call15 (w := w) (gc := w.heap.size + 1 + 1 + 1 + 1) (gv := w.heap.size + 1) (HI.out.alloc _)).mono ?_
  rintro e w3 ⟨rfl, hb, h1⟩
  have n1 := Aside0.mk (blk_below (blk_alloc HS.out _) hb)
  have HX := Aside0.mk (blk_below (blk_new w2 (.cells #[.int .u32 1, .int .u8 1, .int .i64 1, .int .i64 1, .int .i64 (-2)] 48 (0, 0))) hb)
  clear HS s0 s1 L3
  have HS := n1
  clear n1
  clear y0 y1 y2 y3 y4 y5 y6 z0 z1 z2 z3 L1 L2
  clear HI hb
  have HI := Aside0.mk h1
  clear h1
  have y0 := (blk_cell HI.out.c 0).trans rfl; have y1 := (blk_cell HI.out.c 1).trans rfl; have y2 := (blk_cell HI.out.c 2).trans rfl; have y3 := (blk_cell HI.out.c 3).trans rfl; have y4 := (blk_cell HI.out.c 4).trans rfl; have y5 := (blk_cell HI.out.c 5).trans rfl; have y6 := (blk_cell HI.out.c 6).trans rfl; have z0 := (blk_cell HI.out.v 0).trans rfl; have z1 := (blk_cell HI.out.v 1).trans rfl; have z2 := (blk_cell HI.out.v 2).trans rfl; have z3 := (blk_cell HI.out.v 3).trans rfl; have L1 := blk_lt HI.out.c; have L2 := blk_lt HI.out.v
  have s0 := (blk_cell HS.out 0).trans rfl; have s1 := (blk_cell HS.out 1).trans rfl; have L3 := blk_lt HS.out
  have x0 := (blk_cell HX.out 0).trans rfl; have x1 := (blk_cell HX.out 1).trans rfl; have x2 := (blk_cell HX.out 2).trans rfl; have x3 := (blk_cell HX.out 3).trans rfl; have x4 := (blk_cell HX.out 4).trans rfl; have L4 := blk_lt HX.out
  go_wp2_with fail
  refine (heads13.call10 (w := w) (gc := w.heap.size + 1 + 1 + 1 + 1) (gv := w.heap.size + 1) HI.out).mono ?_
  rintro e w4 ⟨rfl, hb, h1⟩
  have n1 := Aside0.mk (blk_below HS.out hb)
  have n2 := Aside0.mk (blk_below HX.out hb)
  clear HS HX s0 s1 L3 x0 x1 x2 x3 x4 L4
  have HS := n1
  have HX := n2
  clear n1 n2
  clear y0 y1 y2 y3 y4 y5 y6 z0 z1 z2 z3 L1 L2
  clear HI hb
  have HI := Aside0.mk h1
  clear h1
  have y0 := (blk_cell HI.out.c 0).trans rfl; have y1 := (blk_cell HI.out.c 1).trans rfl; have y2 := (blk_cell HI.out.c 2).trans rfl; have y3 := (blk_cell HI.out.c 3).trans rfl; have y4 := (blk_cell HI.out.c 4).trans rfl; have y5 := (blk_cell HI.out.c 5).trans rfl; have y6 := (blk_cell HI.out.c 6).trans rfl; have z0 := (blk_cell HI.out.v 0).trans rfl; have z1 := (blk_cell HI.out.v 1).trans rfl; have z2 := (blk_cell HI.out.v 2).trans rfl; have z3 := (blk_cell HI.out.v 3).trans rfl; have L1 := blk_lt HI.out.c; have L2 := blk_lt HI.out.v
  have s0 := (blk_cell HS.out 0).trans rfl; have s1 := (blk_cell HS.out 1).trans rfl; have L3 := blk_lt HS.out
  have x0 := (blk_cell HX.out 0).trans rfl; have x1 := (blk_cell HX.out 1).trans rfl; have x2 := (blk_cell HX.out 2).trans rfl; have x3 := (blk_cell HX.out 3).trans rfl; have x4 := (blk_cell HX.out 4).trans rfl; have L4 := blk_lt HX.out
  go_wp2_with fail
  refine (heads13.call22 (w := w) (gc := w.heap.size + 1 + 1 + 1 + 1) (gv := w.heap.size + 1) HI.out).mono ?_
  rintro e w5 ⟨rfl, hb, h1⟩
  have n1 := Aside0.mk (blk_below HS.out hb)
  have n2 := Aside0.mk (blk_below HX.out hb)
  clear HS HX s0 s1 L3 x0 x1 x2 x3 x4 L4
  have HS := n1
  have HX := n2
  clear n1 n2
  clear y0 y1 y2 y3 y4 y5 y6 z0 z1 z2 z3 L1 L2
  clear HI hb
  have HI := Aside0.mk h1
  clear h1
  have y0 := (blk_cell HI.out.c 0).trans rfl; have y1 := (blk_cell HI.out.c 1).trans rfl; have y2 := (blk_cell HI.out.c 2).trans rfl; have y3 := (blk_cell HI.out.c 3).trans rfl; have y4 := (blk_cell HI.out.c 4).trans rfl; have y5 := (blk_cell HI.out.c 5).trans rfl; have y6 := (blk_cell HI.out.c 6).trans rfl; have z0 := (blk_cell HI.out.v 0).trans rfl; have z1 := (blk_cell HI.out.v 1).trans rfl; have z2 := (blk_cell HI.out.v 2).trans rfl; have z3 := (blk_cell HI.out.v 3).trans rfl; have L1 := blk_lt HI.out.c; have L2 := blk_lt HI.out.v
  have s0 := (blk_cell HS.out 0).trans rfl; have s1 := (blk_cell HS.out 1).trans rfl; have L3 := blk_lt HS.out
  have x0 := (blk_cell HX.out 0).trans rfl; have x1 := (blk_cell HX.out 1).trans rfl; have x2 := (blk_cell HX.out 2).trans rfl; have x3 := (blk_cell HX.out 3).trans rfl; have x4 := (blk_cell HX.out 4).trans rfl; have L4 := blk_lt HX.out
  go_wp2_with fail
  refine (heads13.call22b (w := w) (gc := w.heap.size + 1 + 1 + 1 + 1) (gv := w.heap.size + 1) HI.out).mono ?_
  rintro e w6 ⟨rfl, hb, h1⟩
  have n1 := Aside0.mk (blk_below HS.out hb)
  have n2 := Aside0.mk (blk_below HX.out hb)
  clear HS HX s0 s1 L3 x0 x1 x2 x3 x4 L4
  have HS := n1
  have HX := n2
  clear n1 n2
  clear y0 y1 y2 y3 y4 y5 y6 z0 z1 z2 z3 L1 L2
  clear HI hb
  have HI := Aside0.mk h1
  clear h1
  have y0 := (blk_cell HI.out.c 0).trans rfl; have y1 := (blk_cell HI.out.c 1).trans rfl; have y2 := (blk_cell HI.out.c 2).trans rfl; have y3 := (blk_cell HI.out.c 3).trans rfl; have y4 := (blk_cell HI.out.c 4).trans rfl; have y5 := (blk_cell HI.out.c 5).trans rfl; have y6 := (blk_cell HI.out.c 6).trans rfl; have z0 := (blk_cell HI.out.v 0).trans rfl; have z1 := (blk_cell HI.out.v 1).trans rfl; have z2 := (blk_cell HI.out.v 2).trans rfl; have z3 := (blk_cell HI.out.v 3).trans rfl; have L1 := blk_lt HI.out.c; have L2 := blk_lt HI.out.v
  have s0 := (blk_cell HS.out 0).trans rfl; have s1 := (blk_cell HS.out 1).trans rfl; have L3 := blk_lt HS.out
  have x0 := (blk_cell HX.out 0).trans rfl; have x1 := (blk_cell HX.out 1).trans rfl; have x2 := (blk_cell HX.out 2).trans rfl; have x3 := (blk_cell HX.out 3).trans rfl; have x4 := (blk_cell HX.out 4).trans rfl; have L4 := blk_lt HX.out
  go_wp2_with fail
  go_ret
  exact ⟨rfl, HI.out.b⟩

end Go.Proofs.Ytcpknfcococneaa.Q
