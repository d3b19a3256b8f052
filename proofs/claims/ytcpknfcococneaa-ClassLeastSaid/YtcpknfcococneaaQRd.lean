-- Written by this session's own program (wip/tools/rowgen.py).
import Derived.Test.YtcpknfcococneaaHR
import Derived.Test.YtcpknfcococneaaQx0
set_option linter.unusedVariables false
set_option linter.unusedSimpArgs false
namespace Go.Proofs.Ytcpknfcococneaa.Q
open Go.RowKit Go.Proofs.YtcpknfcococneaaW.PrintWords Go.Proofs.YtcpknfcococneaaW.PrintLast Go.Proofs.YtcpknfcococneaaH
def ok23 (x : S23) : Prop := (Lit.int .i64 x.f0).wf = true ∧ (Lit.int .i64 x.f1).wf = true ∧ (Lit.int .i64 x.f2).wf = true
theorem rd23 : Reads Try.prog 23 k23 ok23 := Reads.imp (Reads.struct (fun p => ⟨p.1, p.2.1, p.2.2⟩) (fun _ => rfl) Try.underlying23 (by kernel_rfl) (ReadsF.cons rfl rfl (by kernel_rfl) (Reads.int (by kernel_rfl)) (ReadsF.cons rfl rfl (by kernel_rfl) (Reads.int (by kernel_rfl)) (ReadsF.last rfl (by kernel_rfl) (Reads.int (by kernel_rfl)))))) (fun _ h => h)
def ok46 (x : S46) : Prop := (Lit.int .u32 x.f0).wf = true ∧ (Lit.int .u8 x.f1).wf = true ∧ (Lit.int .i64 x.f2).wf = true ∧ (Lit.int .i64 x.f3).wf = true
theorem rd46 : Reads Try.prog 46 k46 ok46 := Reads.imp (Reads.struct (fun p => ⟨p.1, p.2.1, p.2.2.1, p.2.2.2⟩) (fun _ => rfl) Try.underlying46 (by kernel_rfl) (ReadsF.cons rfl rfl (by kernel_rfl) (Reads.int (by kernel_rfl)) (ReadsF.cons rfl rfl (by kernel_rfl) (Reads.int (by kernel_rfl)) (ReadsF.cons rfl rfl (by kernel_rfl) (Reads.int (by kernel_rfl)) (ReadsF.last rfl (by kernel_rfl) (Reads.int (by kernel_rfl))))))) (fun _ h => h)
def ok58 (x : S58) : Prop := ok46 x.f0 ∧ (Lit.int .i64 x.f1).wf = true
theorem rd58 : Reads Try.prog 58 k58 ok58 := Reads.imp (Reads.struct (fun p => ⟨p.1, p.2⟩) (fun _ => rfl) Try.underlying58 (by kernel_rfl) (ReadsF.cons rfl rfl (by kernel_rfl) rd46 (ReadsF.last rfl (by kernel_rfl) (Reads.int (by kernel_rfl))))) (fun _ h => h)
def ok60 (x : S60) : Prop := (Lit.int .i64 x.f0).wf = true ∧ (Lit.int .i64 x.f1).wf = true
theorem rd60 : Reads Try.prog 60 k60 ok60 := Reads.imp (Reads.struct (fun p => ⟨p.1, p.2⟩) (fun _ => rfl) Try.underlying60 (by kernel_rfl) (ReadsF.cons rfl rfl (by kernel_rfl) (Reads.int (by kernel_rfl)) (ReadsF.last rfl (by kernel_rfl) (Reads.int (by kernel_rfl))))) (fun _ h => h)
def ok30 (x : S30) : Prop := x.f0.size ≤ 140737488351232 ∧ (Lit.int .i64 x.f1).wf = true ∧ (Lit.int .u16 x.f2).wf = true ∧ (x.f3.length * 8 ≤ 140737488351232 ∧ ∀ z ∈ x.f3, (Lit.int .i64 z).wf = true) ∧ (x.f4.length * 32 ≤ 140737488351232 ∧ ∀ z ∈ x.f4, ok58 z) ∧ (x.f5.length * 16 ≤ 140737488351232 ∧ ∀ z ∈ x.f5, ok60 z) ∧ (Lit.int .i64 x.f6).wf = true
theorem rd30 : Reads Try.prog 30 k30 ok30 := Reads.imp (Reads.struct (fun p => ⟨p.1, p.2.1, p.2.2.1, p.2.2.2.1, p.2.2.2.2.1, p.2.2.2.2.2.1, p.2.2.2.2.2.2⟩) (fun _ => rfl) Try.underlying30 (by kernel_rfl) (ReadsF.cons rfl rfl (by kernel_rfl) (Reads.string (by kernel_rfl)) (ReadsF.cons rfl rfl (by kernel_rfl) (Reads.int (by kernel_rfl)) (ReadsF.cons rfl rfl (by kernel_rfl) (Reads.int (by kernel_rfl)) (ReadsF.cons rfl rfl (by kernel_rfl) (Reads.slice (b := 8) (by kernel_rfl) (by kernel_rfl) (by kernel_rfl) (Reads.int (by kernel_rfl))) (ReadsF.cons rfl rfl (by kernel_rfl) (Reads.slice (b := 32) (by kernel_rfl) (by kernel_rfl) (by kernel_rfl) rd58) (ReadsF.cons rfl rfl (by kernel_rfl) (Reads.slice (b := 16) (by kernel_rfl) (by kernel_rfl) (by kernel_rfl) rd60) (ReadsF.last rfl (by kernel_rfl) (Reads.int (by kernel_rfl)))))))))) (fun _ h => h)
def ok41 (x : S41) : Prop := (Lit.int .i64 x.f0).wf = true ∧ (Lit.int .i64 x.f1).wf = true
theorem rd41 : Reads Try.prog 41 k41 ok41 := Reads.imp (Reads.struct (fun p => ⟨p.1, p.2⟩) (fun _ => rfl) Try.underlying41 (by kernel_rfl) (ReadsF.cons rfl rfl (by kernel_rfl) (Reads.int (by kernel_rfl)) (ReadsF.last rfl (by kernel_rfl) (Reads.int (by kernel_rfl))))) (fun _ h => h)
structure S24 where
  f0 : Int
  f1 : Int
  f2 : Int
def k24 : Kd S24 := Kd.iso (Kd.pair (Kd.int .i64) (Kd.pair (Kd.int .i64) (Kd.int .i64))) (fun x : S24 => (x.f0, x.f1, x.f2))
theorem k24_open {w : World} {x : S24} {cs : List Value} (h : k24.K w x cs) : cs = [.int .i64 x.f0, .int .i64 x.f1, .int .i64 x.f2] := by
  obtain ⟨_, _, rfl, rfl, ⟨_, _, rfl, rfl, rfl⟩⟩ := h
  exact rfl
def ok24 (x : S24) : Prop := (Lit.int .i64 x.f0).wf = true ∧ (Lit.int .i64 x.f1).wf = true ∧ (Lit.int .i64 x.f2).wf = true
theorem rd24 : Reads Try.prog 24 k24 ok24 := Reads.imp (Reads.array (fun p => ⟨p.1, p.2.1, p.2.2⟩) (fun _ => rfl) Try.underlying24 (by kernel_rfl) (ReadsF.cons rfl rfl (by kernel_rfl) (Reads.int (by kernel_rfl)) (ReadsF.cons rfl rfl (by kernel_rfl) (Reads.int (by kernel_rfl)) (ReadsF.last rfl (by kernel_rfl) (Reads.int (by kernel_rfl)))))) (fun _ h => h)
end Go.Proofs.Ytcpknfcococneaa.Q
