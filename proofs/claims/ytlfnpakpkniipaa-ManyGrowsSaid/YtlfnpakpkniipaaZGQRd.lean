/- Words for the claim. -/
import Derived.Test.YtlfnpakpkniipaaZGWords
import Derived.Test.YtlfnpakpkniipaaZGQx0
set_option linter.unusedVariables false
set_option linter.unusedSimpArgs false
namespace Go.Proofs.Ytlfnpakpkniipaa.Q
open Go.RowKit Go.Proofs.YtlfnpakpkniipaaW.PrintWords Go.Proofs.YtlfnpakpkniipaaW.PrintLast Go.Proofs.YtlfnpakpkniipaaH
def ok49 (x : S49) : Prop := (Lit.int .u32 x.f0).wf = true ∧ (Lit.int .u8 x.f1).wf = true ∧ (Lit.int .i64 x.f2).wf = true ∧ (Lit.int .i64 x.f3).wf = true
theorem rd49 : Reads Try.prog 49 k49 ok49 := Reads.imp (Reads.struct (fun p => ⟨p.1, p.2.1, p.2.2.1, p.2.2.2⟩) (fun _ => rfl) Try.underlying49 (by kernel_rfl) (ReadsF.cons rfl rfl (by kernel_rfl) (Reads.int (by kernel_rfl)) (ReadsF.cons rfl rfl (by kernel_rfl) (Reads.int (by kernel_rfl)) (ReadsF.cons rfl rfl (by kernel_rfl) (Reads.int (by kernel_rfl)) (ReadsF.last rfl (by kernel_rfl) (Reads.int (by kernel_rfl))))))) (fun _ h => h)
def ok25 (x : S25) : Prop := (Lit.int .i64 x.f0).wf = true ∧ (Lit.int .i64 x.f1).wf = true
theorem rd25 : Reads Try.prog 25 k25 ok25 := Reads.imp (Reads.array (fun p => ⟨p.1, p.2⟩) (fun _ => rfl) Try.underlying25 (by kernel_rfl) (ReadsF.cons rfl rfl (by kernel_rfl) (Reads.int (by kernel_rfl)) (ReadsF.last rfl (by kernel_rfl) (Reads.int (by kernel_rfl))))) (fun _ h => h)
def ok23 (x : S23) : Prop := (Lit.int .i64 x.f0).wf = true ∧ (Lit.int .i64 x.f1).wf = true ∧ (Lit.int .i64 x.f2).wf = true
theorem rd23 : Reads Try.prog 23 k23 ok23 := Reads.imp (Reads.struct (fun p => ⟨p.1, p.2.1, p.2.2⟩) (fun _ => rfl) Try.underlying23 (by kernel_rfl) (ReadsF.cons rfl rfl (by kernel_rfl) (Reads.int (by kernel_rfl)) (ReadsF.cons rfl rfl (by kernel_rfl) (Reads.int (by kernel_rfl)) (ReadsF.last rfl (by kernel_rfl) (Reads.int (by kernel_rfl)))))) (fun _ h => h)
end Go.Proofs.Ytlfnpakpkniipaa.Q
