/-
Words and contracts for the claim: what the walk of its row uses.
-/
import Derived.Test.YtlfnpakpkniipaaZAWWords
namespace Go.Proofs.YtlfnpakpkniipaaW.PrintWords
open Go.RowKit
section
variable {P : Program} {ops : Array Oper} {rest : List Oper} {o : Oper} {a : Act} {Q : Exit → Act → World → Prop} {W : World}
end
end Go.Proofs.YtlfnpakpkniipaaW.PrintWords
