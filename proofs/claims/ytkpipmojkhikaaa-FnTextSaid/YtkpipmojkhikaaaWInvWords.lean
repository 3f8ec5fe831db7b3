/- Words of the kit's print, laid for this seat and cut by a program of this session to what the seat's texts name. -/
import Derived.Test.YtkpipmojkhikaaaWInv
import Derived.Test.YtkpipmojkhikaaaWFootNe
namespace Go.Proofs.YtkpipmojkhikaaaW.PrintWords
open Go.RowKit
end Go.Proofs.YtkpipmojkhikaaaW.PrintWords
namespace Go.Proofs.YtkpipmojkhikaaaW.PrintLast
section
variable {ops : Array Oper} {a : Act} {o og : Oper} {g : Nat} {t : Tmp} {u : Bool}
end
end Go.Proofs.YtkpipmojkhikaaaW.PrintLast
