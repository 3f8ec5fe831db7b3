/- Words of the kit's print, laid for this seat and cut by a program of this session to what the seat's texts name. -/
import Derived.Test.YtjjjbifbibabgaaWInv
import Derived.Test.YtjjjbifbibabgaaWFootNe
namespace Go.Proofs.YtjjjbifbibabgaaW.PrintWords
open Go.RowKit
end Go.Proofs.YtjjjbifbibabgaaW.PrintWords
namespace Go.Proofs.YtjjjbifbibabgaaW.PrintLast
section
variable {ops : Array Oper} {a : Act} {o og : Oper} {g : Nat} {t : Tmp} {u : Bool}
end
end Go.Proofs.YtjjjbifbibabgaaW.PrintLast
