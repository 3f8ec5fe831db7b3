/- Words of the kit's print, laid for this seat and cut by a program of this session to what the seat's texts name. -/
import Derived.Test.YtdebihfmceclkaaWInv
import Derived.Test.YtdebihfmceclkaaWFootNe
namespace Go.Proofs.YtdebihfmceclkaaW.PrintWords
open Go.RowKit
end Go.Proofs.YtdebihfmceclkaaW.PrintWords
namespace Go.Proofs.YtdebihfmceclkaaW.PrintLast
section
variable {ops : Array Oper} {a : Act} {o og : Oper} {g : Nat} {t : Tmp} {u : Bool}
end
end Go.Proofs.YtdebihfmceclkaaW.PrintLast
