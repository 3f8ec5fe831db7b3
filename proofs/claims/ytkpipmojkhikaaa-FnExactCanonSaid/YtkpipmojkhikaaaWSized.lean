/- Words of the kit's print, laid for this seat and cut by a program of this session to what the seat's texts name. -/
import Derived.SizedLaws
import Derived.ChangeSlices
namespace Go.Proofs.YtkpipmojkhikaaaW.PrintWords
open Go.ChangeShapes Go.WideShapes
end Go.Proofs.YtkpipmojkhikaaaW.PrintWords
