/- Words of the kit's print, laid for this seat and cut by a program of this session to what the seat's texts name. -/
import Derived.Test.YtkpipmojkhikaaaWN
namespace Go.Proofs.YtkpipmojkhikaaaW.PrintWords
open Go.RowKit
namespace Kd
section
variable {α : Type} {d : Kd α} {W : World} {g n : Nat} {S ok : Nat → Prop} {A : Option Addr} {ad : Addr} {xs : List α}
end
end Kd
end Go.Proofs.YtkpipmojkhikaaaW.PrintWords
