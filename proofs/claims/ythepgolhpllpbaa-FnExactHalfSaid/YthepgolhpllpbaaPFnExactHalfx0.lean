/- Written by a program of this session over the loaded program: Go functions as plain Lean functions, and that a call comes to what they say. -/
import Derived.Test.YthepgolhpllpbaaProg
import Derived.Test.YthepgolhpllpbaaBase
import Derived.Shelf.Abstract
import Derived.Below
import Derived.Deep.Draws
import Derived.Deep.AppendLies
import Derived.Maps.AppendAt
import Derived.OwnWalk
import Derived.Laws.BytesArg
import Derived.Laws.MakeOwn
import Derived.Laws.OwnMore
import Derived.Deep.OwnRows
import Derived.Tactics
import Derived.Lib.ConvBytes
import Derived.Laws.Slices
import Derived.WalkKit
import Derived.KernelRfl
import Derived.RowKit3
import Derived.Deep.LoopGhost
import Derived.Deep.QuietTactic
import Derived.BigQuiet
import Derived.WideLaws
import Derived.Deep.DeepCutAuto
import Derived.Deep.CutBlock
import Derived.Deep.RegionHeld3
import Derived.Laws.Rows
import Derived.Lib.AppendStr
import Derived.ArgAppend
import Derived.Laws.IdiomCopy
import Derived.OrdersHeld
import Derived.Laws.BitsLemmas
import Derived.RowKit
import Derived.Test.YthepgolhpllpbaaWWords
import Derived.Test.YthepgolhpllpbaaWLast
import Derived.Test.YthepgolhpllpbaaWTab
import Derived.Test.YthepgolhpllpbaaWFour
import Derived.Test.YthepgolhpllpbaaWQPut
import Derived.Test.YthepgolhpllpbaaWApart
import Derived.Test.YthepgolhpllpbaaWArr
import Derived.Test.YthepgolhpllpbaaWZeros
import Derived.Test.YthepgolhpllpbaaWFoot
import Derived.Test.YthepgolhpllpbaaWKept
import Derived.Test.YthepgolhpllpbaaWShare
import Derived.Test.YthepgolhpllpbaaWN
import Derived.Test.YthepgolhpllpbaaWFootNe
import Derived.Test.YthepgolhpllpbaaWAt
import Derived.Test.YthepgolhpllpbaaWEqStruct
import Derived.Test.YthepgolhpllpbaaWRepsOne
import Derived.Test.YthepgolhpllpbaaWInv
import Derived.Test.YthepgolhpllpbaaWInvWords
import Derived.Test.YthepgolhpllpbaaWGuard
import Derived.Test.YthepgolhpllpbaaWNEv
import Derived.Test.YthepgolhpllpbaaWMore
namespace Go.Proofs.Ythepgolhpllpbaa.PFnExactHalf
open Go.RowKit Go.Proofs.YthepgolhpllpbaaW.PrintWords Go.Proofs.YthepgolhpllpbaaW.PrintLast Go.Proofs.YthepgolhpllpbaaW.PrintMore
attribute [local go_sem] max2_int min2_int max_two min_two max_three min_three max_four min_four   -- for this text's walks alone
set_option linter.unusedVariables false
set_option linter.unusedSimpArgs false



def errW : Option Int → Value
  | none => .nilIface
  | some c => .iface 0 (.int .i64 c)
theorem errW_none : errW none = .nilIface := rfl
theorem errW_some (c : Int) : errW (some c) = .iface 0 (.int .i64 c) := rfl

-- the values' own types

end Go.Proofs.Ythepgolhpllpbaa.PFnExactHalf
