/- Written by a program of this session over the loaded program: Go functions as plain Lean functions, and that a call comes to what they say. -/
import Derived.Test.YtdebihfmceclkaaProg
import Derived.Below
import Derived.Deep.Draws
import Derived.Deep.AppendLies
import Derived.Maps.AppendAt
import Derived.OwnWalk
import Derived.Laws.BytesArg
import Derived.Laws.MakeOwn
import Derived.Laws.OwnMore
import Derived.Deep.OwnRows
import Derived.Tactics
import Derived.Lib.ConvBytes
import Derived.Laws.Slices
import Derived.WalkKit
import Derived.KernelRfl
import Derived.RowKit3
import Derived.Deep.LoopGhost
import Derived.Deep.QuietTactic
import Derived.BigQuiet
import Derived.WideLaws
import Derived.Deep.DeepCutAuto
import Derived.Deep.CutBlock
import Derived.Deep.RegionHeld3
import Derived.Laws.Rows
import Derived.Lib.AppendStr
import Derived.ArgAppend
import Derived.Laws.IdiomCopy
import Derived.OrdersHeld
import Derived.Laws.BitsLemmas
import Derived.RowKit
import Derived.Test.YtdebihfmceclkaaWWords
import Derived.Test.YtdebihfmceclkaaWLast
import Derived.Test.YtdebihfmceclkaaWTab
import Derived.Test.YtdebihfmceclkaaWFour
import Derived.Test.YtdebihfmceclkaaWQPut
import Derived.Test.YtdebihfmceclkaaWApart
import Derived.Test.YtdebihfmceclkaaWArr
import Derived.Test.YtdebihfmceclkaaWZeros
import Derived.Test.YtdebihfmceclkaaWFoot
import Derived.Test.YtdebihfmceclkaaWKept
import Derived.Test.YtdebihfmceclkaaWShare
import Derived.Test.YtdebihfmceclkaaWN
import Derived.Test.YtdebihfmceclkaaWFootNe
import Derived.Test.YtdebihfmceclkaaWAt
import Derived.Test.YtdebihfmceclkaaWEqStruct
import Derived.Test.YtdebihfmceclkaaWRepsOne
import Derived.Test.YtdebihfmceclkaaWInv
import Derived.Test.YtdebihfmceclkaaWInvWords
import Derived.Test.YtdebihfmceclkaaWGuard
import Derived.Test.YtdebihfmceclkaaWNEv
import Derived.Test.YtdebihfmceclkaaWMore
namespace Go.Proofs.Ytdebihfmceclkaa.PFnExactApply
open Go.RowKit Go.Proofs.YtdebihfmceclkaaW.PrintWords Go.Proofs.YtdebihfmceclkaaW.PrintLast Go.Proofs.YtdebihfmceclkaaW.PrintMore
attribute [local go_sem] max2_int min2_int max_two min_two max_three min_three max_four min_four   -- for this text's walks alone
set_option linter.unusedVariables false
set_option linter.unusedSimpArgs false



def errW : Option Int → Value
  | none => .nilIface
  | some c => .iface 0 (.int .i64 c)
theorem errW_none : errW none = .nilIface := rfl
theorem errW_some (c : Int) : errW (some c) = .iface 0 (.int .i64 c) := rfl

-- the values' own types

end Go.Proofs.Ytdebihfmceclkaa.PFnExactApply
