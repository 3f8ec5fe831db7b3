/- The plain statement of FnExactTableOk, and that it gives the call: no condition. -/
import Derived.Test.YthepgolhpllpbaaPFnExactTableOkx1
set_option linter.unusedVariables false
namespace Go.Proofs.Ythepgolhpllpbaa.PFnExactTableOk
open Go.RowKit Go.Proofs.Ythepgolhpllpbaa.PFnExactTableOk Go.Proofs.YthepgolhpllpbaaW.PrintWords Go.Proofs.YthepgolhpllpbaaW.PrintLast Go.Proofs.YthepgolhpllpbaaW.PrintMore
def laws_FnExactTableOk.Pure : Prop := ∀ (a0_0 : Int) (a0_1 : ByteArray), (Lit.int .i64 a0_0).wf = true → a0_1.size ≤ 9223372036854775807 → ∃ k, laws_FnExactTableOk.f k a0_0 a0_1 = some true
theorem laws_FnExactTableOk.walk (P : laws_FnExactTableOk.Pure) (a0_0 : Int) (a0_1 : ByteArray) (w : World) (w0_0 : (Lit.int .i64 a0_0).wf = true) (w0_1 : a0_1.size ≤ 9223372036854775807) :
    Calls Try.prog 5 #[.agg #[.int .i64 a0_0, .string a0_1]] w fun e w' => e = .returned (.bool true) ∧ Below w.heap.size w w' := by
  obtain ⟨k, h⟩ := P a0_0 a0_1 w0_0 w0_1
  refine (laws_FnExactTableOk.calls k a0_0 a0_1 true w  h).mono ?_
  rintro e w' ⟨rfl, hd⟩
  exact ⟨rfl, hd⟩
end Go.Proofs.Ythepgolhpllpbaa.PFnExactTableOk
