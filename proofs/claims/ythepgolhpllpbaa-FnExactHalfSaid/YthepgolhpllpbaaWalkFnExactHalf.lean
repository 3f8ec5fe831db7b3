/- The plain statement of FnExactHalf, and that it gives the call: no condition. -/
import Derived.Test.YthepgolhpllpbaaPFnExactHalfx2
set_option linter.unusedVariables false
namespace Go.Proofs.Ythepgolhpllpbaa.PFnExactHalf
open Go.RowKit Go.Proofs.Ythepgolhpllpbaa.PFnExactHalf Go.Proofs.YthepgolhpllpbaaW.PrintWords Go.Proofs.YthepgolhpllpbaaW.PrintLast Go.Proofs.YthepgolhpllpbaaW.PrintMore
def laws_FnExactHalf.Pure : Prop := ∀ (a0_0 : Int) (a0_1 : ByteArray) (a1 : Int), (Lit.int .i64 a0_0).wf = true → a0_1.size ≤ 9223372036854775807 → (Lit.int .i64 a1).wf = true → ∃ k, laws_FnExactHalf.f k a0_0 a0_1 a1 = some true
theorem laws_FnExactHalf.walk (P : laws_FnExactHalf.Pure) (a0_0 : Int) (a0_1 : ByteArray) (a1 : Int) (w : World) (w0_0 : (Lit.int .i64 a0_0).wf = true) (w0_1 : a0_1.size ≤ 9223372036854775807) (w1 : (Lit.int .i64 a1).wf = true) :
    Calls Try.prog 9 #[.agg #[.int .i64 a0_0, .string a0_1], .int .i64 a1] w fun e w' => e = .returned (.bool true) ∧ Below w.heap.size w w' := by
  obtain ⟨k, h⟩ := P a0_0 a0_1 a1 w0_0 w0_1 w1
  refine (laws_FnExactHalf.calls k a0_0 a0_1 a1 true w  h).mono ?_
  rintro e w' ⟨rfl, hd⟩
  exact ⟨rfl, hd⟩
end Go.Proofs.Ythepgolhpllpbaa.PFnExactHalf
