/- The plain statement of FnExactRows, and that it gives the call: no condition. -/
import Derived.Test.YthepgolhpllpbaaPFnExactRowsx3
set_option linter.unusedVariables false
namespace Go.Proofs.Ythepgolhpllpbaa.PFnExactRows
open Go.RowKit Go.Proofs.Ythepgolhpllpbaa.PFnExactRows Go.Proofs.YthepgolhpllpbaaW.PrintWords Go.Proofs.YthepgolhpllpbaaW.PrintLast Go.Proofs.YthepgolhpllpbaaW.PrintMore
def laws_FnExactRows.Pure : Prop := ∀ (l0 : List S72), l0.length ≤ 9223372036854775807 → l0.length * 24 ≤ 140737488351232 → (∀ x ∈ l0, (Lit.int .i64 x.f1).wf = true ∧ (Lit.int .i64 x.f2).wf = true) → ∃ k, laws_FnExactRows.f k l0 = some true
theorem laws_FnExactRows.walk (P : laws_FnExactRows.Pure) (A0 : Option Addr) (c0 : Nat) (l0 : List S72) (w : World) (hr0 : Kd.C k72 w A0 l0.length l0) (hc0 : l0.length ≤ c0) (q0_0 : l0.length ≤ 9223372036854775807) (q0_1 : l0.length * 24 ≤ 140737488351232) (q0_2 : (∀ x ∈ l0, (Lit.int .i64 x.f1).wf = true ∧ (Lit.int .i64 x.f2).wf = true)) :
    Calls Try.prog 12 #[.slice A0 l0.length c0] w fun e w' => e = .returned (.bool true) ∧ Below w.heap.size w w' := by
  obtain ⟨k, h⟩ := P l0 q0_0 q0_1 q0_2
  refine (laws_FnExactRows.calls k A0 c0 l0 true w hr0 hc0 h).mono ?_
  rintro e w' ⟨rfl, hd⟩
  exact ⟨rfl, hd⟩
end Go.Proofs.Ythepgolhpllpbaa.PFnExactRows
