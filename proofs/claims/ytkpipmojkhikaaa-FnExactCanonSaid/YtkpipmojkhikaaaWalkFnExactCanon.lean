/- The plain statement of FnExactCanon, and that it gives the call: no condition. -/
import Derived.Test.YtkpipmojkhikaaaVExactCanon0
import Derived.Test.YtkpipmojkhikaaaVExactCanon1
import Derived.Test.YtkpipmojkhikaaaVExactCanon2
import Derived.Test.YtkpipmojkhikaaaVExactCanon3
import Derived.Test.YtkpipmojkhikaaaVExactCanon4
import Derived.Test.YtkpipmojkhikaaaVExactCanon5
import Derived.Test.YtkpipmojkhikaaaVExactCanon6
import Derived.Test.YtkpipmojkhikaaaVExactCanon7
import Derived.Test.YtkpipmojkhikaaaVExactCanon8
import Derived.Test.YtkpipmojkhikaaaVExactCanon9
import Derived.Test.YtkpipmojkhikaaaVExactCanon10
import Derived.Test.YtkpipmojkhikaaaVExactCanon11
import Derived.Test.YtkpipmojkhikaaaVExactCanon12
import Derived.Test.YtkpipmojkhikaaaVExactCanon13
import Derived.Test.YtkpipmojkhikaaaVExactCanon14
import Derived.Test.YtkpipmojkhikaaaVExactCanon15
import Derived.Test.YtkpipmojkhikaaaVExactCanon16
import Derived.Test.YtkpipmojkhikaaaVExactCanon17
set_option linter.unusedVariables false
namespace Go.Proofs.Ytkpipmojkhikaaa.PAll
open Go.RowKit Go.Proofs.Ytkpipmojkhikaaa.PAll Go.Proofs.YtkpipmojkhikaaaW.PrintWords Go.Proofs.YtkpipmojkhikaaaW.PrintLast Go.Proofs.YtkpipmojkhikaaaW.PrintMore
def laws_FnExactCanon.Pure : Prop := ∀ (l0 : List S75), l0.length ≤ 9223372036854775807 → l0.length * 48 ≤ 140737488351232 → (∀ x ∈ l0, (Lit.int .i64 x.f0).wf = true ∧ (Lit.int .i64 x.f1).wf = true ∧ (Lit.int .i64 x.f2).wf = true ∧ (Lit.int .i64 x.f3).wf = true ∧ (Lit.int .i64 x.f4).wf = true ∧ (Lit.int .i64 x.f5).wf = true) → ∃ k, laws_FnExactCanon.f k l0 = some true
theorem laws_FnExactCanon.walk (P : laws_FnExactCanon.Pure) (A0 : Option Addr) (c0 : Nat) (l0 : List S75) (w : World) (hr0 : Kd.C k75 w A0 l0.length l0) (hc0 : l0.length ≤ c0) (q0_0 : l0.length ≤ 9223372036854775807) (q0_1 : l0.length * 48 ≤ 140737488351232) (q0_2 : (∀ x ∈ l0, (Lit.int .i64 x.f0).wf = true ∧ (Lit.int .i64 x.f1).wf = true ∧ (Lit.int .i64 x.f2).wf = true ∧ (Lit.int .i64 x.f3).wf = true ∧ (Lit.int .i64 x.f4).wf = true ∧ (Lit.int .i64 x.f5).wf = true)) :
    Calls Try.prog 7 #[.slice A0 l0.length c0] w fun e w' => e = .returned (.bool true) ∧ Below w.heap.size w w' := by
  obtain ⟨k, h⟩ := P l0 q0_0 q0_1 q0_2
  refine (laws_FnExactCanon.calls k A0 c0 l0 true w hr0 hc0 h).mono ?_
  rintro e w' ⟨rfl, hd⟩
  exact ⟨rfl, hd⟩
end Go.Proofs.Ytkpipmojkhikaaa.PAll
