/- The plain statement of FnExactValue, and that it gives the call: no condition. -/
import Derived.Test.YtkpipmojkhikaaaVExactValue0
import Derived.Test.YtkpipmojkhikaaaVExactValue1
import Derived.Test.YtkpipmojkhikaaaVExactValue2
import Derived.Test.YtkpipmojkhikaaaVExactValue3
import Derived.Test.YtkpipmojkhikaaaVExactValue4
import Derived.Test.YtkpipmojkhikaaaVExactValue5
set_option linter.unusedVariables false
namespace Go.Proofs.Ytkpipmojkhikaaa.PAll
open Go.RowKit Go.Proofs.Ytkpipmojkhikaaa.PAll Go.Proofs.YtkpipmojkhikaaaW.PrintWords Go.Proofs.YtkpipmojkhikaaaW.PrintLast Go.Proofs.YtkpipmojkhikaaaW.PrintMore
def laws_FnExactValue.Pure : Prop := ∀ (l0 : List S75) (l1 : List Int), l0.length ≤ 9223372036854775807 → l0.length * 48 ≤ 140737488351232 → (∀ x ∈ l0, (Lit.int .i64 x.f0).wf = true ∧ (Lit.int .i64 x.f1).wf = true ∧ (Lit.int .i64 x.f2).wf = true ∧ (Lit.int .i64 x.f3).wf = true ∧ (Lit.int .i64 x.f4).wf = true ∧ (Lit.int .i64 x.f5).wf = true) → l1.length ≤ maxLen → l1.length * 8 ≤ 140737488351232 → (∀ x ∈ l1, (Lit.int .i64 x).wf = true) → ∃ k, laws_FnExactValue.f k l0 l1 = some true
theorem laws_FnExactValue.walk (P : laws_FnExactValue.Pure) (A0 : Option Addr) (c0 : Nat) (l0 : List S75) (A1 : Option Addr) (c1 : Nat) (l1 : List Int) (w : World) (hr0 : Kd.C k75 w A0 l0.length l0) (hc0 : l0.length ≤ c0) (q0_0 : l0.length ≤ 9223372036854775807) (q0_1 : l0.length * 48 ≤ 140737488351232) (q0_2 : (∀ x ∈ l0, (Lit.int .i64 x.f0).wf = true ∧ (Lit.int .i64 x.f1).wf = true ∧ (Lit.int .i64 x.f2).wf = true ∧ (Lit.int .i64 x.f3).wf = true ∧ (Lit.int .i64 x.f4).wf = true ∧ (Lit.int .i64 x.f5).wf = true)) (hr1 : ReadsInt w .i64 A1 l1.length l1) (hc1 : l1.length ≤ c1) (q1_0 : l1.length ≤ maxLen) (q1_1 : l1.length * 8 ≤ 140737488351232) (q1_2 : (∀ x ∈ l1, (Lit.int .i64 x).wf = true)) :
    Calls Try.prog 6 #[.slice A0 l0.length c0, .slice A1 l1.length c1] w fun e w' => e = .returned (.bool true) ∧ Below w.heap.size w w' := by
  obtain ⟨k, h⟩ := P l0 l1 q0_0 q0_1 q0_2 q1_0 q1_1 q1_2
  refine (laws_FnExactValue.calls k A0 c0 l0 A1 c1 l1 true w hr0 hc0 (Kd.C_of_reads (d := (0 : Int)) (h1 := fun _ => rfl) hr1) hc1 h).mono ?_
  rintro e w' ⟨rfl, hd⟩
  exact ⟨rfl, hd⟩
end Go.Proofs.Ytkpipmojkhikaaa.PAll
