/- The plain statement of FnExactBack, and that it gives the call: no condition. -/
import Derived.Test.YtdebihfmceclkaaPFnExactBackx17
set_option linter.unusedVariables false
namespace Go.Proofs.Ytdebihfmceclkaa.PFnExactBack
open Go.RowKit Go.Proofs.Ytdebihfmceclkaa.PFnExactBack Go.Proofs.YtdebihfmceclkaaW.PrintWords Go.Proofs.YtdebihfmceclkaaW.PrintLast Go.Proofs.YtdebihfmceclkaaW.PrintMore
def laws_FnExactBack.Pure : Prop := ∀ (l0 : List S78) (l1 : List S34), l0.length ≤ 9223372036854775807 → l0.length * 24 ≤ 140737488351232 → (∀ x ∈ l0, (Lit.int .i64 x.f1).wf = true ∧ (Lit.int .i64 x.f2).wf = true) → l1.length ≤ 9223372036854775807 → l1.length * 48 ≤ 140737488351232 → (∀ x ∈ l1, (Lit.int .i64 x.f0).wf = true ∧ (Lit.int .i64 x.f1).wf = true ∧ (Lit.int .i64 x.f2).wf = true ∧ (Lit.int .i64 x.f3).wf = true ∧ (Lit.int .i64 x.f4).wf = true ∧ (Lit.int .i64 x.f5).wf = true) → ∃ k, laws_FnExactBack.f k l0 l1 = some true
theorem laws_FnExactBack.walk (P : laws_FnExactBack.Pure) (A0 : Option Addr) (c0 : Nat) (l0 : List S78) (A1 : Option Addr) (c1 : Nat) (l1 : List S34) (w : World) (hr0 : Kd.C k78 w A0 l0.length l0) (hc0 : l0.length ≤ c0) (q0_0 : l0.length ≤ 9223372036854775807) (q0_1 : l0.length * 24 ≤ 140737488351232) (q0_2 : (∀ x ∈ l0, (Lit.int .i64 x.f1).wf = true ∧ (Lit.int .i64 x.f2).wf = true)) (hr1 : Kd.C k34 w A1 l1.length l1) (hc1 : l1.length ≤ c1) (q1_0 : l1.length ≤ 9223372036854775807) (q1_1 : l1.length * 48 ≤ 140737488351232) (q1_2 : (∀ x ∈ l1, (Lit.int .i64 x.f0).wf = true ∧ (Lit.int .i64 x.f1).wf = true ∧ (Lit.int .i64 x.f2).wf = true ∧ (Lit.int .i64 x.f3).wf = true ∧ (Lit.int .i64 x.f4).wf = true ∧ (Lit.int .i64 x.f5).wf = true)) :
    Calls Try.prog 10 #[.slice A0 l0.length c0, .slice A1 l1.length c1] w fun e w' => e = .returned (.bool true) ∧ Below w.heap.size w w' := by
  obtain ⟨k, h⟩ := P l0 l1 q0_0 q0_1 q0_2 q1_0 q1_1 q1_2
  refine (laws_FnExactBack.calls k A0 c0 l0 A1 c1 l1 true w hr0 hc0 hr1 hc1 h).mono ?_
  rintro e w' ⟨rfl, hd⟩
  exact ⟨rfl, hd⟩
end Go.Proofs.Ytdebihfmceclkaa.PFnExactBack
