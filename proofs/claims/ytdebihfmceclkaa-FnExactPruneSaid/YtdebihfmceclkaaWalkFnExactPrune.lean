/- The plain statement of FnExactPrune, and that it gives the call: no condition. -/
import Derived.Test.YtdebihfmceclkaaPAllx21
set_option linter.unusedVariables false
namespace Go.Proofs.Ytdebihfmceclkaa.PAll
open Go.RowKit Go.Proofs.Ytdebihfmceclkaa.PAll Go.Proofs.YtdebihfmceclkaaW.PrintWords Go.Proofs.YtdebihfmceclkaaW.PrintLast Go.Proofs.YtdebihfmceclkaaW.PrintMore
def laws_FnExactPrune.Pure : Prop := ∀ (l0 : List S34), l0.length ≤ 9223372036854775807 → l0.length * 48 ≤ 140737488351232 → (∀ x ∈ l0, (Lit.int .i64 x.f0).wf = true ∧ (Lit.int .i64 x.f1).wf = true ∧ (Lit.int .i64 x.f2).wf = true ∧ (Lit.int .i64 x.f3).wf = true ∧ (Lit.int .i64 x.f4).wf = true ∧ (Lit.int .i64 x.f5).wf = true) → ∃ k, laws_FnExactPrune.f k l0 = some true
theorem laws_FnExactPrune.walk (P : laws_FnExactPrune.Pure) (A0 : Option Addr) (c0 : Nat) (l0 : List S34) (w : World) (hr0 : Kd.C k34 w A0 l0.length l0) (hc0 : l0.length ≤ c0) (q0_0 : l0.length ≤ 9223372036854775807) (q0_1 : l0.length * 48 ≤ 140737488351232) (q0_2 : (∀ x ∈ l0, (Lit.int .i64 x.f0).wf = true ∧ (Lit.int .i64 x.f1).wf = true ∧ (Lit.int .i64 x.f2).wf = true ∧ (Lit.int .i64 x.f3).wf = true ∧ (Lit.int .i64 x.f4).wf = true ∧ (Lit.int .i64 x.f5).wf = true)) :
    Calls Try.prog 9 #[.slice A0 l0.length c0] w fun e w' => e = .returned (.bool true) ∧ Below w.heap.size w w' := by
  obtain ⟨k, h⟩ := P l0 q0_0 q0_1 q0_2
  refine (laws_FnExactPrune.calls k A0 c0 l0 true w hr0 hc0 h).mono ?_
  rintro e w' ⟨rfl, hd⟩
  exact ⟨rfl, hd⟩
end Go.Proofs.Ytdebihfmceclkaa.PAll
