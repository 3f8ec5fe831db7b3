/- The row of FnExactCanon: for every input it returns true and the input reads as before; no condition. -/
import Derived.Test.YtkpipmojkhikaaaRows
import Derived.Test.YtkpipmojkhikaaaWalkFnExactCanon
import Derived.Test.YtkpipmojkhikaaaPureFnExactCanon
import Derived.Test.YtkpipmojkhikaaaStructs
import Derived.WalkKit
import Derived.ProofKit
import Derived.OpenShut
import Derived.ShutString
import Derived.ChangeOld
import Derived.Below
import Derived.SizedLaws
import Derived.Lib.SmallJoins
set_option linter.unusedVariables false
set_option linter.unusedSimpArgs false
namespace Go.Proofs.Ytkpipmojkhikaaa.fnExactCanon
open Go.Joins Go.ChangeShapes Go.WideShapes Go.ChangeAt
open Go.RowKit Go.Proofs.Ytkpipmojkhikaaa.PAll Go.Proofs.YtkpipmojkhikaaaW.PrintWords Go.Proofs.YtkpipmojkhikaaaW.PrintLast Go.Proofs.YtkpipmojkhikaaaW.PrintMore
open Go.ChangeMaps (open_string shut_string)
theorem own : ownKnob Try.prog.godebug = none := by kernel_rfl
theorem laidOut : laidOutB Try.prog = true := by kernel_rfl
def IsRow (k : IntKind) (w : World) (a : Option Addr) (len cap : Nat) (zs : List Int) : Prop :=
  (a = none ∧ len = 0 ∧ cap = 0 ∧ zs = []) ∨
  ∃ x, a = some x ∧ len ≤ cap ∧ cap ≤ maxLen ∧ zs.length = cap ∧ (∀ i, i < zs.length → w.cell? (x.add i) = some (.int k (zs.getD i 0))) ∧ ∀ n ∈ zs, (Lit.int k n).wf = true
set_option maxRecDepth 100000 in
theorem lifted (os : Os) (started : os.Started) (H : Type) (enc : TypeId × Value → H) :
    ReturnsInHanded {} Try.checked os 7 .any (Rows.fnExactCanonSpec.pre6 enc Try.prog Try.f7 Rows.fnExactCanonRow.domain false) (Rows.fnExactCanonSpec.post enc Try.prog Try.f7 false true false false) := by
  refine returnsInHanded_of_change_sized (C := Try.checked) own started (by kernel_rfl) Try.func7
    (ChangeSpec.witness6 (enc := enc) (C := Try.checked) false ⟨#[], #[.slice none 0 0], []⟩ 8 (by kernel_rfl) (by kernel_rfl) (by kernel_rfl) (by kernel_rfl)) ?_
  intro W base args ds gs before hval0 hW hcnd hsz0 _
  have hsz : (DataW.weightsEach Try.prog (Try.f7.params.toList ++ Rows.fnExactCanonSpec.plain.varTypes Try.prog) (ds ++ gs)).all (· ≤ reachBytes) = true := hsz0
  have hval : ∀ (j : Nat) t v, Try.f7.params[j]? = some t → args[j]? = some v → Value.okWide Try.prog W .any base t v := hval0
  have hW' := hW
  obtain ⟨p, q, hA0, hV, rfl, hfz, hnd⟩ := hW
  have hA : DataW.TrodAll enc Try.prog W 0 (fun _ => true) true Try.f7.params.toList args.toList ds p := hA0
  rw [Try.params7] at hA hval hsz
  obtain ⟨v0, vs0, d0, ds0, p0, q0, hargs, rfl, rfl, h0, r0⟩ := trodAll_cons hA
  obtain ⟨rfl, rfl, rfl⟩ := trodAll_nil r0
  obtain rfl : args = #[v0] := by cases args; simp_all
  obtain ⟨rfl, rfl⟩ := trodVars_none hV
  obtain ⟨A0, len0, c0, rfl⟩ := okWide_slice Try.underlying37 (hval 0 37 v0 rfl rfl)
  have k0 := h0
  have lt0 : ∀ x ∈ p0, x.block < W.heap.size := by obtain ⟨m, hm⟩ := k0; exact DataW.trod_lt m _ _ _ hm
  obtain ⟨l0, hl0, hr0, hc0, hm0, hg0⟩ : ∃ l : List S75, l.length = len0 ∧ Kd.C k75 W A0 l.length l ∧ len0 ≤ c0 ∧ c0 ≤ maxLen ∧ ∀ x ∈ l, (fun x : S75 => (Lit.int .i64 x.f0).wf = true ∧ (Lit.int .i64 x.f1).wf = true ∧ (Lit.int .i64 x.f2).wf = true ∧ (Lit.int .i64 x.f3).wf = true ∧ (Lit.int .i64 x.f4).wf = true ∧ (Lit.int .i64 x.f5).wf = true) x :=
    Structs.rows_of z75 Try.underlying37 Try.underlying75 (by kernel_rfl) (by kernel_rfl) rfl (by
            intro n V hV
            obtain ⟨y0, hy0⟩ := hV 0 _ rfl
            obtain ⟨y1, hy1⟩ := hV 1 _ rfl
            obtain ⟨y2, hy2⟩ := hV 2 _ rfl
            obtain ⟨y3, hy3⟩ := hV 3 _ rfl
            obtain ⟨y4, hy4⟩ := hV 4 _ rfl
            obtain ⟨y5, hy5⟩ := hV 5 _ rfl
            obtain ⟨x0, e0, _, w0⟩ := DataW.trod_int Try.underlying3 hy0
            replace e0 : V 0 = .int .i64 x0 := (List.cons.inj e0).1
            obtain ⟨x1, e1, _, w1⟩ := DataW.trod_int Try.underlying3 hy1
            replace e1 : V 1 = .int .i64 x1 := (List.cons.inj e1).1
            obtain ⟨x2, e2, _, w2⟩ := DataW.trod_int Try.underlying3 hy2
            replace e2 : V 2 = .int .i64 x2 := (List.cons.inj e2).1
            obtain ⟨x3, e3, _, w3⟩ := DataW.trod_int Try.underlying3 hy3
            replace e3 : V 3 = .int .i64 x3 := (List.cons.inj e3).1
            obtain ⟨x4, e4, _, w4⟩ := DataW.trod_int Try.underlying3 hy4
            replace e4 : V 4 = .int .i64 x4 := (List.cons.inj e4).1
            obtain ⟨x5, e5, _, w5⟩ := DataW.trod_int Try.underlying3 hy5
            replace e5 : V 5 = .int .i64 x5 := (List.cons.inj e5).1
            refine ⟨⟨x0, x1, x2, x3, x4, x5⟩, ?_, ⟨w0, w1, w2, w3, w4, w5⟩⟩
            show Kd.K k75 W _ [V 0, V 1, V 2, V 3, V 4, V 5]
            rw [e0, e1, e2, e3, e4, e5]
            exact k75_mk W _) h0
  have q0_1 : len0 * 48 ≤ 140737488351232 := Structs.sized_rows hsz (j := 0) (t := 37) rfl rfl Try.underlying37 Try.underlying75 (by kernel_rfl) (by kernel_rfl) (by kernel_rfl) h0
  subst hl0
  have q0_0 : l0.length ≤ 9223372036854775807 := by simp only [maxLen] at hm0; omega
  have q0_2 := hg0
  clear hA0 hval0 hsz0 hsz
  refine (PAll.laws_FnExactCanon.walk Pure.FnExactCanon A0 c0 l0 W hr0 hc0 q0_0 q0_1 q0_2).mono fun e W' ⟨he, bel⟩ => ?_
  subst he
  exact ⟨_, rfl, _, _, _, [], _, [], hW', trodAll_mk1 (shut_bool Try.underlying4 _), (trodAll_cons_mk (Below.trod laidOut (by kernel_rfl) (of_decide_eq_true (by kernel_rfl)) k0 bel lt0) trodAll_mk0), rfl, bel.frame _, fun h => by cases h⟩
theorem over : Rows.fnExactCanonRow.holds Try.pinned (OpenSpec.ofChange Rows.fnExactCanonSpec) :=
  OpenClaim.holds_of_wide 7 Try.f7 rfl rfl rfl rfl rfl rfl rfl ⟨rfl, rfl, rfl, rfl, rfl⟩ rfl rfl rfl rfl rfl (by kernel_rfl) Try.func7 (by kernel_rfl)
    (of_decide_eq_true (by kernel_rfl)) (by unfold Func.isWrapper; first | (rw [if_pos (by decide +kernel)]; kernel_rfl) | (rw [if_neg (by decide +kernel)]; exact ⟨rfl, rfl⟩))
    (fun os started H enc _ => lifted os started H enc)
theorem proved : Rows.FnExactCanonSaid := over
#print axioms proved
end Go.Proofs.Ytkpipmojkhikaaa.fnExactCanon
namespace Go.Proofs.Ytkpipmojkhikaaa
/-- The row, under a short name, for the claim. -/
theorem fnExactCanon_holds : Rows.FnExactCanonSaid := fnExactCanon.proved
end Go.Proofs.Ytkpipmojkhikaaa
