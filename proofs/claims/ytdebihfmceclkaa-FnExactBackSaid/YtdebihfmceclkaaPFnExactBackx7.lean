/- Written by a program of this session over the loaded program: Go functions as plain Lean functions, and that a call comes to what they say. -/
import Derived.Test.YtdebihfmceclkaaPFnExactBackx0
import Derived.Test.YtdebihfmceclkaaPFnExactBackx4
import Derived.Test.YtdebihfmceclkaaPFnExactBackx6
import Derived.Test.YtdebihfmceclkaaSq
namespace Go.Proofs.Ytdebihfmceclkaa.PFnExactBack
open Go.RowKit Go.Proofs.YtdebihfmceclkaaW.PrintWords Go.Proofs.YtdebihfmceclkaaW.PrintLast Go.Proofs.YtdebihfmceclkaaW.PrintMore Go.Proofs.YtdebihfmceclkaaW.Sq
attribute [local go_sem] max2_int min2_int max_two min_two max_three min_three max_four min_four   -- for this text's walks alone
set_option linter.unusedVariables false
set_option linter.unusedSimpArgs false

@[reducible] def zA0x7 : Array Bool := #[false, false, false, false, false, false, false, false, false, false, false, false, false]
@[reducible] def zA1x7 : Array Bool := #[true, false, false, false, false, false, false, false, false, false, false, false, false]
@[reducible] def zA2x7 : Array Bool := #[true, true, false, false, false, false, false, false, false, false, false, false, false]
@[reducible] def zA3x7 : Array Bool := #[true, true, true, false, false, false, false, false, false, false, false, false, false]
@[reducible] def zA4x7 : Array Bool := #[true, true, true, true, false, false, false, false, false, false, false, false, false]
@[reducible] def zA5x7 : Array Bool := #[true, true, true, true, true, false, false, false, false, false, false, false, false]
@[reducible] def zA6x7 : Array Bool := #[true, true, true, true, true, false, true, false, false, false, false, false, false]
@[reducible] def zA7x7 : Array Bool := #[true, true, true, true, true, false, true, true, false, false, false, false, false]
@[reducible] def zA8x7 : Array Bool := #[true, true, true, true, true, false, true, true, true, false, false, false, false]
@[reducible] def zA9x7 : Array Bool := #[true, true, true, true, true, false, true, true, true, true, false, false, false]
@[reducible] def zA10x7 : Array Bool := #[true, true, true, true, true, true, true, true, true, true, false, false, false]
@[reducible] def zA11x7 : Array Bool := #[true, true, true, true, true, true, true, true, true, true, true, false, false]
@[reducible] def zA12x7 : Array Bool := #[true, true, true, true, true, true, true, true, true, true, true, true, false]
@[reducible] def zA13x7 : Array Bool := #[true, true, true, true, true, true, true, true, true, true, true, true, true]
@[reducible] def zA14x7 : Array Bool := #[false, false, false, false, false, false, false, false, false, false, false, false, false, false, false, false, false, false, false, false, false, false, false, false, false, false, false, false, false, false, false, false, false, false, false, false]
@[reducible] def zA15x7 : Array Bool := #[true, false, false, false, false, false, false, false, false, false, false, false, false, false, false, false, false, false, false, false, false, false, false, false, false, false, false, false, false, false, false, false, false, false, false, false]
@[reducible] def zA16x7 : Array Bool := #[true, true, false, false, false, false, false, false, false, false, false, false, false, false, false, false, false, false, false, false, false, false, false, false, false, false, false, false, false, false, false, false, false, false, false, false]
@[reducible] def zA17x7 : Array Bool := #[true, true, true, false, false, false, false, false, false, false, false, false, false, false, false, false, false, false, false, false, false, false, false, false, false, false, false, false, false, false, false, false, false, false, false, false]
@[reducible] def zA18x7 : Array Bool := #[true, true, true, true, false, false, false, false, false, false, false, false, false, false, false, false, false, false, false, false, false, false, false, false, false, false, false, false, false, false, false, false, false, false, false, false]
@[reducible] def zA19x7 : Array Bool := #[true, true, true, true, true, false, false, false, false, false, false, false, false, false, false, false, false, false, false, false, false, false, false, false, false, false, false, false, false, false, false, false, false, false, false, false]
@[reducible] def zA20x7 : Array Bool := #[true, true, true, true, true, true, false, false, false, false, false, false, false, false, false, false, false, false, false, false, false, false, false, false, false, false, false, false, false, false, false, false, false, false, false, false]
@[reducible] def zA21x7 : Array Bool := #[true, true, true, true, true, true, true, false, false, false, false, false, false, false, false, false, false, false, false, false, false, false, false, false, false, false, false, false, false, false, false, false, false, false, false, false]
@[reducible] def zA22x7 : Array Bool := #[true, true, true, true, true, true, true, true, false, false, false, false, false, false, false, false, false, false, false, false, false, false, false, false, false, false, false, false, false, false, false, false, false, false, false, false]
@[reducible] def zA23x7 : Array Bool := #[true, true, true, true, true, true, true, true, true, false, false, false, false, false, false, false, false, false, false, false, false, false, false, false, false, false, false, false, false, false, false, false, false, false, false, false]
@[reducible] def zA24x7 : Array Bool := #[true, true, true, true, true, true, true, true, true, true, false, false, false, false, false, false, false, false, false, false, false, false, false, false, false, false, false, false, false, false, false, false, false, false, false, false]
@[reducible] def zA25x7 : Array Bool := #[true, true, true, true, true, true, true, true, true, true, true, false, false, false, false, false, false, false, false, false, false, false, false, false, false, false, false, false, false, false, false, false, false, false, false, false]
@[reducible] def zA26x7 : Array Bool := #[true, true, true, true, true, true, true, true, true, true, true, true, false, false, false, false, false, false, false, false, false, false, false, false, false, false, false, false, false, false, false, false, false, false, false, false]
@[reducible] def zA27x7 : Array Bool := #[true, true, true, true, true, true, true, true, true, true, true, true, true, false, false, false, false, false, false, false, false, false, false, false, false, false, false, false, false, false, false, false, false, false, false, false]
@[reducible] def zA28x7 : Array Bool := #[true, true, true, true, true, true, true, true, true, true, true, true, true, true, false, false, false, false, false, false, false, false, false, false, false, false, false, false, false, false, false, false, false, false, false, false]
@[reducible] def zA29x7 : Array Bool := #[true, true, true, true, true, true, true, true, true, true, true, true, true, true, true, false, false, false, false, false, false, false, false, false, false, false, false, false, false, false, false, false, false, false, false, false]
@[reducible] def zA30x7 : Array Bool := #[true, true, true, true, true, true, true, true, true, true, true, true, true, true, true, true, false, false, false, false, false, false, false, false, false, false, false, false, false, false, false, false, false, false, false, false]
@[reducible] def zA31x7 : Array Bool := #[true, true, true, true, true, true, true, true, true, true, true, true, true, true, true, true, true, false, false, false, false, false, false, false, false, false, false, false, false, false, false, false, false, false, false, false]
@[reducible] def zA32x7 : Array Bool := #[true, true, true, true, true, true, true, true, true, true, true, true, true, true, true, true, true, true, false, false, false, false, false, false, false, false, false, false, false, false, false, false, false, false, false, false]
@[reducible] def zA33x7 : Array Bool := #[true, true, true, true, true, true, true, true, true, true, true, true, true, true, true, true, true, true, true, false, false, false, false, false, false, false, false, false, false, false, false, false, false, false, false, false]
@[reducible] def zA34x7 : Array Bool := #[true, true, true, true, true, true, true, true, true, true, true, true, true, true, true, true, true, true, true, true, false, false, false, false, false, false, false, false, false, false, false, false, false, false, false, false]
@[reducible] def zA35x7 : Array Bool := #[true, true, true, true, true, true, true, true, true, true, true, true, true, true, true, true, true, true, true, true, true, false, false, false, false, false, false, false, false, false, false, false, false, false, false, false]
@[reducible] def zA36x7 : Array Bool := #[true, true, true, true, true, true, true, true, true, true, true, true, true, true, true, true, true, true, true, true, true, true, false, false, false, false, false, false, false, false, false, false, false, false, false, false]
@[reducible] def zA37x7 : Array Bool := #[true, true, true, true, true, true, true, true, true, true, true, true, true, true, true, true, true, true, true, true, true, true, true, false, false, false, false, false, false, false, false, false, false, false, false, false]
@[reducible] def zA38x7 : Array Bool := #[true, true, true, true, true, true, true, true, true, true, true, true, true, true, true, true, true, true, true, true, true, true, true, true, false, false, false, false, false, false, false, false, false, false, false, false]
@[reducible] def zA39x7 : Array Bool := #[true, true, true, true, true, true, true, true, true, true, true, true, true, true, true, true, true, true, true, true, true, true, true, true, true, false, false, false, false, false, false, false, false, false, false, false]
@[reducible] def zA40x7 : Array Bool := #[true, true, true, true, true, true, true, true, true, true, true, true, true, true, true, true, true, true, true, true, true, true, true, true, true, true, false, false, false, false, false, false, false, false, false, false]
@[reducible] def zA41x7 : Array Bool := #[true, true, true, true, true, true, true, true, true, true, true, true, true, true, true, true, true, true, true, true, true, true, true, true, true, true, true, false, false, false, false, false, false, false, false, false]
@[reducible] def zA42x7 : Array Bool := #[true, true, true, true, true, true, true, true, true, true, true, true, true, true, true, true, true, true, true, true, true, true, true, true, true, true, true, true, false, false, false, false, false, false, false, false]
@[reducible] def zA43x7 : Array Bool := #[true, true, true, true, true, true, true, true, true, true, true, true, true, true, true, true, true, true, true, true, true, true, true, true, true, true, true, true, true, false, false, false, false, false, false, false]
@[reducible] def zA44x7 : Array Bool := #[true, true, true, true, true, true, true, true, true, true, true, true, true, true, true, true, true, true, true, true, true, true, true, true, true, true, true, true, true, true, false, false, false, false, false, false]
@[reducible] def zA45x7 : Array Bool := #[true, true, true, true, true, true, true, true, true, true, true, true, true, true, true, true, true, true, true, true, true, true, true, true, true, true, true, true, true, true, true, false, false, false, false, false]
@[reducible] def zA46x7 : Array Bool := #[true, true, true, true, true, true, true, true, true, true, true, true, true, true, true, true, true, true, true, true, true, true, true, true, true, true, true, true, true, true, true, true, false, false, false, false]
@[reducible] def zA47x7 : Array Bool := #[true, true, true, true, true, true, true, true, true, true, true, true, true, true, true, true, true, true, true, true, true, true, true, true, true, true, true, true, true, true, true, true, true, false, false, false]
@[reducible] def zA48x7 : Array Bool := #[true, true, true, true, true, true, true, true, true, true, true, true, true, true, true, true, true, true, true, true, true, true, true, true, true, true, true, true, true, true, true, true, true, true, false, false]
@[reducible] def zA49x7 : Array Bool := #[true, true, true, true, true, true, true, true, true, true, true, true, true, true, true, true, true, true, true, true, true, true, true, true, true, true, true, true, true, true, true, true, true, true, true, false]
@[reducible] def zA50x7 : Array Bool := #[true, true, true, true, true, true, true, true, true, true, true, true, true, true, true, true, true, true, true, true, true, true, true, true, true, true, true, true, true, true, true, true, true, true, true, true]
@[reducible] def zA51x7 : Array Bool := #[true, true, true, true, true, true, true, true, true, true, true, true, true, true, true, true, true, true, true, true, true, true, true, true, true, false, false, false, true, false, false, false, false, false, false, false]
@[reducible] def zA52x7 : Array Bool := #[true, true, true, true, true, true, true, true, true, true, true, true, true, true, true, true, true, true, true, true, true, true, true, true, true, false, false, false, true, true, false, false, false, false, false, false]
@[reducible] def zA53x7 : Array Bool := #[true, true, true, true, true, true, true, true, true, true, true, true, true, true, true, true, true, true, true, true, true, true, true, true, true, false, false, false, true, true, true, false, false, false, false, false]
@[reducible] def zA54x7 : Array Bool := #[true, true, true, true, true, true, true, true, true, true, true, true, true, true, true, true, true, true, true, true, true, true, true, true, true, false, false, false, true, true, true, true, false, false, false, false]
@[reducible] def zA55x7 : Array Bool := #[true, true, true, true, true, true, true, true, true, true, true, true, true, true, true, true, true, true, true, true, true, true, true, true, true, true, false, false, true, true, true, true, false, false, false, false]
@[reducible] def zA56x7 : Array Bool := #[true, true, true, true, true, true, true, true, true, true, true, true, true, true, true, true, true, true, true, true, true, true, true, true, true, true, true, false, true, true, true, true, false, false, false, false]
/-! ### spec_FrontOk: function 32 -/
mutual
def spec_FrontOk.j0 : Nat → List (S76) → List (S36) → Bool → Option (Bool)
 | 0, _, _, _ => none
 | k + 1, x0, x1, x21 => if x21 = true then (some false) else ((spec_l04Zeros.f k).bind fun t222 => (spec_FrontOk.l0 k x0 x1 t222 0))
def spec_FrontOk.l0 : Nat → List (S76) → List (S36) → List Int → Int → Option (Bool)
 | 0, _, _, _, _ => none
 | k + 1, x0, x1, x5, x6 => if x6 < (x0.length : Int) then (if 0 ≤ x6 then ((spec_l01In.f ((rd_T76 x0 x6).f1) 0 7).bind fun t226 => (if t226 = true then ((spec_l01In.f ((rd_T76 x0 x6).f2) 1 8).bind fun t228 => (if t228 = true then (if 0 ≤ ((rd_T76 x0 x6).f1) then (if ((rd_T76 x0 x6).f1) < (x5.length : Int) then (if (rd x5 ((rd_T76 x0 x6).f1)) = 0 then (spec_FrontOk.l0 k x0 x1 (x5.set (((rd_T76 x0 x6).f1) : Int).toNat ((rd_T76 x0 x6).f2)) (wrap64 (x6 + 1))) else (some false)) else (none)) else (none)) else (some false))) else (some false))) else (none)) else ((spec_l02Reach.f k x1).bind fun t234 => (spec_FrontOk.l1 k x1 x5 t234 0))
def spec_FrontOk.l1 : Nat → List (S36) → List Int → List Bool → Int → Option (Bool)
 | 0, _, _, _, _ => none
 | k + 1, x1, x5, x7, x8 => if x8 < (x1.length : Int) then (if 0 ≤ x8 then ((spec_l02Quant.f ((rd_T36 x1 x8).f0)).bind fun t238 => (if t238 = true then (some false) else (if x8 < (x7.length : Int) then (if rdOf false x7 x8 = true then (if ((rd_T36 x1 x8).f0) = 1 then (if 0 ≤ ((rd_T36 x1 x8).f2) then (if ((rd_T36 x1 x8).f2) < (x5.length : Int) then (if (rd x5 ((rd_T36 x1 x8).f2)) = ((rd_T36 x1 x8).f1) then (spec_FrontOk.l1 k x1 x5 x7 (wrap64 (x8 + 1))) else (some false)) else (none)) else (none)) else (spec_FrontOk.l1 k x1 x5 x7 (wrap64 (x8 + 1)))) else (spec_FrontOk.l1 k x1 x5 x7 (wrap64 (x8 + 1)))) else (none)))) else (none)) else (some true)
end
def spec_FrontOk.f (k : Nat) (l0 : List (S76)) (l1 : List (S36)) : Option (Bool) := (spec_TermOk.f k l1).bind fun t220 => (if t220 = true then (if 0 ≤ (wrap64 ((l1.length : Int) - 1)) then (if (wrap64 ((l1.length : Int) - 1)) < (l1.length : Int) then (spec_FrontOk.j0 k l0 l1 (((rd_T36 l1 (wrap64 ((l1.length : Int) - 1))).f1) != 1)) else (none)) else (none)) else (spec_FrontOk.j0 k l0 l1 true))
theorem spec_FrontOk.mono_l : ∀ k, (∀ y0 y1 y2, LeO (spec_FrontOk.j0 k y0 y1 y2) (spec_FrontOk.j0 (k + 1) y0 y1 y2)) ∧ (∀ y0 y1 y2 y3, LeO (spec_FrontOk.l0 k y0 y1 y2 y3) (spec_FrontOk.l0 (k + 1) y0 y1 y2 y3)) ∧ (∀ y0 y1 y2 y3, LeO (spec_FrontOk.l1 k y0 y1 y2 y3) (spec_FrontOk.l1 (k + 1) y0 y1 y2 y3))
 | 0 => ⟨fun _ _ _ r h => by simp [spec_FrontOk.j0] at h, fun _ _ _ _ r h => by simp [spec_FrontOk.l0] at h, fun _ _ _ _ r h => by simp [spec_FrontOk.l1] at h⟩
 | k + 1 => by
  obtain ⟨ih0, ih1, ih2⟩ := spec_FrontOk.mono_l k
  refine ⟨?_, ?_, ?_⟩
  ·intro y0 y1 y2
   unfold spec_FrontOk.j0
   repeat' first
   | (with_reducible exact ih0 _ _ _)
   | (with_reducible exact ih1 _ _ _ _)
   | (with_reducible exact ih2 _ _ _ _)
   | (with_reducible exact spec_TermOk.mono _ _)
   | (with_reducible exact spec_l02Reach.mono _ _)
   | (with_reducible exact spec_l04Zeros.mono _)
   | (with_reducible exact LeO.refl _)
   | (with_reducible exact LeO.none _)
   | (with_reducible refine LeO.ite ?_ ?_)
   | (with_reducible refine LeO.bind ?_ (fun _ => ?_))
   | exact ih0 _ _ _
   | exact ih1 _ _ _ _
   | exact ih2 _ _ _ _
   | exact spec_TermOk.mono _ _
   | exact spec_l02Reach.mono _ _
   | exact spec_l04Zeros.mono _
   | exact LeO.none _
   | refine LeO.ite ?_ ?_
   | refine LeO.bind ?_ (fun _ => ?_)
  ·intro y0 y1 y2 y3
   unfold spec_FrontOk.l0
   repeat' first
   | (with_reducible exact ih0 _ _ _)
   | (with_reducible exact ih1 _ _ _ _)
   | (with_reducible exact ih2 _ _ _ _)
   | (with_reducible exact spec_TermOk.mono _ _)
   | (with_reducible exact spec_l02Reach.mono _ _)
   | (with_reducible exact spec_l04Zeros.mono _)
   | (with_reducible exact LeO.refl _)
   | (with_reducible exact LeO.none _)
   | (with_reducible refine LeO.ite ?_ ?_)
   | (with_reducible refine LeO.bind ?_ (fun _ => ?_))
   | exact ih0 _ _ _
   | exact ih1 _ _ _ _
   | exact ih2 _ _ _ _
   | exact spec_TermOk.mono _ _
   | exact spec_l02Reach.mono _ _
   | exact spec_l04Zeros.mono _
   | exact LeO.none _
   | refine LeO.ite ?_ ?_
   | refine LeO.bind ?_ (fun _ => ?_)
  ·intro y0 y1 y2 y3
   unfold spec_FrontOk.l1
   repeat' first
   | (with_reducible exact ih0 _ _ _)
   | (with_reducible exact ih1 _ _ _ _)
   | (with_reducible exact ih2 _ _ _ _)
   | (with_reducible exact spec_TermOk.mono _ _)
   | (with_reducible exact spec_l02Reach.mono _ _)
   | (with_reducible exact spec_l04Zeros.mono _)
   | (with_reducible exact LeO.refl _)
   | (with_reducible exact LeO.none _)
   | (with_reducible refine LeO.ite ?_ ?_)
   | (with_reducible refine LeO.bind ?_ (fun _ => ?_))
   | exact ih0 _ _ _
   | exact ih1 _ _ _ _
   | exact ih2 _ _ _ _
   | exact spec_TermOk.mono _ _
   | exact spec_l02Reach.mono _ _
   | exact spec_l04Zeros.mono _
   | exact LeO.none _
   | refine LeO.ite ?_ ?_
   | refine LeO.bind ?_ (fun _ => ?_)
theorem spec_FrontOk.mono : ∀ a0 a1 k, LeO (spec_FrontOk.f k a0 a1) (spec_FrontOk.f (k + 1) a0 a1) := by
 intro a0 a1 k
 obtain ⟨ih0, ih1, ih2⟩ := spec_FrontOk.mono_l k
 unfold spec_FrontOk.f
 repeat' first
   | (with_reducible exact ih0 _ _ _)
   | (with_reducible exact ih1 _ _ _ _)
   | (with_reducible exact ih2 _ _ _ _)
   | (with_reducible exact spec_TermOk.mono _ _)
   | (with_reducible exact spec_l02Reach.mono _ _)
   | (with_reducible exact spec_l04Zeros.mono _)
   | (with_reducible exact LeO.refl _)
   | (with_reducible exact LeO.none _)
   | (with_reducible refine LeO.ite ?_ ?_)
   | (with_reducible refine LeO.bind ?_ (fun _ => ?_))
   | exact ih0 _ _ _
   | exact ih1 _ _ _ _
   | exact ih2 _ _ _ _
   | exact spec_TermOk.mono _ _
   | exact spec_l02Reach.mono _ _
   | exact spec_l04Zeros.mono _
   | exact LeO.none _
   | refine LeO.ite ?_ ?_
   | refine LeO.bind ?_ (fun _ => ?_)
def spec_FrontOk.T9 : Bool × List (List Nat × List Nat) := (true, [([], []), ([], []), ([], []), ([1, 2], [1, 2]), ([3], [3]), ([4], [4]), ([], []), ([], []), ([6, 7], [6, 7]), ([8], [8]), ([9], [9]), ([0, 5, 0, 1, 2, 3, 4, 5, 6, 7, 8, 9, 10], [0, 5]), ([11, 10, 0, 1, 2, 3, 4, 5, 6, 7, 8, 9, 10], [10, 11])])
def spec_FrontOk.B9 : List Nat := [0, 0, 0, 6, 14, 30, 0, 0, 192, 448, 960, 2047, 4095]
theorem spec_FrontOk.tab9 : rtab .any (opsOf Try.f32 9) = spec_FrontOk.T9 := by kernel_rfl
theorem spec_FrontOk.bits9 : waitsOk spec_FrontOk.T9.2 spec_FrontOk.B9 = true := by kernel_rfl
def spec_FrontOk.T14 : Bool × List (List Nat × List Nat) := (true, [([], []), ([], []), ([0, 1], [0, 1]), ([2], [2]), ([3], [3]), ([4], [4]), ([5, 5], [5]), ([6], [6]), ([6], [6]), ([7, 8, 6], [6, 7, 8]), ([9, 6], [6, 9]), ([10, 6, 6], [6, 10]), ([11], [11]), ([11], [11]), ([12, 13, 11], [11, 12, 13]), ([14, 11], [11, 14]), ([15, 11], [11, 15]), ([16, 11], [11, 16]), ([11, 17, 6], [6, 11, 17]), ([18, 11, 6], [6, 18]), ([19], [19]), ([19], [19]), ([19], [19]), ([21, 22, 19], [19, 21, 22]), ([23, 19], [19, 23]), ([24, 19], [19, 24]), ([20, 25, 19], [19, 20, 25]), ([26, 19], [19, 26]), ([19], [19]), ([19], [19]), ([28, 29, 19], [19, 28, 29]), ([30, 19], [19, 30]), ([31, 19], [19, 31]), ([27, 32, 19], [19, 27, 32]), ([19, 33, 6], [6, 19, 33]), ([6, 34], [6, 34])])
def spec_FrontOk.B14 : List Nat := [0, 0, 3, 7, 15, 31, 63, 127, 127, 511, 1023, 2047, 4095, 4095, 16383, 32767, 65535, 131071, 262143, 524287, 1048575, 1048575, 1048575, 7340031, 15728639, 32505855, 67108863, 134217727, 1048575, 1048575, 806354943, 1880096767, 4027580415, 8589934591, 17179869183, 34359738367]
theorem spec_FrontOk.tab14 : rtab .any (opsOf Try.f32 14) = spec_FrontOk.T14 := by kernel_rfl
theorem spec_FrontOk.bits14 : waitsOk spec_FrontOk.T14.2 spec_FrontOk.B14 = true := by kernel_rfl
set_option maxHeartbeats 8000000 in
set_option maxRecDepth 100000 in
theorem spec_FrontOk.calls (k : Nat) (A0 : Option Addr) (c0 : Nat) (l0 : List (S76)) (A1 : Option Addr) (c1 : Nat) (l1 : List (S36)) (r : Bool) (w : World) (hr0 : Kd.C k76 w A0 l0.length l0) (hc0 : l0.length ≤ c0) (hr1 : Kd.C k36 w A1 l1.length l1) (hc1 : l1.length ≤ c1) (h : spec_FrontOk.f k l0 l1 = some r) :
  Calls Try.prog 32 #[.slice A0 l0.length c0, .slice A1 l1.length c1] w fun e w' => e = .returned (.bool r) ∧ Below w.heap.size w w' := by
 have HR0 := Aside0.mk hr0
 have HC0 := Aside0.mk hc0
 clear hr0 hc0
 have HR1 := Aside0.mk hr1
 have HC1 := Aside0.mk hc1
 clear hr1 hc1
 have HB := Aside0.mk (Below.refl w.heap.size w)
 have H : ((spec_TermOk.f k l1).bind fun t220 => (if t220 = true then (if 0 ≤ (wrap64 ((l1.length : Int) - 1)) then (if (wrap64 ((l1.length : Int) - 1)) < (l1.length : Int) then (spec_FrontOk.j0 k l0 l1 (((rd_T36 l1 (wrap64 ((l1.length : Int) - 1))).f1) != 1)) else (none)) else (none)) else (spec_FrontOk.j0 k l0 l1 true))) = some r := h
 clear h
 have HC3 := Aside0.mk H
 clear H
 go_enter Try.func32, Try.ntmps32
 go_upto_region 1 with (fail)
 go_cut [21] (fun v21 wc => ∃ (kq : Nat) (x21_2 : Bool), v21 = .bool x21_2 ∧ Aside0 (spec_FrontOk.j0 kq l0 l1 x21_2 = some r) ∧ Aside0 (kq ≤ k) ∧ Aside0 (Below w.heap.size w wc))
 case first =>
  have H := HC3.out
  clear HC3
  replace H := Option.bind_eq_some_iff.mp H
  obtain ⟨t220, A40, H⟩ := H
  replace H : (if t220 = true then (if 0 ≤ (wrap64 ((l1.length : Int) - 1)) then (if (wrap64 ((l1.length : Int) - 1)) < (l1.length : Int) then (spec_FrontOk.j0 k l0 l1 (((rd_T36 l1 (wrap64 ((l1.length : Int) - 1))).f1) != 1)) else (none)) else (none)) else (spec_FrontOk.j0 k l0 l1 true)) = some r := H
  have A4 := Aside0.mk A40
  clear A40
  by_cases c5 : t220 = true
  ·subst c5
   have H1 : (if 0 ≤ (wrap64 ((l1.length : Int) - 1)) then (if (wrap64 ((l1.length : Int) - 1)) < (l1.length : Int) then (spec_FrontOk.j0 k l0 l1 (((rd_T36 l1 (wrap64 ((l1.length : Int) - 1))).f1) != 1)) else (none)) else (none)) = some r := by rw [if_pos rfl] at H; exact H
   clear H
   have H := H1
   clear H1
   obtain ⟨ji6, hji6⟩ : ∃ j_ : Int, (wrap64 ((l1.length : Int) - 1)) = j_ := ⟨_, rfl⟩
   replace H : (if 0 ≤ (ji6) then (if (ji6) < (l1.length : Int) then (spec_FrontOk.j0 k l0 l1 (((rd_T36 l1 (ji6)).f1) != 1)) else (none)) else (none)) = some r := by (rw [hji6] at H; exact H)
   (try rw [hji6] at A4)
   have hji6w : (IntKind.i64.wrap ((l1.length : Int) - 1)) = ji6 := (i64_w _).trans hji6
   by_cases c7 : 0 ≤ (ji6)
   ·rw [if_pos c7] at H
    have c7b0 : decide (0 ≤ (ji6)) = true := decide_eq_true c7
    clear c7
    (skip)
    by_cases c8 : (ji6) < (l1.length : Int)
    ·rw [if_pos c8] at H
     have c8b0 : decide ((ji6) < (l1.length : Int)) = true := decide_eq_true c8
     clear c8
     have H' := Aside0.mk H
     clear H
     go_wp2_with (first | ((with_reducible refine gate_callee (f := 13) rfl ?_); refine goesL_ (some 10) rfl rfl Try.func13 (by kernel_rfl) rfl #[.slice A1 l1.length c1] rfl (by (try simp only [List.map_toArray, List.map_cons, List.map_nil]); rfl) ?_; (with_reducible refine (spec_TermOk.calls k _ _ l1 true _ ?side1 ?side2 A4.out).mono ?_); (case side1 => repeat (first | exact (Kd.C_below HR1.out HB.out) | (with_reducible refine Kd.C_alloc ?_ _) | (with_reducible refine Kd.C_drewN ?_ _) | (with_reducible refine Kd.C_drew ?_))); (case side2 => exact HC1.out); rintro e w9 ⟨rfl, hb⟩; refine ⟨_, rfl, ?_⟩; have n0_ := Aside0.mk (below_step (by repeat (first | (with_reducible first | exact HB.out | apply below_alloc | apply pw_below_drewN | apply below_drew1))) hb); clear HB; have HB := n0_; clear n0_; (try clear hb); (try clear hb2); (try clear hk); (try clear hi); have p221 : 0 ≤ ((ji6) : Int) := of_decide_eq_true (by assumption); have q221 : (ji6) < (l1.length : Int) := of_decide_eq_true (by assumption); obtain ⟨ad221, e221, hx221_0, hx221_1, hx221_2, hx221_3, hx221_4, hx221_5⟩ := at_T36 HR1.out (ji6) p221 q221; cases e221; replace hx221_0 := pw_cell_below HB.out hx221_0; replace hx221_1 := pw_cell_below HB.out hx221_1; replace hx221_2 := pw_cell_below HB.out hx221_2; replace hx221_3 := pw_cell_below HB.out hx221_3; replace hx221_4 := pw_cell_below HB.out hx221_4; replace hx221_5 := pw_cell_below HB.out hx221_5; replace p221 := eq_true p221; replace q221 := eq_true q221))
     go_meet
     case rel => exact ⟨_, ((((rd_T36 l1 (ji6)).f1) != 1)), (by rfl), H', ⟨by omega⟩, ⟨by repeat (first | (with_reducible first | exact HB.out | apply below_alloc | apply pw_below_drewN | apply below_drew1))⟩⟩
    ·rw [if_neg c8] at H
     exact absurd H (by simp)
   ·rw [if_neg c7] at H
    exact absurd H (by simp)
  ·replace c5 := Bool.eq_false_iff.mpr c5
   subst c5
   have H1 : (spec_FrontOk.j0 k l0 l1 true) = some r := by rw [if_neg (show ¬ (false = true) by decide)] at H; exact H
   clear H
   have H := H1
   clear H1
   have H' := Aside0.mk H
   clear H
   go_wp2_with (first | ((with_reducible refine gate_callee (f := 13) rfl ?_); refine goesL_ (some 10) rfl rfl Try.func13 (by kernel_rfl) rfl #[.slice A1 l1.length c1] rfl (by (try simp only [List.map_toArray, List.map_cons, List.map_nil]); rfl) ?_; (with_reducible refine (spec_TermOk.calls k _ _ l1 false _ ?side1 ?side2 A4.out).mono ?_); (case side1 => repeat (first | exact (Kd.C_below HR1.out HB.out) | (with_reducible refine Kd.C_alloc ?_ _) | (with_reducible refine Kd.C_drewN ?_ _) | (with_reducible refine Kd.C_drew ?_))); (case side2 => exact HC1.out); rintro e w10 ⟨rfl, hb⟩; refine ⟨_, rfl, ?_⟩; have n0_ := Aside0.mk (below_step (by repeat (first | (with_reducible first | exact HB.out | apply below_alloc | apply pw_below_drewN | apply below_drew1))) hb); clear HB; have HB := n0_; clear n0_; (try clear hb); (try clear hb2); (try clear hk); (try clear hi)))
   go_meet
   case rel => exact ⟨_, (true), (by rfl), H', ⟨by omega⟩, ⟨by repeat (first | (with_reducible first | exact HB.out | apply below_alloc | apply pw_below_drewN | apply below_drew1))⟩⟩
 case rest =>
  clear HC3
  obtain ⟨kq, x21_2, rfl, HA, HJ2, HB⟩ := hcut
  cases kq with
  | zero => exact absurd HA.out (by simp [spec_FrontOk.j0])
  | succ kj2 =>
   have H := HA.out
   clear HA
   simp only [spec_FrontOk.j0] at H
   by_cases c11 : x21_2 = true
   ·subst c11
    have H1 : (some false) = some r := by rw [if_pos rfl] at H; exact H
    clear H
    have H := H1
    clear H1
    obtain rfl := Option.some.inj H
    go_wp2
    go_ret
    exact ⟨by rfl, by repeat (first | (with_reducible first | exact HB.out | apply below_alloc | apply pw_below_drewN | apply below_drew1))⟩
   ·replace c11 := Bool.eq_false_iff.mpr c11
    subst c11
    have H1 : ((spec_l04Zeros.f kj2).bind fun t222 => (spec_FrontOk.l0 kj2 l0 l1 t222 0)) = some r := by rw [if_neg (show ¬ (false = true) by decide)] at H; exact H
    clear H
    have H := H1
    clear H1
    replace H := Option.bind_eq_some_iff.mp H
    obtain ⟨t222, A120, H⟩ := H
    replace H : (spec_FrontOk.l0 kj2 l0 l1 t222 0) = some r := H
    have A12 := Aside0.mk A120
    clear A120
    have H' := Aside0.mk H
    clear H
    go_wp2_with (first | ((with_reducible refine gate_callee (f := 80) rfl ?_); refine goesL_ (some 22) rfl rfl Try.func80 (by kernel_rfl) rfl #[] rfl (by (try simp only [List.map_toArray, List.map_cons, List.map_nil]); done) ?_; (with_reducible refine (spec_l04Zeros.calls kj2  t222 _ A12.out).mono ?_); rintro e w13 ⟨v223, rfl, ho0, hb⟩; refine ⟨_, rfl, ?_⟩; have n0_ := Aside0.mk (Kd.R_lower ho0 (below_size (by repeat (first | (with_reducible first | exact HB.out | apply below_alloc | apply pw_below_drewN | apply below_drew1))))); have n1_ := Aside0.mk (below_step (by repeat (first | (with_reducible first | exact HB.out | apply below_alloc | apply pw_below_drewN | apply below_drew1))) hb); clear HB; have HO224 := n0_; have HB := n1_; clear n0_ n1_; (try clear hb); (try clear hb2); (try clear hk); (try clear hi); (try clear ho0)))
    go_loopg [6] kj2 (fun kq v6 w' => ∃ (x5_2 : List Int) (x6_2 : Int), v6 = .int .i64 x6_2 ∧ Aside0 (spec_FrontOk.l0 kq l0 l1 x5_2 x6_2 = some r) ∧ Aside0 (kq ≤ kj2) ∧ Aside0 (Kd.R (Kd.int .i64) 3 w' w.heap.size (fun _ => True) v223 x5_2) ∧ Aside0 (Below w.heap.size w w'))
    case atStart => exact ⟨(t222), (0), (by rfl), H', ⟨Nat.le_refl _⟩, ⟨by (with_reducible repeat (first | apply Kd.R_alloc | apply Kd.R_drewN | apply Kd.R_drew)); exact HO224.out⟩, ⟨by repeat (first | (with_reducible first | exact HB.out | apply below_alloc | apply pw_below_drewN | apply below_drew1))⟩⟩
    case round =>
     clear H'
     obtain ⟨x5_2, x6_2, rfl, HA, HK2, HO_5, HB⟩ := hrel
     cases gk with
     | zero => exact absurd HA.out (by simp [spec_FrontOk.l0])
     | succ k2 =>
      have H := HA.out
      clear HA
      simp only [spec_FrontOk.l0] at H
      by_cases c14 : x6_2 < (l0.length : Int)
      ·rw [if_pos c14] at H
       have c14b0 : decide (x6_2 < (l0.length : Int)) = true := decide_eq_true c14
       clear c14
       by_cases c15 : 0 ≤ x6_2
       ·rw [if_pos c15] at H
        have c15b0 : decide (0 ≤ x6_2) = true := decide_eq_true c15
        clear c15
        replace H := Option.bind_eq_some_iff.mp H
        obtain ⟨t226, A160, H⟩ := H
        replace H : (if t226 = true then ((spec_l01In.f ((rd_T76 l0 x6_2).f2) 1 8).bind fun t228 => (if t228 = true then (if 0 ≤ ((rd_T76 l0 x6_2).f1) then (if ((rd_T76 l0 x6_2).f1) < (x5_2.length : Int) then (if (rd x5_2 ((rd_T76 l0 x6_2).f1)) = 0 then (spec_FrontOk.l0 k2 l0 l1 (x5_2.set (((rd_T76 l0 x6_2).f1) : Int).toNat ((rd_T76 l0 x6_2).f2)) (wrap64 (x6_2 + 1))) else (some false)) else (none)) else (none)) else (some false))) else (some false)) = some r := H
        have A16 := Aside0.mk A160
        clear A160
        by_cases c17 : t226 = true
        ·subst c17
         have H1 : ((spec_l01In.f ((rd_T76 l0 x6_2).f2) 1 8).bind fun t228 => (if t228 = true then (if 0 ≤ ((rd_T76 l0 x6_2).f1) then (if ((rd_T76 l0 x6_2).f1) < (x5_2.length : Int) then (if (rd x5_2 ((rd_T76 l0 x6_2).f1)) = 0 then (spec_FrontOk.l0 k2 l0 l1 (x5_2.set (((rd_T76 l0 x6_2).f1) : Int).toNat ((rd_T76 l0 x6_2).f2)) (wrap64 (x6_2 + 1))) else (some false)) else (none)) else (none)) else (some false))) = some r := by rw [if_pos rfl] at H; exact H
         clear H
         have H := H1
         clear H1
         replace H := Option.bind_eq_some_iff.mp H
         obtain ⟨t228, A180, H⟩ := H
         replace H : (if t228 = true then (if 0 ≤ ((rd_T76 l0 x6_2).f1) then (if ((rd_T76 l0 x6_2).f1) < (x5_2.length : Int) then (if (rd x5_2 ((rd_T76 l0 x6_2).f1)) = 0 then (spec_FrontOk.l0 k2 l0 l1 (x5_2.set (((rd_T76 l0 x6_2).f1) : Int).toNat ((rd_T76 l0 x6_2).f2)) (wrap64 (x6_2 + 1))) else (some false)) else (none)) else (none)) else (some false)) = some r := H
         have A18 := Aside0.mk A180
         clear A180
         by_cases c19 : t228 = true
         ·subst c19
          have H1 : (if 0 ≤ ((rd_T76 l0 x6_2).f1) then (if ((rd_T76 l0 x6_2).f1) < (x5_2.length : Int) then (if (rd x5_2 ((rd_T76 l0 x6_2).f1)) = 0 then (spec_FrontOk.l0 k2 l0 l1 (x5_2.set (((rd_T76 l0 x6_2).f1) : Int).toNat ((rd_T76 l0 x6_2).f2)) (wrap64 (x6_2 + 1))) else (some false)) else (none)) else (none)) = some r := by rw [if_pos rfl] at H; exact H
          clear H
          have H := H1
          clear H1
          by_cases c20 : 0 ≤ ((rd_T76 l0 x6_2).f1)
          ·rw [if_pos c20] at H
           have c20b0 : decide (0 ≤ ((rd_T76 l0 x6_2).f1)) = true := decide_eq_true c20
           clear c20
           by_cases c21 : ((rd_T76 l0 x6_2).f1) < (x5_2.length : Int)
           ·rw [if_pos c21] at H
            have c21b0 : decide (((rd_T76 l0 x6_2).f1) < (x5_2.length : Int)) = true := decide_eq_true c21
            clear c21
            by_cases c22 : (rd x5_2 ((rd_T76 l0 x6_2).f1)) = 0
            ·rw [if_pos c22] at H
             have c22b0 : ((rd x5_2 ((rd_T76 l0 x6_2).f1)) == 0) = true := beq_iff_eq.mpr c22
             have c22b1 : ((rd x5_2 ((rd_T76 l0 x6_2).f1)) != 0) = false := bne_eq_false_iff_eq.mpr c22
             clear c22
             obtain ⟨y233, hy233⟩ : ∃ y_ : List Int, y_ = (x5_2.set (((rd_T76 l0 x6_2).f1) : Int).toNat ((rd_T76 l0 x6_2).f2)) := ⟨_, rfl⟩
             replace H : (spec_FrontOk.l0 k2 l0 l1 y233 (wrap64 (x6_2 + 1))) = some r := by (rw [hy233]; with_reducible exact H)
             have Ny233 := Aside0.mk hy233
             clear hy233
             have H' := Aside0.mk H
             clear H
             have p225 : 0 ≤ (x6_2 : Int) := of_decide_eq_true (by assumption)
             have q225 : x6_2 < (l0.length : Int) := of_decide_eq_true (by assumption)
             obtain ⟨ad225, e225, hx225_0, hx225_1, hx225_2⟩ := at_T76 HR0.out x6_2 p225 q225
             cases e225
             replace hx225_0 := pw_cell_below HB.out hx225_0
             replace hx225_1 := pw_cell_below HB.out hx225_1
             replace hx225_2 := pw_cell_below HB.out hx225_2
             replace p225 := eq_true p225
             replace q225 := eq_true q225
             try go_wp2_with (first | ((with_reducible refine gate_callee (f := 46) rfl ?_); refine goesL_ (some 34) rfl rfl Try.func46 (by kernel_rfl) rfl #[.int .i64 ((rd_T76 l0 x6_2).f1), .int .i64 0, .int .i64 7] rfl (by (try simp only [List.map_toArray, List.map_cons, List.map_nil]); rfl) ?_; (with_reducible refine (spec_l01In.calls ((rd_T76 l0 x6_2).f1) 0 7 true _ A16.out).mono ?_); rintro e w' ⟨rfl, ⟨nd, rfl⟩⟩; refine ⟨_, rfl, ?_⟩; (try (rw [drewN_self wr]; generalize hq_ : World.drewN wr _ = wr; have n0_ : Aside0 (Kd.R (Kd.int .i64) 3 wr w.heap.size (fun _ => True) v223 x5_2) := ⟨by rw [← hq_]; exact (by (with_reducible repeat (first | apply Kd.R_alloc | apply Kd.R_drewN | apply Kd.R_drew)); exact HO_5.out)⟩; have n1_ : Aside0 (Below w.heap.size w wr) := ⟨by rw [← hq_]; exact (by repeat (first | (with_reducible first | exact HB.out | apply below_alloc | apply pw_below_drewN | apply below_drew1)))⟩; clear HO_5 HB hq_; have HO_5 := n0_; have HB := n1_; clear n0_ n1_)); have p227 : 0 ≤ (x6_2 : Int) := of_decide_eq_true (by assumption); have q227 : x6_2 < (l0.length : Int) := of_decide_eq_true (by assumption); obtain ⟨ad227, e227, hx227_0, hx227_1, hx227_2⟩ := at_T76 HR0.out x6_2 p227 q227; obtain rfl : ad225 = ad227 := (by injection e227); replace hx227_0 := pw_cell_below HB.out hx227_0; replace hx227_1 := pw_cell_below HB.out hx227_1; replace hx227_2 := pw_cell_below HB.out hx227_2; replace p227 := eq_true p227; replace q227 := eq_true q227) | (go_at_call 46; (with_reducible refine (spec_l01In.calls ((rd_T76 l0 x6_2).f2) 1 8 true _ A18.out).mono ?_); rintro e w' ⟨rfl, ⟨nd, rfl⟩⟩; (try (rw [drewN_self wr]; generalize hq_ : World.drewN wr _ = wr; have n0_ : Aside0 (Kd.R (Kd.int .i64) 3 wr w.heap.size (fun _ => True) v223 x5_2) := ⟨by rw [← hq_]; exact (by (with_reducible repeat (first | apply Kd.R_alloc | apply Kd.R_drewN | apply Kd.R_drew)); exact HO_5.out)⟩; have n1_ : Aside0 (Below w.heap.size w wr) := ⟨by rw [← hq_]; exact (by repeat (first | (with_reducible first | exact HB.out | apply below_alloc | apply pw_below_drewN | apply below_drew1)))⟩; clear HO_5 HB hq_; have HO_5 := n0_; have HB := n1_; clear n0_ n1_)); have p229 : 0 ≤ (x6_2 : Int) := of_decide_eq_true (by assumption); have q229 : x6_2 < (l0.length : Int) := of_decide_eq_true (by assumption); obtain ⟨ad229, e229, hx229_0, hx229_1, hx229_2⟩ := at_T76 HR0.out x6_2 p229 q229; obtain rfl : ad225 = ad229 := (by injection e229); replace hx229_0 := pw_cell_below HB.out hx229_0; replace hx229_1 := pw_cell_below HB.out hx229_1; replace hx229_2 := pw_cell_below HB.out hx229_2; replace p229 := eq_true p229; replace q229 := eq_true q229; obtain ⟨Ao24, co24, eo24⟩ := Kd.R_slice HO_5.out; subst eo24; have p230 : 0 ≤ (((rd_T76 l0 x6_2).f1) : Int) := of_decide_eq_true (by assumption); have q230 : ((rd_T76 l0 x6_2).f1) < (x5_2.length : Int) := of_decide_eq_true (by assumption); obtain ⟨ad230, e230, hx230_0⟩ := Kd.at_int (Kd.R_reads' HO_5.out).2.2 ((rd_T76 l0 x6_2).f1) p230 q230; cases e230; replace p230 := eq_true p230; replace q230 := eq_true q230))
             have n0_ := Aside0.mk (Kd.R_drew HO_5.out)
             have n1_ := Aside0.mk (below_drew1 HB.out)
             clear HO_5
             clear HB
             have HO_5 := n0_
             have HB := n1_
             clear n0_ n1_
             have p231 : 0 ≤ (x6_2 : Int) := of_decide_eq_true (by assumption)
             have q231 : x6_2 < (l0.length : Int) := of_decide_eq_true (by assumption)
             obtain ⟨ad231, e231, hx231_0, hx231_1, hx231_2⟩ := at_T76 HR0.out x6_2 p231 q231
             have hw231_2 := hx231_2
             have hw231_1 := hx231_1
             have hw231_0 := hx231_0
             obtain rfl : ad225 = ad231 := (by injection e231)
             replace hx231_0 := pw_cell_below HB.out hx231_0
             replace hx231_1 := pw_cell_below HB.out hx231_1
             replace hx231_2 := pw_cell_below HB.out hx231_2
             replace p231 := eq_true p231
             replace q231 := eq_true q231
             have p232 : 0 ≤ (x6_2 : Int) := of_decide_eq_true (by assumption)
             have q232 : x6_2 < (l0.length : Int) := of_decide_eq_true (by assumption)
             obtain ⟨ad232, e232, hx232_0, hx232_1, hx232_2⟩ := at_T76 HR0.out x6_2 p232 q232
             have hw232_2 := hx232_2
             have hw232_1 := hx232_1
             have hw232_0 := hx232_0
             obtain rfl : ad225 = ad232 := (by injection e232)
             replace hx232_0 := pw_cell_below HB.out hx232_0
             replace hx232_1 := pw_cell_below HB.out hx232_1
             replace hx232_2 := pw_cell_below HB.out hx232_2
             replace p232 := eq_true p232
             replace q232 := eq_true q232
             have p23 : 0 ≤ (((rd_T76 l0 x6_2).f1) : Int) := of_decide_eq_true (by assumption)
             have q23 : (((rd_T76 l0 x6_2).f1) : Int) < ((x5_2.length : Int) : Int) := of_decide_eq_true (by assumption)
             obtain ⟨go23, co23, eo23, gb23, gl23, cl23, HG23⟩ := Kd.R_form HO_5.out (by omega)
             (cases eo23)
             have GB23 := Aside0.mk gb23
             have GG23 := Aside0.mk HG23
             clear gb23 gl23 HG23
             (simp only [add_plain] at hx230_0)
             obtain ⟨hx23_0, hf23_0⟩ := Kd.R_celln 0 HO_5.out (((rd_T76 l0 x6_2).f1) : Int) p23 q23
             replace p23 := eq_true p23
             replace q23 := eq_true q23
             have HP26 := Kd.R_putn HO_5.out (((rd_T76 l0 x6_2).f1) : Int) ((rd_T76 l0 x6_2).f2)
             rw [← Ny233.out] at HP26
             have HQ26 := Aside0.mk HP26
             clear HP26
             refine start_ (n := 13) (S := fun w' => w'.cell? (ad225.add ((x6_2).toNat * 3)) = some (.bool ((rd_T76 l0 x6_2).f0)) ∧ w'.cell? ⟨(ad225.add ((x6_2).toNat * 3)).block, (ad225.add ((x6_2).toNat * 3)).off + 1, none⟩ = some (.int .i64 ((rd_T76 l0 x6_2).f1)) ∧ w'.cell? ⟨(ad225.add ((x6_2).toNat * 3)).block, (ad225.add ((x6_2).toNat * 3)).off + 2, none⟩ = some (.int .i64 ((rd_T76 l0 x6_2).f2)) ∧ w'.cell? (ad225.add ((x6_2).toNat * 3)) = some (.bool ((rd_T76 l0 x6_2).f0)) ∧ w'.cell? ⟨(ad225.add ((x6_2).toNat * 3)).block, (ad225.add ((x6_2).toNat * 3)).off + 1, none⟩ = some (.int .i64 ((rd_T76 l0 x6_2).f1)) ∧ w'.cell? ⟨(ad225.add ((x6_2).toNat * 3)).block, (ad225.add ((x6_2).toNat * 3)).off + 2, none⟩ = some (.int .i64 ((rd_T76 l0 x6_2).f2))) (ds := [12]) zA0x7 (by kernel_rfl) rfl rfl ⟨(pw_cell_below HB.out hw231_0), (pw_cell_below HB.out hw231_1), (pw_cell_below HB.out hw231_2), (pw_cell_below HB.out hw232_0), (pw_cell_below HB.out hw232_1), (pw_cell_below HB.out hw232_2)⟩ (fun hHeld => ?_); refine with_tabW spec_FrontOk.tab9 spec_FrontOk.bits9 (fun HT_ HW_ => ?_)
             generalize wr.drew = w25 at HO_5 HB GG23 HQ26 hf23_0 hx230_0 hx231_0 hx231_1 hx231_2 hx232_0 hx232_1 hx232_2 hx23_0 hHeld ⊢
             refine pure_ (i := 0) (N := some 56) (v := ?_) (a' := ?_) zA1x7 rfl rfl (any_of HT_.out (by kernel_rfl)) (fun _ _ _ h => h) (Or.inl ⟨by rfl, ?_⟩) ?_ ?_; rotate_left; (intro w'; go_simp; with_reducible rfl); rotate_left; (simp only [Act.put, List.setIfInBounds_toArray, List.set_cons_zero, List.set_cons_succ, i64_w, i32_w]; rfl)
             refine pure_ (i := 1) (N := some 57) (v := ?_) (a' := ?_) zA2x7 rfl rfl (any_of HT_.out (by kernel_rfl)) (fun _ _ _ h => h) (Or.inl ⟨by rfl, ?_⟩) ?_ ?_; rotate_left; (intro w'; go_simp; with_reducible rfl); rotate_left; (simp only [Act.put, List.setIfInBounds_toArray, List.set_cons_zero, List.set_cons_succ, i64_w, i32_w]; rfl)
             refine pure_ (i := 2) (N := some 58) (v := ?_) (a' := ?_) zA3x7 rfl rfl (any_of HT_.out (by kernel_rfl)) (fun _ _ _ h => h) (Or.inl ⟨by rfl, ?_⟩) ?_ ?_; rotate_left; (intro w'; go_simp; with_reducible rfl); rotate_left; (simp only [Act.put, List.setIfInBounds_toArray, List.set_cons_zero, List.set_cons_succ, i64_w, i32_w]; rfl)
             refine pure_ (i := 3) (N := some 59) (v := ?_) (a' := ?_) zA4x7 rfl rfl (any_of HT_.out (by kernel_rfl)) (fun _ _ _ h => h) (Or.inl ⟨by rfl, ?_⟩) ?_ ?_; rotate_left; (intro w'; go_simp; with_reducible rfl); rotate_left; (simp only [Act.put, List.setIfInBounds_toArray, List.set_cons_zero, List.set_cons_succ, i64_w, i32_w]; rfl)
             refine pure_ (i := 4) (N := some 60) (v := ?_) (a' := ?_) zA5x7 rfl rfl (any_of HT_.out (by kernel_rfl)) (fun _ _ _ h => h) (Or.inl ⟨by rfl, ?_⟩) ?_ ?_; rotate_left; (intro w'; go_simp; with_reducible rfl); rotate_left; (simp only [Act.put, List.setIfInBounds_toArray, List.set_cons_zero, List.set_cons_succ, i64_w, i32_w]; rfl)
             refine pure_ (i := 6) (N := some 62) (v := ?_) (a' := ?_) zA6x7 rfl rfl (any_of HT_.out (by kernel_rfl)) (fun _ _ _ h => h) (Or.inl ⟨by rfl, ?_⟩) ?_ ?_; rotate_left; (intro w'; go_simp; with_reducible rfl); rotate_left; (simp only [Act.put, List.setIfInBounds_toArray, List.set_cons_zero, List.set_cons_succ, i64_w, i32_w]; rfl)
             refine pure_ (i := 7) (N := some 63) (v := ?_) (a' := ?_) zA7x7 rfl rfl (any_of HT_.out (by kernel_rfl)) (fun _ _ _ h => h) (Or.inl ⟨by rfl, ?_⟩) ?_ ?_; rotate_left; (intro w'; go_simp; with_reducible rfl); rotate_left; (simp only [Act.put, List.setIfInBounds_toArray, List.set_cons_zero, List.set_cons_succ, i64_w, i32_w]; rfl)
             refine pure_ (i := 8) (N := some 64) (v := ?_) (a' := ?_) zA8x7 rfl rfl (any_of HT_.out (by kernel_rfl)) (fun _ _ _ h => h) (Or.inl ⟨by rfl, ?_⟩) ?_ ?_; rotate_left; (intro w'; go_simp; with_reducible rfl); rotate_left; (simp only [Act.put, List.setIfInBounds_toArray, List.set_cons_zero, List.set_cons_succ, i64_w, i32_w]; rfl)
             refine pure_ (i := 9) (N := some 65) (v := ?_) (a' := ?_) zA9x7 rfl rfl (any_of HT_.out (by kernel_rfl)) (fun _ _ _ h => h) (Or.inl ⟨by rfl, ?_⟩) ?_ ?_; rotate_left; (intro w'; go_simp; with_reducible rfl); rotate_left; (simp only [Act.put, List.setIfInBounds_toArray, List.set_cons_zero, List.set_cons_succ, i64_w, i32_w]; rfl)
             refine take_ (i := 5) (N := some 61) (v := ?_) (a' := ?_) zA10x7 rfl rfl (take_ofW HT_.out HW_.out (by kernel_rfl)) (fun _ _ _ h => h) (Or.inl ⟨by rfl, ?_⟩) hHeld ?_ ?_
             rotate_left
             ·rintro w' ⟨s0, s1, s2, s3, s4, s5⟩
              go_simp
              with_reducible rfl
             rotate_left
             ·simp only [Act.put, List.setIfInBounds_toArray, List.set_cons_zero, List.set_cons_succ, i64_w, i32_w]
              rfl
             refine take_ (i := 10) (N := some 66) (v := ?_) (a' := ?_) zA11x7 rfl rfl (take_ofW HT_.out HW_.out (by kernel_rfl)) (fun _ _ _ h => h) (Or.inl ⟨by rfl, ?_⟩) hHeld ?_ ?_
             rotate_left
             ·rintro w' ⟨s0, s1, s2, s3, s4, s5⟩
              go_simp
              with_reducible rfl
             rotate_left
             ·simp only [Act.put, List.setIfInBounds_toArray, List.set_cons_zero, List.set_cons_succ, i64_w, i32_w]
              rfl
             refine pure_ (i := 11) (N := some 67) (v := ?_) (a' := ?_) zA12x7 rfl rfl (any_of HT_.out (by kernel_rfl)) (fun _ _ _ h => h) (Or.inl ⟨by rfl, ?_⟩) ?_ ?_; rotate_left; (intro w'; go_simp; with_reducible rfl); rotate_left; (simp only [Act.put, List.setIfInBounds_toArray, List.set_cons_zero, List.set_cons_succ, i64_w, i32_w]; rfl)
             refine last_ (i := 12) (N := none) zA13x7 rfl rfl (one_of HT_.out (by kernel_rfl)) (by decide) (fun K hK => ?_)
             refine skip_ (w1 := ?_) (by rfl) rfl ?_ ?_
             rotate_left
             ·go_simp
              rfl
             refine hK.out _ _ ?_
             clear hK K
             refine done_ (done_of HT_.out (by kernel_rfl)) ?_
             try go_wp2
             go_roundg k2
             case measure => have := HJ2.out; have := HK2.out; omega
             case rel => exact ⟨(y233), (wrap64 (x6_2 + 1)), (by rfl), H', ⟨by have := HJ2.out; have := HK2.out; omega⟩, ⟨by (with_reducible repeat (first | apply Kd.R_alloc | apply Kd.R_drewN | apply Kd.R_drew)); exact HQ26.out⟩, ⟨by repeat (first | (with_reducible first | exact HB.out | apply below_alloc | apply pw_below_drewN | apply below_drew1 | refine below_set ?_ GB23.out) | exact HB.out)⟩⟩
            ·rw [if_neg c22] at H
             have c22b0 : ((rd x5_2 ((rd_T76 l0 x6_2).f1)) == 0) = false := beq_eq_false_iff_ne.mpr c22
             have c22b1 : ((rd x5_2 ((rd_T76 l0 x6_2).f1)) != 0) = true := bne_iff_ne.mpr c22
             obtain rfl := Option.some.inj H
             have p225 : 0 ≤ (x6_2 : Int) := of_decide_eq_true (by assumption)
             have q225 : x6_2 < (l0.length : Int) := of_decide_eq_true (by assumption)
             obtain ⟨ad225, e225, hx225_0, hx225_1, hx225_2⟩ := at_T76 HR0.out x6_2 p225 q225
             cases e225
             replace hx225_0 := pw_cell_below HB.out hx225_0
             replace hx225_1 := pw_cell_below HB.out hx225_1
             replace hx225_2 := pw_cell_below HB.out hx225_2
             replace p225 := eq_true p225
             replace q225 := eq_true q225
             go_wp2_with (first | ((with_reducible refine gate_callee (f := 46) rfl ?_); refine goesL_ (some 34) rfl rfl Try.func46 (by kernel_rfl) rfl #[.int .i64 ((rd_T76 l0 x6_2).f1), .int .i64 0, .int .i64 7] rfl (by (try simp only [List.map_toArray, List.map_cons, List.map_nil]); rfl) ?_; (with_reducible refine (spec_l01In.calls ((rd_T76 l0 x6_2).f1) 0 7 true _ A16.out).mono ?_); rintro e w' ⟨rfl, ⟨nd, rfl⟩⟩; refine ⟨_, rfl, ?_⟩; have p227 : 0 ≤ (x6_2 : Int) := of_decide_eq_true (by assumption); have q227 : x6_2 < (l0.length : Int) := of_decide_eq_true (by assumption); obtain ⟨ad227, e227, hx227_0, hx227_1, hx227_2⟩ := at_T76 HR0.out x6_2 p227 q227; obtain rfl : ad225 = ad227 := (by injection e227); replace hx227_0 := pw_cell_below HB.out hx227_0; replace hx227_1 := pw_cell_below HB.out hx227_1; replace hx227_2 := pw_cell_below HB.out hx227_2; replace p227 := eq_true p227; replace q227 := eq_true q227) | (go_at_call 46; (with_reducible refine (spec_l01In.calls ((rd_T76 l0 x6_2).f2) 1 8 true _ A18.out).mono ?_); rintro e w' ⟨rfl, ⟨nd, rfl⟩⟩; have p229 : 0 ≤ (x6_2 : Int) := of_decide_eq_true (by assumption); have q229 : x6_2 < (l0.length : Int) := of_decide_eq_true (by assumption); obtain ⟨ad229, e229, hx229_0, hx229_1, hx229_2⟩ := at_T76 HR0.out x6_2 p229 q229; obtain rfl : ad225 = ad229 := (by injection e229); replace hx229_0 := pw_cell_below HB.out hx229_0; replace hx229_1 := pw_cell_below HB.out hx229_1; replace hx229_2 := pw_cell_below HB.out hx229_2; replace p229 := eq_true p229; replace q229 := eq_true q229; obtain ⟨Ao27, co27, eo27⟩ := Kd.R_slice HO_5.out; subst eo27; have p230 : 0 ≤ (((rd_T76 l0 x6_2).f1) : Int) := of_decide_eq_true (by assumption); have q230 : ((rd_T76 l0 x6_2).f1) < (x5_2.length : Int) := of_decide_eq_true (by assumption); obtain ⟨ad230, e230, hx230_0⟩ := Kd.at_int (Kd.R_reads' HO_5.out).2.2 ((rd_T76 l0 x6_2).f1) p230 q230; cases e230; replace p230 := eq_true p230; replace q230 := eq_true q230))
             go_ret
             exact ⟨by rfl, by repeat (first | (with_reducible first | exact HB.out | apply below_alloc | apply pw_below_drewN | apply below_drew1))⟩
           ·rw [if_neg c21] at H
            exact absurd H (by simp)
          ·rw [if_neg c20] at H
           exact absurd H (by simp)
         ·replace c19 := Bool.eq_false_iff.mpr c19
          subst c19
          have H1 : (some false) = some r := by rw [if_neg (show ¬ (false = true) by decide)] at H; exact H
          clear H
          have H := H1
          clear H1
          obtain rfl := Option.some.inj H
          have p225 : 0 ≤ (x6_2 : Int) := of_decide_eq_true (by assumption)
          have q225 : x6_2 < (l0.length : Int) := of_decide_eq_true (by assumption)
          obtain ⟨ad225, e225, hx225_0, hx225_1, hx225_2⟩ := at_T76 HR0.out x6_2 p225 q225
          cases e225
          replace hx225_0 := pw_cell_below HB.out hx225_0
          replace hx225_1 := pw_cell_below HB.out hx225_1
          replace hx225_2 := pw_cell_below HB.out hx225_2
          replace p225 := eq_true p225
          replace q225 := eq_true q225
          go_wp2_with (first | ((with_reducible refine gate_callee (f := 46) rfl ?_); refine goesL_ (some 34) rfl rfl Try.func46 (by kernel_rfl) rfl #[.int .i64 ((rd_T76 l0 x6_2).f1), .int .i64 0, .int .i64 7] rfl (by (try simp only [List.map_toArray, List.map_cons, List.map_nil]); rfl) ?_; (with_reducible refine (spec_l01In.calls ((rd_T76 l0 x6_2).f1) 0 7 true _ A16.out).mono ?_); rintro e w' ⟨rfl, ⟨nd, rfl⟩⟩; refine ⟨_, rfl, ?_⟩; have p227 : 0 ≤ (x6_2 : Int) := of_decide_eq_true (by assumption); have q227 : x6_2 < (l0.length : Int) := of_decide_eq_true (by assumption); obtain ⟨ad227, e227, hx227_0, hx227_1, hx227_2⟩ := at_T76 HR0.out x6_2 p227 q227; obtain rfl : ad225 = ad227 := (by injection e227); replace hx227_0 := pw_cell_below HB.out hx227_0; replace hx227_1 := pw_cell_below HB.out hx227_1; replace hx227_2 := pw_cell_below HB.out hx227_2; replace p227 := eq_true p227; replace q227 := eq_true q227) | (go_at_call 46; (with_reducible refine (spec_l01In.calls ((rd_T76 l0 x6_2).f2) 1 8 false _ A18.out).mono ?_); rintro e w' ⟨rfl, ⟨nd, rfl⟩⟩))
          go_ret
          exact ⟨by rfl, by repeat (first | (with_reducible first | exact HB.out | apply below_alloc | apply pw_below_drewN | apply below_drew1))⟩
        ·replace c17 := Bool.eq_false_iff.mpr c17
         subst c17
         have H1 : (some false) = some r := by rw [if_neg (show ¬ (false = true) by decide)] at H; exact H
         clear H
         have H := H1
         clear H1
         obtain rfl := Option.some.inj H
         have p225 : 0 ≤ (x6_2 : Int) := of_decide_eq_true (by assumption)
         have q225 : x6_2 < (l0.length : Int) := of_decide_eq_true (by assumption)
         obtain ⟨ad225, e225, hx225_0, hx225_1, hx225_2⟩ := at_T76 HR0.out x6_2 p225 q225
         cases e225
         replace hx225_0 := pw_cell_below HB.out hx225_0
         replace hx225_1 := pw_cell_below HB.out hx225_1
         replace hx225_2 := pw_cell_below HB.out hx225_2
         replace p225 := eq_true p225
         replace q225 := eq_true q225
         go_wp2_with (first | ((with_reducible refine gate_callee (f := 46) rfl ?_); refine goesL_ (some 34) rfl rfl Try.func46 (by kernel_rfl) rfl #[.int .i64 ((rd_T76 l0 x6_2).f1), .int .i64 0, .int .i64 7] rfl (by (try simp only [List.map_toArray, List.map_cons, List.map_nil]); rfl) ?_; (with_reducible refine (spec_l01In.calls ((rd_T76 l0 x6_2).f1) 0 7 false _ A16.out).mono ?_); rintro e w' ⟨rfl, ⟨nd, rfl⟩⟩; refine ⟨_, rfl, ?_⟩))
         go_ret
         exact ⟨by rfl, by repeat (first | (with_reducible first | exact HB.out | apply below_alloc | apply pw_below_drewN | apply below_drew1))⟩
       ·rw [if_neg c15] at H
        exact absurd H (by simp)
      ·rw [if_neg c14] at H
       have c14b0 : decide (x6_2 < (l0.length : Int)) = false := decide_eq_false c14
       clear c14
       replace H := Option.bind_eq_some_iff.mp H
       obtain ⟨t234, A280, H⟩ := H
       replace H : (spec_FrontOk.l1 k2 l1 x5_2 t234 0) = some r := H
       have A28 := Aside0.mk A280
       clear A280
       have H' := Aside0.mk H
       clear H
       go_wp2_with (first | ((with_reducible refine gate_callee (f := 76) rfl ?_); refine goesL_ (some 69) rfl rfl Try.func76 (by kernel_rfl) rfl #[.slice A1 l1.length c1] rfl (by (try simp only [List.map_toArray, List.map_cons, List.map_nil]); rfl) ?_; (with_reducible refine (spec_l02Reach.calls k2 _ _ l1 t234 _ ?side1 ?side2 A28.out).mono ?_); (case side1 => repeat (first | exact (Kd.C_below HR1.out HB.out) | (with_reducible refine Kd.C_alloc ?_ _) | (with_reducible refine Kd.C_drewN ?_ _) | (with_reducible refine Kd.C_drew ?_))); (case side2 => exact HC1.out); rintro e w29 ⟨v235, rfl, ho0, hb⟩; refine ⟨_, rfl, ?_⟩; have n0_ := Aside0.mk (Kd.R_below (by (with_reducible repeat (first | apply Kd.R_alloc | apply Kd.R_drewN | apply Kd.R_drew)); exact HO_5.out) hb); have n1_ := Aside0.mk (Kd.R_lower ho0 (below_size (by repeat (first | (with_reducible first | exact HB.out | apply below_alloc | apply pw_below_drewN | apply below_drew1))))); have n2_ := Aside0.mk (below_step (by repeat (first | (with_reducible first | exact HB.out | apply below_alloc | apply pw_below_drewN | apply below_drew1))) hb); clear HO_5; clear HB; have HO_5 := n0_; have HO236 := n1_; have HB := n2_; clear n0_ n1_ n2_; (try clear hb); (try clear hb2); (try clear hk); (try clear hi); (try clear ho0)))
       go_loopg [8] k2 (fun kq v8 w' => ∃ (x8_3 : Int), v8 = .int .i64 x8_3 ∧ Aside0 (spec_FrontOk.l1 kq l1 x5_2 t234 x8_3 = some r) ∧ Aside0 (kq ≤ k2) ∧ Aside0 (Kd.R (Kd.int .i64) 3 w' w.heap.size (fun _ => True) v223 x5_2) ∧ Aside0 (Kd.R Kd.bool 4 w' w.heap.size (fun _ => True) v235 t234) ∧ Aside0 (Below w.heap.size w w'))
       case atStart => exact ⟨(0), (by rfl), H', ⟨Nat.le_refl _⟩, ⟨by (with_reducible repeat (first | apply Kd.R_alloc | apply Kd.R_drewN | apply Kd.R_drew)); exact HO_5.out⟩, ⟨by (with_reducible repeat (first | apply Kd.R_alloc | apply Kd.R_drewN | apply Kd.R_drew)); exact HO236.out⟩, ⟨by repeat (first | (with_reducible first | exact HB.out | apply below_alloc | apply pw_below_drewN | apply below_drew1))⟩⟩
       case round =>
        clear H'
        clear c14b0
        obtain ⟨x8_3, rfl, HA, HK3, HO_5, HO_7, HB⟩ := hrel
        cases gk with
        | zero => exact absurd HA.out (by simp [spec_FrontOk.l1])
        | succ k3 =>
         have H := HA.out
         clear HA
         simp only [spec_FrontOk.l1] at H
         by_cases c30 : x8_3 < (l1.length : Int)
         ·rw [if_pos c30] at H
          have c30b0 : decide (x8_3 < (l1.length : Int)) = true := decide_eq_true c30
          clear c30
          by_cases c31 : 0 ≤ x8_3
          ·rw [if_pos c31] at H
           have c31b0 : decide (0 ≤ x8_3) = true := decide_eq_true c31
           clear c31
           replace H := Option.bind_eq_some_iff.mp H
           obtain ⟨t238, A320, H⟩ := H
           replace H : (if t238 = true then (some false) else (if x8_3 < (t234.length : Int) then (if rdOf false t234 x8_3 = true then (if ((rd_T36 l1 x8_3).f0) = 1 then (if 0 ≤ ((rd_T36 l1 x8_3).f2) then (if ((rd_T36 l1 x8_3).f2) < (x5_2.length : Int) then (if (rd x5_2 ((rd_T36 l1 x8_3).f2)) = ((rd_T36 l1 x8_3).f1) then (spec_FrontOk.l1 k3 l1 x5_2 t234 (wrap64 (x8_3 + 1))) else (some false)) else (none)) else (none)) else (spec_FrontOk.l1 k3 l1 x5_2 t234 (wrap64 (x8_3 + 1)))) else (spec_FrontOk.l1 k3 l1 x5_2 t234 (wrap64 (x8_3 + 1)))) else (none))) = some r := H
           have A32 := Aside0.mk A320
           clear A320
           by_cases c33 : t238 = true
           ·subst c33
            have H1 : (some false) = some r := by rw [if_pos rfl] at H; exact H
            clear H
            have H := H1
            clear H1
            obtain rfl := Option.some.inj H
            try go_wp2
            have n0_ := Aside0.mk (Kd.R_drew HO_5.out)
            have n1_ := Aside0.mk (Kd.R_drew HO_7.out)
            have n2_ := Aside0.mk (below_drew1 HB.out)
            clear HO_5
            clear HO_7
            clear HB
            have HO_5 := n0_
            have HO_7 := n1_
            have HB := n2_
            clear n0_ n1_ n2_
            have p237 : 0 ≤ (x8_3 : Int) := of_decide_eq_true (by assumption)
            have q237 : x8_3 < (l1.length : Int) := of_decide_eq_true (by assumption)
            obtain ⟨ad237, e237, hx237_0, hx237_1, hx237_2, hx237_3, hx237_4, hx237_5⟩ := at_T36 HR1.out x8_3 p237 q237
            have hw237_5 := hx237_5
            have hw237_4 := hx237_4
            have hw237_3 := hx237_3
            have hw237_2 := hx237_2
            have hw237_1 := hx237_1
            have hw237_0 := hx237_0
            cases e237
            replace hx237_0 := pw_cell_below HB.out hx237_0
            replace hx237_1 := pw_cell_below HB.out hx237_1
            replace hx237_2 := pw_cell_below HB.out hx237_2
            replace hx237_3 := pw_cell_below HB.out hx237_3
            replace hx237_4 := pw_cell_below HB.out hx237_4
            replace hx237_5 := pw_cell_below HB.out hx237_5
            replace p237 := eq_true p237
            replace q237 := eq_true q237
            refine start_ (n := 36) (S := fun w' => w'.cell? (ad237.add ((x8_3).toNat * 6)) = some (.int .i64 ((rd_T36 l1 x8_3).f0)) ∧ w'.cell? ⟨(ad237.add ((x8_3).toNat * 6)).block, (ad237.add ((x8_3).toNat * 6)).off + 1, none⟩ = some (.int .i64 ((rd_T36 l1 x8_3).f1)) ∧ w'.cell? ⟨(ad237.add ((x8_3).toNat * 6)).block, (ad237.add ((x8_3).toNat * 6)).off + 2, none⟩ = some (.int .i64 ((rd_T36 l1 x8_3).f2)) ∧ w'.cell? ⟨(ad237.add ((x8_3).toNat * 6)).block, (ad237.add ((x8_3).toNat * 6)).off + 3, none⟩ = some (.int .i64 ((rd_T36 l1 x8_3).f3)) ∧ w'.cell? ⟨(ad237.add ((x8_3).toNat * 6)).block, (ad237.add ((x8_3).toNat * 6)).off + 4, none⟩ = some (.int .i64 ((rd_T36 l1 x8_3).f4)) ∧ w'.cell? ⟨(ad237.add ((x8_3).toNat * 6)).block, (ad237.add ((x8_3).toNat * 6)).off + 5, none⟩ = some (.int .i64 ((rd_T36 l1 x8_3).f5))) (ds := []) zA14x7 (by kernel_rfl) rfl rfl ⟨(pw_cell_below HB.out hw237_0), (pw_cell_below HB.out hw237_1), (pw_cell_below HB.out hw237_2), (pw_cell_below HB.out hw237_3), (pw_cell_below HB.out hw237_4), (pw_cell_below HB.out hw237_5)⟩ (fun hHeld => ?_); refine with_tabW spec_FrontOk.tab14 spec_FrontOk.bits14 (fun HT_ HW_ => ?_)
            generalize wr.drew = w34 at HO_5 HO_7 HB hx237_0 hx237_1 hx237_2 hx237_3 hx237_4 hx237_5 hHeld ⊢
            refine pure_ (i := 0) (N := some 76) (v := ?_) (a' := ?_) zA15x7 rfl rfl (any_of HT_.out (by kernel_rfl)) (fun _ _ _ h => h) (Or.inl ⟨by rfl, ?_⟩) ?_ ?_; rotate_left; (intro w'; go_simp; with_reducible rfl); rotate_left; (simp only [Act.put, List.setIfInBounds_toArray, List.set_cons_zero, List.set_cons_succ, i64_w, i32_w]; rfl)
            refine pure_ (i := 1) (N := some 77) (v := ?_) (a' := ?_) zA16x7 rfl rfl (any_of HT_.out (by kernel_rfl)) (fun _ _ _ h => h) (Or.inl ⟨by rfl, ?_⟩) ?_ ?_; rotate_left; (intro w'; go_simp; with_reducible rfl); rotate_left; (simp only [Act.put, List.setIfInBounds_toArray, List.set_cons_zero, List.set_cons_succ, i64_w, i32_w]; rfl)
            refine pure_ (i := 2) (N := some 78) (v := ?_) (a' := ?_) zA17x7 rfl rfl (any_of HT_.out (by kernel_rfl)) (fun _ _ _ h => h) (Or.inl ⟨by rfl, ?_⟩) ?_ ?_; rotate_left; (intro w'; go_simp; with_reducible rfl); rotate_left; (simp only [Act.put, List.setIfInBounds_toArray, List.set_cons_zero, List.set_cons_succ, i64_w, i32_w]; rfl)
            refine pure_ (i := 3) (N := some 79) (v := ?_) (a' := ?_) zA18x7 rfl rfl (any_of HT_.out (by kernel_rfl)) (fun _ _ _ h => h) (Or.inl ⟨by rfl, ?_⟩) ?_ ?_; rotate_left; (intro w'; go_simp; with_reducible rfl); rotate_left; (simp only [Act.put, List.setIfInBounds_toArray, List.set_cons_zero, List.set_cons_succ, i64_w, i32_w]; rfl)
            refine take_ (i := 4) (N := some 80) (v := ?_) (a' := ?_) zA19x7 rfl rfl (take_ofW HT_.out HW_.out (by kernel_rfl)) (fun _ _ _ h => h) (Or.inl ⟨by rfl, ?_⟩) hHeld ?_ ?_
            rotate_left
            ·rintro w' ⟨s0, s1, s2, s3, s4, s5⟩
             go_simp
             with_reducible rfl
            rotate_left
            ·simp only [Act.put, List.setIfInBounds_toArray, List.set_cons_zero, List.set_cons_succ, i64_w, i32_w]
             rfl
            refine one_ (i := 5) (N := some 81) zA20x7 rfl rfl (one_of HT_.out (by kernel_rfl)) (by decide) (fun K hK => ?_)
            refine goes_ Try.func51 (by kernel_rfl) rfl #[.int .i64 ((rd_T36 l1 x8_3).f0)] (by rfl) rfl rfl (by (try simp only [List.map_toArray, List.map_cons, List.map_nil]); rfl) ?_
            with_reducible refine (spec_l02Quant.calls ((rd_T36 l1 x8_3).f0) true _ A32.out).mono ?_
            rintro e w' ⟨rfl, ⟨nd, rfl⟩⟩
            refine ⟨_, rfl, ?_⟩
            refine hK.out _ _ ⟨(pw_cell_below HB.out hw237_0), (pw_cell_below HB.out hw237_1), (pw_cell_below HB.out hw237_2), (pw_cell_below HB.out hw237_3), (pw_cell_below HB.out hw237_4), (pw_cell_below HB.out hw237_5)⟩ (fun hHeld => ?_)
            clear hK K
            refine norm_ (a' := ?_) ?_ ?_
            rotate_left
            ·show Act.put _ (some 81) _ = _
             simp only [Act.put, List.setIfInBounds_toArray, List.set_cons_zero, List.set_cons_succ, i64_w, i32_w]
             rfl
            refine pure_ (i := 6) (N := some 82) (v := ?_) (a' := ?_) zA21x7 rfl rfl (any_of HT_.out (by kernel_rfl)) (fun _ _ _ h => h) (Or.inl ⟨by rfl, ?_⟩) ?_ ?_; rotate_left; (intro w'; go_simp; with_reducible rfl); rotate_left; (simp only [Act.put, List.setIfInBounds_toArray, List.set_cons_zero, List.set_cons_succ, i64_w, i32_w]; rfl)
            refine pure_ (i := 7) (N := some 83) (v := undef) (a' := ?_) zA22x7 rfl rfl (any_of HT_.out (by kernel_rfl)) (fun _ _ _ h => h) (Or.inr ⟨by rfl, rfl⟩) ?_ ?_
            rotate_left
            ·simp only [Act.put, List.setIfInBounds_toArray, List.set_cons_zero, List.set_cons_succ, i64_w, i32_w]
             rfl
            refine pure_ (i := 8) (N := some 84) (v := undef) (a' := ?_) zA23x7 rfl rfl (any_of HT_.out (by kernel_rfl)) (fun _ _ _ h => h) (Or.inr ⟨by rfl, rfl⟩) ?_ ?_
            rotate_left
            ·simp only [Act.put, List.setIfInBounds_toArray, List.set_cons_zero, List.set_cons_succ, i64_w, i32_w]
             rfl
            refine pure_ (i := 9) (N := some 85) (v := undef) (a' := ?_) zA24x7 rfl rfl (any_of HT_.out (by kernel_rfl)) (fun _ _ _ h => h) (Or.inr ⟨by rfl, rfl⟩) ?_ ?_
            rotate_left
            ·simp only [Act.put, List.setIfInBounds_toArray, List.set_cons_zero, List.set_cons_succ, i64_w, i32_w]
             rfl
            refine pure_ (i := 10) (N := some 86) (v := undef) (a' := ?_) zA25x7 rfl rfl (any_of HT_.out (by kernel_rfl)) (fun _ _ _ h => h) (Or.inr ⟨by rfl, rfl⟩) ?_ ?_
            rotate_left
            ·simp only [Act.put, List.setIfInBounds_toArray, List.set_cons_zero, List.set_cons_succ, i64_w, i32_w]
             rfl
            refine pure_ (i := 11) (N := some 87) (v := undef) (a' := ?_) zA26x7 rfl rfl (any_of HT_.out (by kernel_rfl)) (fun _ _ _ h => h) (Or.inr ⟨by rfl, rfl⟩) ?_ ?_
            rotate_left
            ·simp only [Act.put, List.setIfInBounds_toArray, List.set_cons_zero, List.set_cons_succ, i64_w, i32_w]
             rfl
            refine pure_ (i := 12) (N := some 88) (v := undef) (a' := ?_) zA27x7 rfl rfl (any_of HT_.out (by kernel_rfl)) (fun _ _ _ h => h) (Or.inr ⟨by rfl, rfl⟩) ?_ ?_
            rotate_left
            ·simp only [Act.put, List.setIfInBounds_toArray, List.set_cons_zero, List.set_cons_succ, i64_w, i32_w]
             rfl
            refine pure_ (i := 13) (N := some 89) (v := undef) (a' := ?_) zA28x7 rfl rfl (any_of HT_.out (by kernel_rfl)) (fun _ _ _ h => h) (Or.inr ⟨by rfl, rfl⟩) ?_ ?_
            rotate_left
            ·simp only [Act.put, List.setIfInBounds_toArray, List.set_cons_zero, List.set_cons_succ, i64_w, i32_w]
             rfl
            refine pure_ (i := 14) (N := some 90) (v := undef) (a' := ?_) zA29x7 rfl rfl (any_of HT_.out (by kernel_rfl)) (fun _ _ _ h => h) (Or.inr ⟨by rfl, rfl⟩) ?_ ?_
            rotate_left
            ·simp only [Act.put, List.setIfInBounds_toArray, List.set_cons_zero, List.set_cons_succ, i64_w, i32_w]
             rfl
            refine pure_ (i := 15) (N := some 91) (v := undef) (a' := ?_) zA30x7 rfl rfl (any_of HT_.out (by kernel_rfl)) (fun _ _ _ h => h) (Or.inr ⟨by rfl, rfl⟩) ?_ ?_
            rotate_left
            ·simp only [Act.put, List.setIfInBounds_toArray, List.set_cons_zero, List.set_cons_succ, i64_w, i32_w]
             rfl
            refine pure_ (i := 16) (N := some 92) (v := undef) (a' := ?_) zA31x7 rfl rfl (any_of HT_.out (by kernel_rfl)) (fun _ _ _ h => h) (Or.inr ⟨by rfl, rfl⟩) ?_ ?_
            rotate_left
            ·simp only [Act.put, List.setIfInBounds_toArray, List.set_cons_zero, List.set_cons_succ, i64_w, i32_w]
             rfl
            refine pure_ (i := 17) (N := some 93) (v := undef) (a' := ?_) zA32x7 rfl rfl (any_of HT_.out (by kernel_rfl)) (fun _ _ _ h => h) (Or.inr ⟨by rfl, rfl⟩) ?_ ?_
            rotate_left
            ·simp only [Act.put, List.setIfInBounds_toArray, List.set_cons_zero, List.set_cons_succ, i64_w, i32_w]
             rfl
            refine pure_ (i := 18) (N := some 94) (v := undef) (a' := ?_) zA33x7 rfl rfl (any_of HT_.out (by kernel_rfl)) (fun _ _ _ h => h) (Or.inr ⟨by rfl, rfl⟩) ?_ ?_
            rotate_left
            ·simp only [Act.put, List.setIfInBounds_toArray, List.set_cons_zero, List.set_cons_succ, i64_w, i32_w]
             rfl
            refine pure_ (i := 19) (N := some 95) (v := undef) (a' := ?_) zA34x7 rfl rfl (any_of HT_.out (by kernel_rfl)) (fun _ _ _ h => h) (Or.inr ⟨by rfl, rfl⟩) ?_ ?_
            rotate_left
            ·simp only [Act.put, List.setIfInBounds_toArray, List.set_cons_zero, List.set_cons_succ, i64_w, i32_w]
             rfl
            refine pure_ (i := 20) (N := some 96) (v := undef) (a' := ?_) zA35x7 rfl rfl (any_of HT_.out (by kernel_rfl)) (fun _ _ _ h => h) (Or.inr ⟨by rfl, rfl⟩) ?_ ?_
            rotate_left
            ·simp only [Act.put, List.setIfInBounds_toArray, List.set_cons_zero, List.set_cons_succ, i64_w, i32_w]
             rfl
            refine pure_ (i := 21) (N := some 97) (v := undef) (a' := ?_) zA36x7 rfl rfl (any_of HT_.out (by kernel_rfl)) (fun _ _ _ h => h) (Or.inr ⟨by rfl, rfl⟩) ?_ ?_
            rotate_left
            ·simp only [Act.put, List.setIfInBounds_toArray, List.set_cons_zero, List.set_cons_succ, i64_w, i32_w]
             rfl
            refine pure_ (i := 22) (N := some 98) (v := undef) (a' := ?_) zA37x7 rfl rfl (any_of HT_.out (by kernel_rfl)) (fun _ _ _ h => h) (Or.inr ⟨by rfl, rfl⟩) ?_ ?_
            rotate_left
            ·simp only [Act.put, List.setIfInBounds_toArray, List.set_cons_zero, List.set_cons_succ, i64_w, i32_w]
             rfl
            refine pure_ (i := 23) (N := some 99) (v := undef) (a' := ?_) zA38x7 rfl rfl (any_of HT_.out (by kernel_rfl)) (fun _ _ _ h => h) (Or.inr ⟨by rfl, rfl⟩) ?_ ?_
            rotate_left
            ·simp only [Act.put, List.setIfInBounds_toArray, List.set_cons_zero, List.set_cons_succ, i64_w, i32_w]
             rfl
            refine pure_ (i := 24) (N := some 100) (v := undef) (a' := ?_) zA39x7 rfl rfl (any_of HT_.out (by kernel_rfl)) (fun _ _ _ h => h) (Or.inr ⟨by rfl, rfl⟩) ?_ ?_
            rotate_left
            ·simp only [Act.put, List.setIfInBounds_toArray, List.set_cons_zero, List.set_cons_succ, i64_w, i32_w]
             rfl
            refine pure_ (i := 25) (N := some 101) (v := undef) (a' := ?_) zA40x7 rfl rfl (any_of HT_.out (by kernel_rfl)) (fun _ _ _ h => h) (Or.inr ⟨by rfl, rfl⟩) ?_ ?_
            rotate_left
            ·simp only [Act.put, List.setIfInBounds_toArray, List.set_cons_zero, List.set_cons_succ, i64_w, i32_w]
             rfl
            refine pure_ (i := 26) (N := some 102) (v := undef) (a' := ?_) zA41x7 rfl rfl (any_of HT_.out (by kernel_rfl)) (fun _ _ _ h => h) (Or.inr ⟨by rfl, rfl⟩) ?_ ?_
            rotate_left
            ·simp only [Act.put, List.setIfInBounds_toArray, List.set_cons_zero, List.set_cons_succ, i64_w, i32_w]
             rfl
            refine pure_ (i := 27) (N := some 103) (v := undef) (a' := ?_) zA42x7 rfl rfl (any_of HT_.out (by kernel_rfl)) (fun _ _ _ h => h) (Or.inr ⟨by rfl, rfl⟩) ?_ ?_
            rotate_left
            ·simp only [Act.put, List.setIfInBounds_toArray, List.set_cons_zero, List.set_cons_succ, i64_w, i32_w]
             rfl
            refine pure_ (i := 28) (N := some 104) (v := undef) (a' := ?_) zA43x7 rfl rfl (any_of HT_.out (by kernel_rfl)) (fun _ _ _ h => h) (Or.inr ⟨by rfl, rfl⟩) ?_ ?_
            rotate_left
            ·simp only [Act.put, List.setIfInBounds_toArray, List.set_cons_zero, List.set_cons_succ, i64_w, i32_w]
             rfl
            refine pure_ (i := 29) (N := some 105) (v := undef) (a' := ?_) zA44x7 rfl rfl (any_of HT_.out (by kernel_rfl)) (fun _ _ _ h => h) (Or.inr ⟨by rfl, rfl⟩) ?_ ?_
            rotate_left
            ·simp only [Act.put, List.setIfInBounds_toArray, List.set_cons_zero, List.set_cons_succ, i64_w, i32_w]
             rfl
            refine pure_ (i := 30) (N := some 106) (v := undef) (a' := ?_) zA45x7 rfl rfl (any_of HT_.out (by kernel_rfl)) (fun _ _ _ h => h) (Or.inr ⟨by rfl, rfl⟩) ?_ ?_
            rotate_left
            ·simp only [Act.put, List.setIfInBounds_toArray, List.set_cons_zero, List.set_cons_succ, i64_w, i32_w]
             rfl
            refine pure_ (i := 31) (N := some 107) (v := undef) (a' := ?_) zA46x7 rfl rfl (any_of HT_.out (by kernel_rfl)) (fun _ _ _ h => h) (Or.inr ⟨by rfl, rfl⟩) ?_ ?_
            rotate_left
            ·simp only [Act.put, List.setIfInBounds_toArray, List.set_cons_zero, List.set_cons_succ, i64_w, i32_w]
             rfl
            refine pure_ (i := 32) (N := some 108) (v := undef) (a' := ?_) zA47x7 rfl rfl (any_of HT_.out (by kernel_rfl)) (fun _ _ _ h => h) (Or.inr ⟨by rfl, rfl⟩) ?_ ?_
            rotate_left
            ·simp only [Act.put, List.setIfInBounds_toArray, List.set_cons_zero, List.set_cons_succ, i64_w, i32_w]
             rfl
            refine pure_ (i := 33) (N := some 109) (v := undef) (a' := ?_) zA48x7 rfl rfl (any_of HT_.out (by kernel_rfl)) (fun _ _ _ h => h) (Or.inr ⟨by rfl, rfl⟩) ?_ ?_
            rotate_left
            ·simp only [Act.put, List.setIfInBounds_toArray, List.set_cons_zero, List.set_cons_succ, i64_w, i32_w]
             rfl
            refine pure_ (i := 34) (N := some 110) (v := undef) (a' := ?_) zA49x7 rfl rfl (any_of HT_.out (by kernel_rfl)) (fun _ _ _ h => h) (Or.inr ⟨by rfl, rfl⟩) ?_ ?_
            rotate_left
            ·simp only [Act.put, List.setIfInBounds_toArray, List.set_cons_zero, List.set_cons_succ, i64_w, i32_w]
             rfl
            refine pure_ (i := 35) (N := some 111) (v := ?_) (a' := ?_) zA50x7 rfl rfl (any_of HT_.out (by kernel_rfl)) (fun _ _ _ h => h) (Or.inl ⟨by rfl, ?_⟩) ?_ ?_; rotate_left; (intro w'; go_simp; with_reducible rfl); rotate_left; (simp only [Act.put, List.setIfInBounds_toArray, List.set_cons_zero, List.set_cons_succ, i64_w, i32_w]; rfl)
            refine done_ (done_of HT_.out (by kernel_rfl)) ?_
            try go_wp2
            go_ret
            exact ⟨by rfl, by repeat (first | (with_reducible first | exact HB.out | apply below_alloc | apply pw_below_drewN | apply below_drew1))⟩
           ·replace c33 := Bool.eq_false_iff.mpr c33
            subst c33
            have H1 : (if x8_3 < (t234.length : Int) then (if rdOf false t234 x8_3 = true then (if ((rd_T36 l1 x8_3).f0) = 1 then (if 0 ≤ ((rd_T36 l1 x8_3).f2) then (if ((rd_T36 l1 x8_3).f2) < (x5_2.length : Int) then (if (rd x5_2 ((rd_T36 l1 x8_3).f2)) = ((rd_T36 l1 x8_3).f1) then (spec_FrontOk.l1 k3 l1 x5_2 t234 (wrap64 (x8_3 + 1))) else (some false)) else (none)) else (none)) else (spec_FrontOk.l1 k3 l1 x5_2 t234 (wrap64 (x8_3 + 1)))) else (spec_FrontOk.l1 k3 l1 x5_2 t234 (wrap64 (x8_3 + 1)))) else (none)) = some r := by rw [if_neg (show ¬ (false = true) by decide)] at H; exact H
            clear H
            have H := H1
            clear H1
            by_cases c35 : x8_3 < (t234.length : Int)
            ·rw [if_pos c35] at H
             have c35b0 : decide (x8_3 < (t234.length : Int)) = true := decide_eq_true c35
             clear c35
             obtain ⟨bq36, hbq36⟩ : ∃ b_ : Bool, b_ = (rdOf false t234 x8_3) := ⟨_, rfl⟩
             replace H : (if bq36 = true then (if ((rd_T36 l1 x8_3).f0) = 1 then (if 0 ≤ ((rd_T36 l1 x8_3).f2) then (if ((rd_T36 l1 x8_3).f2) < (x5_2.length : Int) then (if (rd x5_2 ((rd_T36 l1 x8_3).f2)) = ((rd_T36 l1 x8_3).f1) then (spec_FrontOk.l1 k3 l1 x5_2 t234 (wrap64 (x8_3 + 1))) else (some false)) else (none)) else (none)) else (spec_FrontOk.l1 k3 l1 x5_2 t234 (wrap64 (x8_3 + 1)))) else (spec_FrontOk.l1 k3 l1 x5_2 t234 (wrap64 (x8_3 + 1)))) = some r := by rw [← hbq36] at H; exact H
             have Nbq36 := Aside0.mk hbq36
             clear hbq36
             by_cases c37 : bq36 = true
             ·subst c37
              have H1 : (if ((rd_T36 l1 x8_3).f0) = 1 then (if 0 ≤ ((rd_T36 l1 x8_3).f2) then (if ((rd_T36 l1 x8_3).f2) < (x5_2.length : Int) then (if (rd x5_2 ((rd_T36 l1 x8_3).f2)) = ((rd_T36 l1 x8_3).f1) then (spec_FrontOk.l1 k3 l1 x5_2 t234 (wrap64 (x8_3 + 1))) else (some false)) else (none)) else (none)) else (spec_FrontOk.l1 k3 l1 x5_2 t234 (wrap64 (x8_3 + 1)))) = some r := by rw [if_pos rfl] at H; exact H
              clear H
              have H := H1
              clear H1
              by_cases c38 : ((rd_T36 l1 x8_3).f0) = 1
              ·rw [if_pos c38] at H
               have c38b0 : (((rd_T36 l1 x8_3).f0) == 1) = true := beq_iff_eq.mpr c38
               have c38b1 : (((rd_T36 l1 x8_3).f0) != 1) = false := bne_eq_false_iff_eq.mpr c38
               clear c38
               by_cases c39 : 0 ≤ ((rd_T36 l1 x8_3).f2)
               ·rw [if_pos c39] at H
                have c39b0 : decide (0 ≤ ((rd_T36 l1 x8_3).f2)) = true := decide_eq_true c39
                clear c39
                by_cases c40 : ((rd_T36 l1 x8_3).f2) < (x5_2.length : Int)
                ·rw [if_pos c40] at H
                 have c40b0 : decide (((rd_T36 l1 x8_3).f2) < (x5_2.length : Int)) = true := decide_eq_true c40
                 clear c40
                 by_cases c41 : (rd x5_2 ((rd_T36 l1 x8_3).f2)) = ((rd_T36 l1 x8_3).f1)
                 ·rw [if_pos c41] at H
                  have c41b0 : ((rd x5_2 ((rd_T36 l1 x8_3).f2)) == ((rd_T36 l1 x8_3).f1)) = true := beq_iff_eq.mpr c41
                  have c41b1 : ((rd x5_2 ((rd_T36 l1 x8_3).f2)) != ((rd_T36 l1 x8_3).f1)) = false := bne_eq_false_iff_eq.mpr c41
                  clear c41
                  have H' := Aside0.mk H
                  clear H
                  try go_wp2
                  have n0_ := Aside0.mk (Kd.R_drew HO_5.out)
                  have n1_ := Aside0.mk (Kd.R_drew HO_7.out)
                  have n2_ := Aside0.mk (below_drew1 HB.out)
                  clear HO_5
                  clear HO_7
                  clear HB
                  have HO_5 := n0_
                  have HO_7 := n1_
                  have HB := n2_
                  clear n0_ n1_ n2_
                  have p237 : 0 ≤ (x8_3 : Int) := of_decide_eq_true (by assumption)
                  have q237 : x8_3 < (l1.length : Int) := of_decide_eq_true (by assumption)
                  obtain ⟨ad237, e237, hx237_0, hx237_1, hx237_2, hx237_3, hx237_4, hx237_5⟩ := at_T36 HR1.out x8_3 p237 q237
                  have hw237_5 := hx237_5
                  have hw237_4 := hx237_4
                  have hw237_3 := hx237_3
                  have hw237_2 := hx237_2
                  have hw237_1 := hx237_1
                  have hw237_0 := hx237_0
                  cases e237
                  replace hx237_0 := pw_cell_below HB.out hx237_0
                  replace hx237_1 := pw_cell_below HB.out hx237_1
                  replace hx237_2 := pw_cell_below HB.out hx237_2
                  replace hx237_3 := pw_cell_below HB.out hx237_3
                  replace hx237_4 := pw_cell_below HB.out hx237_4
                  replace hx237_5 := pw_cell_below HB.out hx237_5
                  replace p237 := eq_true p237
                  replace q237 := eq_true q237
                  have p239 : 0 ≤ (x8_3 : Int) := of_decide_eq_true (by assumption)
                  have q239 : x8_3 < (t234.length : Int) := of_decide_eq_true (by assumption)
                  obtain ⟨Ao_front_, co_front_, eo_front_⟩ := Kd.R_slice HO_7.out
                  subst eo_front_
                  obtain ⟨ad239, e239, hx239_0⟩ := Kd.at_bool (Kd.R_reads' HO_7.out).2.2 x8_3 p239 q239
                  (try rw [← Nbq36.out] at hx239_0)
                  cases e239
                  replace p239 := eq_true p239
                  replace q239 := eq_true q239
                  have p240 : 0 ≤ (x8_3 : Int) := of_decide_eq_true (by assumption)
                  have q240 : x8_3 < (l1.length : Int) := of_decide_eq_true (by assumption)
                  obtain ⟨ad240, e240, hx240_0, hx240_1, hx240_2, hx240_3, hx240_4, hx240_5⟩ := at_T36 HR1.out x8_3 p240 q240
                  have hw240_5 := hx240_5
                  have hw240_4 := hx240_4
                  have hw240_3 := hx240_3
                  have hw240_2 := hx240_2
                  have hw240_1 := hx240_1
                  have hw240_0 := hx240_0
                  obtain rfl : ad237 = ad240 := (by injection e240)
                  replace hx240_0 := pw_cell_below HB.out hx240_0
                  replace hx240_1 := pw_cell_below HB.out hx240_1
                  replace hx240_2 := pw_cell_below HB.out hx240_2
                  replace hx240_3 := pw_cell_below HB.out hx240_3
                  replace hx240_4 := pw_cell_below HB.out hx240_4
                  replace hx240_5 := pw_cell_below HB.out hx240_5
                  replace p240 := eq_true p240
                  replace q240 := eq_true q240
                  have p241 : 0 ≤ (x8_3 : Int) := of_decide_eq_true (by assumption)
                  have q241 : x8_3 < (l1.length : Int) := of_decide_eq_true (by assumption)
                  obtain ⟨ad241, e241, hx241_0, hx241_1, hx241_2, hx241_3, hx241_4, hx241_5⟩ := at_T36 HR1.out x8_3 p241 q241
                  have hw241_5 := hx241_5
                  have hw241_4 := hx241_4
                  have hw241_3 := hx241_3
                  have hw241_2 := hx241_2
                  have hw241_1 := hx241_1
                  have hw241_0 := hx241_0
                  obtain rfl : ad237 = ad241 := (by injection e241)
                  replace hx241_0 := pw_cell_below HB.out hx241_0
                  replace hx241_1 := pw_cell_below HB.out hx241_1
                  replace hx241_2 := pw_cell_below HB.out hx241_2
                  replace hx241_3 := pw_cell_below HB.out hx241_3
                  replace hx241_4 := pw_cell_below HB.out hx241_4
                  replace hx241_5 := pw_cell_below HB.out hx241_5
                  replace p241 := eq_true p241
                  replace q241 := eq_true q241
                  have p242 : 0 ≤ (((rd_T36 l1 x8_3).f2) : Int) := of_decide_eq_true (by assumption)
                  have q242 : ((rd_T36 l1 x8_3).f2) < (x5_2.length : Int) := of_decide_eq_true (by assumption)
                  obtain ⟨Ai_front_, ci_front_, ei_front_⟩ := Kd.R_slice HO_5.out
                  subst ei_front_
                  obtain ⟨ad242, e242, hx242_0⟩ := Kd.at_int (Kd.R_reads' HO_5.out).2.2 ((rd_T36 l1 x8_3).f2) p242 q242
                  cases e242
                  replace p242 := eq_true p242
                  replace q242 := eq_true q242
                  have p243 : 0 ≤ (x8_3 : Int) := of_decide_eq_true (by assumption)
                  have q243 : x8_3 < (l1.length : Int) := of_decide_eq_true (by assumption)
                  obtain ⟨ad243, e243, hx243_0, hx243_1, hx243_2, hx243_3, hx243_4, hx243_5⟩ := at_T36 HR1.out x8_3 p243 q243
                  have hw243_5 := hx243_5
                  have hw243_4 := hx243_4
                  have hw243_3 := hx243_3
                  have hw243_2 := hx243_2
                  have hw243_1 := hx243_1
                  have hw243_0 := hx243_0
                  obtain rfl : ad237 = ad243 := (by injection e243)
                  replace hx243_0 := pw_cell_below HB.out hx243_0
                  replace hx243_1 := pw_cell_below HB.out hx243_1
                  replace hx243_2 := pw_cell_below HB.out hx243_2
                  replace hx243_3 := pw_cell_below HB.out hx243_3
                  replace hx243_4 := pw_cell_below HB.out hx243_4
                  replace hx243_5 := pw_cell_below HB.out hx243_5
                  replace p243 := eq_true p243
                  replace q243 := eq_true q243
                  refine start_ (n := 36) (S := fun w' => w'.cell? (ad237.add ((x8_3).toNat * 6)) = some (.int .i64 ((rd_T36 l1 x8_3).f0)) ∧ w'.cell? ⟨(ad237.add ((x8_3).toNat * 6)).block, (ad237.add ((x8_3).toNat * 6)).off + 1, none⟩ = some (.int .i64 ((rd_T36 l1 x8_3).f1)) ∧ w'.cell? ⟨(ad237.add ((x8_3).toNat * 6)).block, (ad237.add ((x8_3).toNat * 6)).off + 2, none⟩ = some (.int .i64 ((rd_T36 l1 x8_3).f2)) ∧ w'.cell? ⟨(ad237.add ((x8_3).toNat * 6)).block, (ad237.add ((x8_3).toNat * 6)).off + 3, none⟩ = some (.int .i64 ((rd_T36 l1 x8_3).f3)) ∧ w'.cell? ⟨(ad237.add ((x8_3).toNat * 6)).block, (ad237.add ((x8_3).toNat * 6)).off + 4, none⟩ = some (.int .i64 ((rd_T36 l1 x8_3).f4)) ∧ w'.cell? ⟨(ad237.add ((x8_3).toNat * 6)).block, (ad237.add ((x8_3).toNat * 6)).off + 5, none⟩ = some (.int .i64 ((rd_T36 l1 x8_3).f5)) ∧ w'.cell? (ad239.add (x8_3).toNat) = some (.bool true) ∧ w'.cell? (ad237.add ((x8_3).toNat * 6)) = some (.int .i64 ((rd_T36 l1 x8_3).f0)) ∧ w'.cell? ⟨(ad237.add ((x8_3).toNat * 6)).block, (ad237.add ((x8_3).toNat * 6)).off + 1, none⟩ = some (.int .i64 ((rd_T36 l1 x8_3).f1)) ∧ w'.cell? ⟨(ad237.add ((x8_3).toNat * 6)).block, (ad237.add ((x8_3).toNat * 6)).off + 2, none⟩ = some (.int .i64 ((rd_T36 l1 x8_3).f2)) ∧ w'.cell? ⟨(ad237.add ((x8_3).toNat * 6)).block, (ad237.add ((x8_3).toNat * 6)).off + 3, none⟩ = some (.int .i64 ((rd_T36 l1 x8_3).f3)) ∧ w'.cell? ⟨(ad237.add ((x8_3).toNat * 6)).block, (ad237.add ((x8_3).toNat * 6)).off + 4, none⟩ = some (.int .i64 ((rd_T36 l1 x8_3).f4)) ∧ w'.cell? ⟨(ad237.add ((x8_3).toNat * 6)).block, (ad237.add ((x8_3).toNat * 6)).off + 5, none⟩ = some (.int .i64 ((rd_T36 l1 x8_3).f5)) ∧ w'.cell? (ad237.add ((x8_3).toNat * 6)) = some (.int .i64 ((rd_T36 l1 x8_3).f0)) ∧ w'.cell? ⟨(ad237.add ((x8_3).toNat * 6)).block, (ad237.add ((x8_3).toNat * 6)).off + 1, none⟩ = some (.int .i64 ((rd_T36 l1 x8_3).f1)) ∧ w'.cell? ⟨(ad237.add ((x8_3).toNat * 6)).block, (ad237.add ((x8_3).toNat * 6)).off + 2, none⟩ = some (.int .i64 ((rd_T36 l1 x8_3).f2)) ∧ w'.cell? ⟨(ad237.add ((x8_3).toNat * 6)).block, (ad237.add ((x8_3).toNat * 6)).off + 3, none⟩ = some (.int .i64 ((rd_T36 l1 x8_3).f3)) ∧ w'.cell? ⟨(ad237.add ((x8_3).toNat * 6)).block, (ad237.add ((x8_3).toNat * 6)).off + 4, none⟩ = some (.int .i64 ((rd_T36 l1 x8_3).f4)) ∧ w'.cell? ⟨(ad237.add ((x8_3).toNat * 6)).block, (ad237.add ((x8_3).toNat * 6)).off + 5, none⟩ = some (.int .i64 ((rd_T36 l1 x8_3).f5)) ∧ w'.cell? (ad242.add (((rd_T36 l1 x8_3).f2)).toNat) = some (.int .i64 (rd x5_2 ((rd_T36 l1 x8_3).f2))) ∧ w'.cell? (ad237.add ((x8_3).toNat * 6)) = some (.int .i64 ((rd_T36 l1 x8_3).f0)) ∧ w'.cell? ⟨(ad237.add ((x8_3).toNat * 6)).block, (ad237.add ((x8_3).toNat * 6)).off + 1, none⟩ = some (.int .i64 ((rd_T36 l1 x8_3).f1)) ∧ w'.cell? ⟨(ad237.add ((x8_3).toNat * 6)).block, (ad237.add ((x8_3).toNat * 6)).off + 2, none⟩ = some (.int .i64 ((rd_T36 l1 x8_3).f2)) ∧ w'.cell? ⟨(ad237.add ((x8_3).toNat * 6)).block, (ad237.add ((x8_3).toNat * 6)).off + 3, none⟩ = some (.int .i64 ((rd_T36 l1 x8_3).f3)) ∧ w'.cell? ⟨(ad237.add ((x8_3).toNat * 6)).block, (ad237.add ((x8_3).toNat * 6)).off + 4, none⟩ = some (.int .i64 ((rd_T36 l1 x8_3).f4)) ∧ w'.cell? ⟨(ad237.add ((x8_3).toNat * 6)).block, (ad237.add ((x8_3).toNat * 6)).off + 5, none⟩ = some (.int .i64 ((rd_T36 l1 x8_3).f5))) (ds := []) zA14x7 (by kernel_rfl) rfl rfl ⟨(pw_cell_below HB.out hw237_0), (pw_cell_below HB.out hw237_1), (pw_cell_below HB.out hw237_2), (pw_cell_below HB.out hw237_3), (pw_cell_below HB.out hw237_4), (pw_cell_below HB.out hw237_5), hx239_0, (pw_cell_below HB.out hw240_0), (pw_cell_below HB.out hw240_1), (pw_cell_below HB.out hw240_2), (pw_cell_below HB.out hw240_3), (pw_cell_below HB.out hw240_4), (pw_cell_below HB.out hw240_5), (pw_cell_below HB.out hw241_0), (pw_cell_below HB.out hw241_1), (pw_cell_below HB.out hw241_2), (pw_cell_below HB.out hw241_3), (pw_cell_below HB.out hw241_4), (pw_cell_below HB.out hw241_5), hx242_0, (pw_cell_below HB.out hw243_0), (pw_cell_below HB.out hw243_1), (pw_cell_below HB.out hw243_2), (pw_cell_below HB.out hw243_3), (pw_cell_below HB.out hw243_4), (pw_cell_below HB.out hw243_5)⟩ (fun hHeld => ?_); refine with_tabW spec_FrontOk.tab14 spec_FrontOk.bits14 (fun HT_ HW_ => ?_)
                  generalize wr.drew = w42 at HO_5 HO_7 HB hx237_0 hx237_1 hx237_2 hx237_3 hx237_4 hx237_5 hx239_0 hx240_0 hx240_1 hx240_2 hx240_3 hx240_4 hx240_5 hx241_0 hx241_1 hx241_2 hx241_3 hx241_4 hx241_5 hx242_0 hx243_0 hx243_1 hx243_2 hx243_3 hx243_4 hx243_5 hHeld ⊢
                  refine pure_ (i := 0) (N := some 76) (v := ?_) (a' := ?_) zA15x7 rfl rfl (any_of HT_.out (by kernel_rfl)) (fun _ _ _ h => h) (Or.inl ⟨by rfl, ?_⟩) ?_ ?_; rotate_left; (intro w'; go_simp; with_reducible rfl); rotate_left; (simp only [Act.put, List.setIfInBounds_toArray, List.set_cons_zero, List.set_cons_succ, i64_w, i32_w]; rfl)
                  refine pure_ (i := 1) (N := some 77) (v := ?_) (a' := ?_) zA16x7 rfl rfl (any_of HT_.out (by kernel_rfl)) (fun _ _ _ h => h) (Or.inl ⟨by rfl, ?_⟩) ?_ ?_; rotate_left; (intro w'; go_simp; with_reducible rfl); rotate_left; (simp only [Act.put, List.setIfInBounds_toArray, List.set_cons_zero, List.set_cons_succ, i64_w, i32_w]; rfl)
                  refine pure_ (i := 2) (N := some 78) (v := ?_) (a' := ?_) zA17x7 rfl rfl (any_of HT_.out (by kernel_rfl)) (fun _ _ _ h => h) (Or.inl ⟨by rfl, ?_⟩) ?_ ?_; rotate_left; (intro w'; go_simp; with_reducible rfl); rotate_left; (simp only [Act.put, List.setIfInBounds_toArray, List.set_cons_zero, List.set_cons_succ, i64_w, i32_w]; rfl)
                  refine pure_ (i := 3) (N := some 79) (v := ?_) (a' := ?_) zA18x7 rfl rfl (any_of HT_.out (by kernel_rfl)) (fun _ _ _ h => h) (Or.inl ⟨by rfl, ?_⟩) ?_ ?_; rotate_left; (intro w'; go_simp; with_reducible rfl); rotate_left; (simp only [Act.put, List.setIfInBounds_toArray, List.set_cons_zero, List.set_cons_succ, i64_w, i32_w]; rfl)
                  refine take_ (i := 4) (N := some 80) (v := ?_) (a' := ?_) zA19x7 rfl rfl (take_ofW HT_.out HW_.out (by kernel_rfl)) (fun _ _ _ h => h) (Or.inl ⟨by rfl, ?_⟩) hHeld ?_ ?_
                  rotate_left
                  ·rintro w' ⟨s0, s1, s2, s3, s4, s5, s6, s7, s8, s9, s10, s11, s12, s13, s14, s15, s16, s17, s18, s19, s20, s21, s22, s23, s24, s25⟩
                   go_simp
                   with_reducible rfl
                  rotate_left
                  ·simp only [Act.put, List.setIfInBounds_toArray, List.set_cons_zero, List.set_cons_succ, i64_w, i32_w]
                   rfl
                  refine one_ (i := 5) (N := some 81) zA20x7 rfl rfl (one_of HT_.out (by kernel_rfl)) (by decide) (fun K hK => ?_)
                  refine goes_ Try.func51 (by kernel_rfl) rfl #[.int .i64 ((rd_T36 l1 x8_3).f0)] (by rfl) rfl rfl (by (try simp only [List.map_toArray, List.map_cons, List.map_nil]); rfl) ?_
                  with_reducible refine (spec_l02Quant.calls ((rd_T36 l1 x8_3).f0) false _ A32.out).mono ?_
                  rintro e w' ⟨rfl, ⟨nd, rfl⟩⟩
                  refine ⟨_, rfl, ?_⟩
                  obtain ⟨Ao43, co43, eo43⟩ := Kd.R_slice HO_7.out
                  ((injection eo43 with f1_ f2_ f3_; have f4_ := f1_.symm; have f5_ := f3_.symm; clear f1_ f2_ f3_; subst f4_; subst f5_))
                  obtain ⟨Ao44, co44, eo44⟩ := Kd.R_slice HO_5.out
                  ((injection eo44 with f1_ f2_ f3_; have f4_ := f1_.symm; have f5_ := f3_.symm; clear f1_ f2_ f3_; subst f4_; subst f5_))
                  refine hK.out _ _ ⟨(pw_cell_below HB.out hw237_0), (pw_cell_below HB.out hw237_1), (pw_cell_below HB.out hw237_2), (pw_cell_below HB.out hw237_3), (pw_cell_below HB.out hw237_4), (pw_cell_below HB.out hw237_5), hHeld.2.2.2.2.2.2.1, (pw_cell_below HB.out hw240_0), (pw_cell_below HB.out hw240_1), (pw_cell_below HB.out hw240_2), (pw_cell_below HB.out hw240_3), (pw_cell_below HB.out hw240_4), (pw_cell_below HB.out hw240_5), (pw_cell_below HB.out hw241_0), (pw_cell_below HB.out hw241_1), (pw_cell_below HB.out hw241_2), (pw_cell_below HB.out hw241_3), (pw_cell_below HB.out hw241_4), (pw_cell_below HB.out hw241_5), hHeld.2.2.2.2.2.2.2.2.2.2.2.2.2.2.2.2.2.2.2.1, (pw_cell_below HB.out hw243_0), (pw_cell_below HB.out hw243_1), (pw_cell_below HB.out hw243_2), (pw_cell_below HB.out hw243_3), (pw_cell_below HB.out hw243_4), (pw_cell_below HB.out hw243_5)⟩ (fun hHeld => ?_)
                  clear hK K
                  refine norm_ (a' := ?_) ?_ ?_
                  rotate_left
                  ·show Act.put _ (some 81) _ = _
                   simp only [Act.put, List.setIfInBounds_toArray, List.set_cons_zero, List.set_cons_succ, i64_w, i32_w]
                   rfl
                  refine pure_ (i := 6) (N := some 82) (v := ?_) (a' := ?_) zA21x7 rfl rfl (any_of HT_.out (by kernel_rfl)) (fun _ _ _ h => h) (Or.inl ⟨by rfl, ?_⟩) ?_ ?_; rotate_left; (intro w'; go_simp; with_reducible rfl); rotate_left; (simp only [Act.put, List.setIfInBounds_toArray, List.set_cons_zero, List.set_cons_succ, i64_w, i32_w]; rfl)
                  refine pure_ (i := 7) (N := some 83) (v := ?_) (a' := ?_) zA22x7 rfl rfl (any_of HT_.out (by kernel_rfl)) (fun _ _ _ h => h) (Or.inl ⟨by rfl, ?_⟩) ?_ ?_; rotate_left; (intro w'; go_simp; with_reducible rfl); rotate_left; (simp only [Act.put, List.setIfInBounds_toArray, List.set_cons_zero, List.set_cons_succ, i64_w, i32_w]; rfl)
                  refine pure_ (i := 8) (N := some 84) (v := ?_) (a' := ?_) zA23x7 rfl rfl (any_of HT_.out (by kernel_rfl)) (fun _ _ _ h => h) (Or.inl ⟨by rfl, ?_⟩) ?_ ?_; rotate_left; (intro w'; go_simp; with_reducible rfl); rotate_left; (simp only [Act.put, List.setIfInBounds_toArray, List.set_cons_zero, List.set_cons_succ, i64_w, i32_w]; rfl)
                  refine pure_ (i := 9) (N := some 85) (v := ?_) (a' := ?_) zA24x7 rfl rfl (any_of HT_.out (by kernel_rfl)) (fun _ _ _ h => h) (Or.inl ⟨by rfl, ?_⟩) ?_ ?_; rotate_left; (intro w'; go_simp; with_reducible rfl); rotate_left; (simp only [Act.put, List.setIfInBounds_toArray, List.set_cons_zero, List.set_cons_succ, i64_w, i32_w]; rfl)
                  refine take_ (i := 10) (N := some 86) (v := ?_) (a' := ?_) zA25x7 rfl rfl (take_ofW HT_.out HW_.out (by kernel_rfl)) (fun _ _ _ h => h) (Or.inl ⟨by rfl, ?_⟩) hHeld ?_ ?_
                  rotate_left
                  ·rintro w' ⟨s0, s1, s2, s3, s4, s5, s6, s7, s8, s9, s10, s11, s12, s13, s14, s15, s16, s17, s18, s19, s20, s21, s22, s23, s24, s25⟩
                   go_simp
                   with_reducible rfl
                  rotate_left
                  ·simp only [Act.put, List.setIfInBounds_toArray, List.set_cons_zero, List.set_cons_succ, i64_w, i32_w]
                   rfl
                  refine pure_ (i := 11) (N := some 87) (v := ?_) (a' := ?_) zA26x7 rfl rfl (any_of HT_.out (by kernel_rfl)) (fun _ _ _ h => h) (Or.inl ⟨by rfl, ?_⟩) ?_ ?_; rotate_left; (intro w'; go_simp; with_reducible rfl); rotate_left; (simp only [Act.put, List.setIfInBounds_toArray, List.set_cons_zero, List.set_cons_succ, i64_w, i32_w]; rfl)
                  refine pure_ (i := 12) (N := some 88) (v := ?_) (a' := ?_) zA27x7 rfl rfl (any_of HT_.out (by kernel_rfl)) (fun _ _ _ h => h) (Or.inl ⟨by rfl, ?_⟩) ?_ ?_; rotate_left; (intro w'; go_simp; with_reducible rfl); rotate_left; (simp only [Act.put, List.setIfInBounds_toArray, List.set_cons_zero, List.set_cons_succ, i64_w, i32_w]; rfl)
                  refine pure_ (i := 13) (N := some 89) (v := ?_) (a' := ?_) zA28x7 rfl rfl (any_of HT_.out (by kernel_rfl)) (fun _ _ _ h => h) (Or.inl ⟨by rfl, ?_⟩) ?_ ?_; rotate_left; (intro w'; go_simp; with_reducible rfl); rotate_left; (simp only [Act.put, List.setIfInBounds_toArray, List.set_cons_zero, List.set_cons_succ, i64_w, i32_w]; rfl)
                  refine pure_ (i := 14) (N := some 90) (v := ?_) (a' := ?_) zA29x7 rfl rfl (any_of HT_.out (by kernel_rfl)) (fun _ _ _ h => h) (Or.inl ⟨by rfl, ?_⟩) ?_ ?_; rotate_left; (intro w'; go_simp; with_reducible rfl); rotate_left; (simp only [Act.put, List.setIfInBounds_toArray, List.set_cons_zero, List.set_cons_succ, i64_w, i32_w]; rfl)
                  refine pure_ (i := 15) (N := some 91) (v := ?_) (a' := ?_) zA30x7 rfl rfl (any_of HT_.out (by kernel_rfl)) (fun _ _ _ h => h) (Or.inl ⟨by rfl, ?_⟩) ?_ ?_; rotate_left; (intro w'; go_simp; with_reducible rfl); rotate_left; (simp only [Act.put, List.setIfInBounds_toArray, List.set_cons_zero, List.set_cons_succ, i64_w, i32_w]; rfl)
                  refine take_ (i := 16) (N := some 92) (v := ?_) (a' := ?_) zA31x7 rfl rfl (take_ofW HT_.out HW_.out (by kernel_rfl)) (fun _ _ _ h => h) (Or.inl ⟨by rfl, ?_⟩) hHeld ?_ ?_
                  rotate_left
                  ·rintro w' ⟨s0, s1, s2, s3, s4, s5, s6, s7, s8, s9, s10, s11, s12, s13, s14, s15, s16, s17, s18, s19, s20, s21, s22, s23, s24, s25⟩
                   go_simp
                   with_reducible rfl
                  rotate_left
                  ·simp only [Act.put, List.setIfInBounds_toArray, List.set_cons_zero, List.set_cons_succ, i64_w, i32_w]
                   rfl
                  refine pure_ (i := 17) (N := some 93) (v := ?_) (a' := ?_) zA32x7 rfl rfl (any_of HT_.out (by kernel_rfl)) (fun _ _ _ h => h) (Or.inl ⟨by rfl, ?_⟩) ?_ ?_; rotate_left; (intro w'; go_simp; with_reducible rfl); rotate_left; (simp only [Act.put, List.setIfInBounds_toArray, List.set_cons_zero, List.set_cons_succ, i64_w, i32_w]; rfl)
                  refine pure_ (i := 18) (N := some 94) (v := ?_) (a' := ?_) zA33x7 rfl rfl (any_of HT_.out (by kernel_rfl)) (fun _ _ _ h => h) (Or.inl ⟨by rfl, ?_⟩) ?_ ?_; rotate_left; (intro w'; go_simp; with_reducible rfl); rotate_left; (simp only [Act.put, List.setIfInBounds_toArray, List.set_cons_zero, List.set_cons_succ, i64_w, i32_w]; rfl)
                  refine pure_ (i := 19) (N := some 95) (v := ?_) (a' := ?_) zA34x7 rfl rfl (any_of HT_.out (by kernel_rfl)) (fun _ _ _ h => h) (Or.inl ⟨by rfl, ?_⟩) ?_ ?_; rotate_left; (intro w'; go_simp; with_reducible rfl); rotate_left; (simp only [Act.put, List.setIfInBounds_toArray, List.set_cons_zero, List.set_cons_succ, i64_w, i32_w]; rfl)
                  refine pure_ (i := 20) (N := some 96) (v := ?_) (a' := ?_) zA35x7 rfl rfl (any_of HT_.out (by kernel_rfl)) (fun _ _ _ h => h) (Or.inl ⟨by rfl, ?_⟩) ?_ ?_; rotate_left; (intro w'; go_simp; with_reducible rfl); rotate_left; (simp only [Act.put, List.setIfInBounds_toArray, List.set_cons_zero, List.set_cons_succ, i64_w, i32_w]; rfl)
                  refine pure_ (i := 21) (N := some 97) (v := ?_) (a' := ?_) zA36x7 rfl rfl (any_of HT_.out (by kernel_rfl)) (fun _ _ _ h => h) (Or.inl ⟨by rfl, ?_⟩) ?_ ?_; rotate_left; (intro w'; go_simp; with_reducible rfl); rotate_left; (simp only [Act.put, List.setIfInBounds_toArray, List.set_cons_zero, List.set_cons_succ, i64_w, i32_w]; rfl)
                  refine pure_ (i := 22) (N := some 98) (v := ?_) (a' := ?_) zA37x7 rfl rfl (any_of HT_.out (by kernel_rfl)) (fun _ _ _ h => h) (Or.inl ⟨by rfl, ?_⟩) ?_ ?_; rotate_left; (intro w'; go_simp; with_reducible rfl); rotate_left; (simp only [Act.put, List.setIfInBounds_toArray, List.set_cons_zero, List.set_cons_succ, i64_w, i32_w]; rfl)
                  refine pure_ (i := 23) (N := some 99) (v := ?_) (a' := ?_) zA38x7 rfl rfl (any_of HT_.out (by kernel_rfl)) (fun _ _ _ h => h) (Or.inl ⟨by rfl, ?_⟩) ?_ ?_; rotate_left; (intro w'; go_simp; with_reducible rfl); rotate_left; (simp only [Act.put, List.setIfInBounds_toArray, List.set_cons_zero, List.set_cons_succ, i64_w, i32_w]; rfl)
                  refine pure_ (i := 24) (N := some 100) (v := ?_) (a' := ?_) zA39x7 rfl rfl (any_of HT_.out (by kernel_rfl)) (fun _ _ _ h => h) (Or.inl ⟨by rfl, ?_⟩) ?_ ?_; rotate_left; (intro w'; go_simp; with_reducible rfl); rotate_left; (simp only [Act.put, List.setIfInBounds_toArray, List.set_cons_zero, List.set_cons_succ, i64_w, i32_w]; rfl)
                  refine pure_ (i := 28) (N := some 104) (v := ?_) (a' := ?_) zA51x7 rfl rfl (any_of HT_.out (by kernel_rfl)) (fun _ _ _ h => h) (Or.inl ⟨by rfl, ?_⟩) ?_ ?_; rotate_left; (intro w'; go_simp; with_reducible rfl); rotate_left; (simp only [Act.put, List.setIfInBounds_toArray, List.set_cons_zero, List.set_cons_succ, i64_w, i32_w]; rfl)
                  refine pure_ (i := 29) (N := some 105) (v := ?_) (a' := ?_) zA52x7 rfl rfl (any_of HT_.out (by kernel_rfl)) (fun _ _ _ h => h) (Or.inl ⟨by rfl, ?_⟩) ?_ ?_; rotate_left; (intro w'; go_simp; with_reducible rfl); rotate_left; (simp only [Act.put, List.setIfInBounds_toArray, List.set_cons_zero, List.set_cons_succ, i64_w, i32_w]; rfl)
                  refine pure_ (i := 30) (N := some 106) (v := ?_) (a' := ?_) zA53x7 rfl rfl (any_of HT_.out (by kernel_rfl)) (fun _ _ _ h => h) (Or.inl ⟨by rfl, ?_⟩) ?_ ?_; rotate_left; (intro w'; go_simp; with_reducible rfl); rotate_left; (simp only [Act.put, List.setIfInBounds_toArray, List.set_cons_zero, List.set_cons_succ, i64_w, i32_w]; rfl)
                  refine pure_ (i := 31) (N := some 107) (v := ?_) (a' := ?_) zA54x7 rfl rfl (any_of HT_.out (by kernel_rfl)) (fun _ _ _ h => h) (Or.inl ⟨by rfl, ?_⟩) ?_ ?_; rotate_left; (intro w'; go_simp; with_reducible rfl); rotate_left; (simp only [Act.put, List.setIfInBounds_toArray, List.set_cons_zero, List.set_cons_succ, i64_w, i32_w]; rfl)
                  refine take_ (i := 25) (N := some 101) (v := ?_) (a' := ?_) zA55x7 rfl rfl (take_ofW HT_.out HW_.out (by kernel_rfl)) (fun _ _ _ h => h) (Or.inl ⟨by rfl, ?_⟩) hHeld ?_ ?_
                  rotate_left
                  ·rintro w' ⟨s0, s1, s2, s3, s4, s5, s6, s7, s8, s9, s10, s11, s12, s13, s14, s15, s16, s17, s18, s19, s20, s21, s22, s23, s24, s25⟩
                   go_simp
                   with_reducible rfl
                  rotate_left
                  ·simp only [Act.put, List.setIfInBounds_toArray, List.set_cons_zero, List.set_cons_succ, i64_w, i32_w]
                   rfl
                  refine pure_ (i := 26) (N := some 102) (v := ?_) (a' := ?_) zA56x7 rfl rfl (any_of HT_.out (by kernel_rfl)) (fun _ _ _ h => h) (Or.inl ⟨by rfl, ?_⟩) ?_ ?_; rotate_left; (intro w'; go_simp; with_reducible rfl); rotate_left; (simp only [Act.put, List.setIfInBounds_toArray, List.set_cons_zero, List.set_cons_succ, i64_w, i32_w]; rfl)
                  refine take_ (i := 27) (N := some 103) (v := ?_) (a' := ?_) zA46x7 rfl rfl (take_ofW HT_.out HW_.out (by kernel_rfl)) (fun _ _ _ h => h) (Or.inl ⟨by rfl, ?_⟩) hHeld ?_ ?_
                  rotate_left
                  ·rintro w' ⟨s0, s1, s2, s3, s4, s5, s6, s7, s8, s9, s10, s11, s12, s13, s14, s15, s16, s17, s18, s19, s20, s21, s22, s23, s24, s25⟩
                   go_simp
                   with_reducible rfl
                  rotate_left
                  ·simp only [Act.put, List.setIfInBounds_toArray, List.set_cons_zero, List.set_cons_succ, i64_w, i32_w]
                   rfl
                  refine take_ (i := 32) (N := some 108) (v := ?_) (a' := ?_) zA47x7 rfl rfl (take_ofW HT_.out HW_.out (by kernel_rfl)) (fun _ _ _ h => h) (Or.inl ⟨by rfl, ?_⟩) hHeld ?_ ?_
                  rotate_left
                  ·rintro w' ⟨s0, s1, s2, s3, s4, s5, s6, s7, s8, s9, s10, s11, s12, s13, s14, s15, s16, s17, s18, s19, s20, s21, s22, s23, s24, s25⟩
                   go_simp
                   with_reducible rfl
                  rotate_left
                  ·simp only [Act.put, List.setIfInBounds_toArray, List.set_cons_zero, List.set_cons_succ, i64_w, i32_w]
                   rfl
                  refine pure_ (i := 33) (N := some 109) (v := ?_) (a' := ?_) zA48x7 rfl rfl (any_of HT_.out (by kernel_rfl)) (fun _ _ _ h => h) (Or.inl ⟨by rfl, ?_⟩) ?_ ?_; rotate_left; (intro w'; go_simp; with_reducible rfl); rotate_left; (simp only [Act.put, List.setIfInBounds_toArray, List.set_cons_zero, List.set_cons_succ, i64_w, i32_w]; rfl)
                  refine pure_ (i := 34) (N := some 110) (v := ?_) (a' := ?_) zA49x7 rfl rfl (any_of HT_.out (by kernel_rfl)) (fun _ _ _ h => h) (Or.inl ⟨by rfl, ?_⟩) ?_ ?_; rotate_left; (intro w'; go_simp; with_reducible rfl); rotate_left; (simp only [Act.put, List.setIfInBounds_toArray, List.set_cons_zero, List.set_cons_succ, i64_w, i32_w]; rfl)
                  refine pure_ (i := 35) (N := some 111) (v := ?_) (a' := ?_) zA50x7 rfl rfl (any_of HT_.out (by kernel_rfl)) (fun _ _ _ h => h) (Or.inl ⟨by rfl, ?_⟩) ?_ ?_; rotate_left; (intro w'; go_simp; with_reducible rfl); rotate_left; (simp only [Act.put, List.setIfInBounds_toArray, List.set_cons_zero, List.set_cons_succ, i64_w, i32_w]; rfl)
                  refine done_ (done_of HT_.out (by kernel_rfl)) ?_
                  try go_wp2
                  go_roundg k3
                  case measure => have := HJ2.out; have := HK2.out; have := HK3.out; omega
                  case rel => exact ⟨(wrap64 (x8_3 + 1)), (by rfl), H', ⟨by have := HJ2.out; have := HK2.out; have := HK3.out; omega⟩, ⟨by (with_reducible repeat (first | apply Kd.R_alloc | apply Kd.R_drewN | apply Kd.R_drew)); exact HO_5.out⟩, ⟨by (with_reducible repeat (first | apply Kd.R_alloc | apply Kd.R_drewN | apply Kd.R_drew)); exact HO_7.out⟩, ⟨by repeat (first | (with_reducible first | exact HB.out | apply below_alloc | apply pw_below_drewN | apply below_drew1))⟩⟩
                 ·rw [if_neg c41] at H
                  have c41b0 : ((rd x5_2 ((rd_T36 l1 x8_3).f2)) == ((rd_T36 l1 x8_3).f1)) = false := beq_eq_false_iff_ne.mpr c41
                  have c41b1 : ((rd x5_2 ((rd_T36 l1 x8_3).f2)) != ((rd_T36 l1 x8_3).f1)) = true := bne_iff_ne.mpr c41
                  obtain rfl := Option.some.inj H
                  try go_wp2
                  have n0_ := Aside0.mk (Kd.R_drew HO_5.out)
                  have n1_ := Aside0.mk (Kd.R_drew HO_7.out)
                  have n2_ := Aside0.mk (below_drew1 HB.out)
                  clear HO_5
                  clear HO_7
                  clear HB
                  have HO_5 := n0_
                  have HO_7 := n1_
                  have HB := n2_
                  clear n0_ n1_ n2_
                  have p237 : 0 ≤ (x8_3 : Int) := of_decide_eq_true (by assumption)
                  have q237 : x8_3 < (l1.length : Int) := of_decide_eq_true (by assumption)
                  obtain ⟨ad237, e237, hx237_0, hx237_1, hx237_2, hx237_3, hx237_4, hx237_5⟩ := at_T36 HR1.out x8_3 p237 q237
                  have hw237_5 := hx237_5
                  have hw237_4 := hx237_4
                  have hw237_3 := hx237_3
                  have hw237_2 := hx237_2
                  have hw237_1 := hx237_1
                  have hw237_0 := hx237_0
                  cases e237
                  replace hx237_0 := pw_cell_below HB.out hx237_0
                  replace hx237_1 := pw_cell_below HB.out hx237_1
                  replace hx237_2 := pw_cell_below HB.out hx237_2
                  replace hx237_3 := pw_cell_below HB.out hx237_3
                  replace hx237_4 := pw_cell_below HB.out hx237_4
                  replace hx237_5 := pw_cell_below HB.out hx237_5
                  replace p237 := eq_true p237
                  replace q237 := eq_true q237
                  have p239 : 0 ≤ (x8_3 : Int) := of_decide_eq_true (by assumption)
                  have q239 : x8_3 < (t234.length : Int) := of_decide_eq_true (by assumption)
                  obtain ⟨Ao_front_, co_front_, eo_front_⟩ := Kd.R_slice HO_7.out
                  subst eo_front_
                  obtain ⟨ad239, e239, hx239_0⟩ := Kd.at_bool (Kd.R_reads' HO_7.out).2.2 x8_3 p239 q239
                  (try rw [← Nbq36.out] at hx239_0)
                  cases e239
                  replace p239 := eq_true p239
                  replace q239 := eq_true q239
                  have p240 : 0 ≤ (x8_3 : Int) := of_decide_eq_true (by assumption)
                  have q240 : x8_3 < (l1.length : Int) := of_decide_eq_true (by assumption)
                  obtain ⟨ad240, e240, hx240_0, hx240_1, hx240_2, hx240_3, hx240_4, hx240_5⟩ := at_T36 HR1.out x8_3 p240 q240
                  have hw240_5 := hx240_5
                  have hw240_4 := hx240_4
                  have hw240_3 := hx240_3
                  have hw240_2 := hx240_2
                  have hw240_1 := hx240_1
                  have hw240_0 := hx240_0
                  obtain rfl : ad237 = ad240 := (by injection e240)
                  replace hx240_0 := pw_cell_below HB.out hx240_0
                  replace hx240_1 := pw_cell_below HB.out hx240_1
                  replace hx240_2 := pw_cell_below HB.out hx240_2
                  replace hx240_3 := pw_cell_below HB.out hx240_3
                  replace hx240_4 := pw_cell_below HB.out hx240_4
                  replace hx240_5 := pw_cell_below HB.out hx240_5
                  replace p240 := eq_true p240
                  replace q240 := eq_true q240
                  have p241 : 0 ≤ (x8_3 : Int) := of_decide_eq_true (by assumption)
                  have q241 : x8_3 < (l1.length : Int) := of_decide_eq_true (by assumption)
                  obtain ⟨ad241, e241, hx241_0, hx241_1, hx241_2, hx241_3, hx241_4, hx241_5⟩ := at_T36 HR1.out x8_3 p241 q241
                  have hw241_5 := hx241_5
                  have hw241_4 := hx241_4
                  have hw241_3 := hx241_3
                  have hw241_2 := hx241_2
                  have hw241_1 := hx241_1
                  have hw241_0 := hx241_0
                  obtain rfl : ad237 = ad241 := (by injection e241)
                  replace hx241_0 := pw_cell_below HB.out hx241_0
                  replace hx241_1 := pw_cell_below HB.out hx241_1
                  replace hx241_2 := pw_cell_below HB.out hx241_2
                  replace hx241_3 := pw_cell_below HB.out hx241_3
                  replace hx241_4 := pw_cell_below HB.out hx241_4
                  replace hx241_5 := pw_cell_below HB.out hx241_5
                  replace p241 := eq_true p241
                  replace q241 := eq_true q241
                  have p242 : 0 ≤ (((rd_T36 l1 x8_3).f2) : Int) := of_decide_eq_true (by assumption)
                  have q242 : ((rd_T36 l1 x8_3).f2) < (x5_2.length : Int) := of_decide_eq_true (by assumption)
                  obtain ⟨Ai_front_, ci_front_, ei_front_⟩ := Kd.R_slice HO_5.out
                  subst ei_front_
                  obtain ⟨ad242, e242, hx242_0⟩ := Kd.at_int (Kd.R_reads' HO_5.out).2.2 ((rd_T36 l1 x8_3).f2) p242 q242
                  cases e242
                  replace p242 := eq_true p242
                  replace q242 := eq_true q242
                  have p243 : 0 ≤ (x8_3 : Int) := of_decide_eq_true (by assumption)
                  have q243 : x8_3 < (l1.length : Int) := of_decide_eq_true (by assumption)
                  obtain ⟨ad243, e243, hx243_0, hx243_1, hx243_2, hx243_3, hx243_4, hx243_5⟩ := at_T36 HR1.out x8_3 p243 q243
                  have hw243_5 := hx243_5
                  have hw243_4 := hx243_4
                  have hw243_3 := hx243_3
                  have hw243_2 := hx243_2
                  have hw243_1 := hx243_1
                  have hw243_0 := hx243_0
                  obtain rfl : ad237 = ad243 := (by injection e243)
                  replace hx243_0 := pw_cell_below HB.out hx243_0
                  replace hx243_1 := pw_cell_below HB.out hx243_1
                  replace hx243_2 := pw_cell_below HB.out hx243_2
                  replace hx243_3 := pw_cell_below HB.out hx243_3
                  replace hx243_4 := pw_cell_below HB.out hx243_4
                  replace hx243_5 := pw_cell_below HB.out hx243_5
                  replace p243 := eq_true p243
                  replace q243 := eq_true q243
                  refine start_ (n := 36) (S := fun w' => w'.cell? (ad237.add ((x8_3).toNat * 6)) = some (.int .i64 ((rd_T36 l1 x8_3).f0)) ∧ w'.cell? ⟨(ad237.add ((x8_3).toNat * 6)).block, (ad237.add ((x8_3).toNat * 6)).off + 1, none⟩ = some (.int .i64 ((rd_T36 l1 x8_3).f1)) ∧ w'.cell? ⟨(ad237.add ((x8_3).toNat * 6)).block, (ad237.add ((x8_3).toNat * 6)).off + 2, none⟩ = some (.int .i64 ((rd_T36 l1 x8_3).f2)) ∧ w'.cell? ⟨(ad237.add ((x8_3).toNat * 6)).block, (ad237.add ((x8_3).toNat * 6)).off + 3, none⟩ = some (.int .i64 ((rd_T36 l1 x8_3).f3)) ∧ w'.cell? ⟨(ad237.add ((x8_3).toNat * 6)).block, (ad237.add ((x8_3).toNat * 6)).off + 4, none⟩ = some (.int .i64 ((rd_T36 l1 x8_3).f4)) ∧ w'.cell? ⟨(ad237.add ((x8_3).toNat * 6)).block, (ad237.add ((x8_3).toNat * 6)).off + 5, none⟩ = some (.int .i64 ((rd_T36 l1 x8_3).f5)) ∧ w'.cell? (ad239.add (x8_3).toNat) = some (.bool true) ∧ w'.cell? (ad237.add ((x8_3).toNat * 6)) = some (.int .i64 ((rd_T36 l1 x8_3).f0)) ∧ w'.cell? ⟨(ad237.add ((x8_3).toNat * 6)).block, (ad237.add ((x8_3).toNat * 6)).off + 1, none⟩ = some (.int .i64 ((rd_T36 l1 x8_3).f1)) ∧ w'.cell? ⟨(ad237.add ((x8_3).toNat * 6)).block, (ad237.add ((x8_3).toNat * 6)).off + 2, none⟩ = some (.int .i64 ((rd_T36 l1 x8_3).f2)) ∧ w'.cell? ⟨(ad237.add ((x8_3).toNat * 6)).block, (ad237.add ((x8_3).toNat * 6)).off + 3, none⟩ = some (.int .i64 ((rd_T36 l1 x8_3).f3)) ∧ w'.cell? ⟨(ad237.add ((x8_3).toNat * 6)).block, (ad237.add ((x8_3).toNat * 6)).off + 4, none⟩ = some (.int .i64 ((rd_T36 l1 x8_3).f4)) ∧ w'.cell? ⟨(ad237.add ((x8_3).toNat * 6)).block, (ad237.add ((x8_3).toNat * 6)).off + 5, none⟩ = some (.int .i64 ((rd_T36 l1 x8_3).f5)) ∧ w'.cell? (ad237.add ((x8_3).toNat * 6)) = some (.int .i64 ((rd_T36 l1 x8_3).f0)) ∧ w'.cell? ⟨(ad237.add ((x8_3).toNat * 6)).block, (ad237.add ((x8_3).toNat * 6)).off + 1, none⟩ = some (.int .i64 ((rd_T36 l1 x8_3).f1)) ∧ w'.cell? ⟨(ad237.add ((x8_3).toNat * 6)).block, (ad237.add ((x8_3).toNat * 6)).off + 2, none⟩ = some (.int .i64 ((rd_T36 l1 x8_3).f2)) ∧ w'.cell? ⟨(ad237.add ((x8_3).toNat * 6)).block, (ad237.add ((x8_3).toNat * 6)).off + 3, none⟩ = some (.int .i64 ((rd_T36 l1 x8_3).f3)) ∧ w'.cell? ⟨(ad237.add ((x8_3).toNat * 6)).block, (ad237.add ((x8_3).toNat * 6)).off + 4, none⟩ = some (.int .i64 ((rd_T36 l1 x8_3).f4)) ∧ w'.cell? ⟨(ad237.add ((x8_3).toNat * 6)).block, (ad237.add ((x8_3).toNat * 6)).off + 5, none⟩ = some (.int .i64 ((rd_T36 l1 x8_3).f5)) ∧ w'.cell? (ad242.add (((rd_T36 l1 x8_3).f2)).toNat) = some (.int .i64 (rd x5_2 ((rd_T36 l1 x8_3).f2))) ∧ w'.cell? (ad237.add ((x8_3).toNat * 6)) = some (.int .i64 ((rd_T36 l1 x8_3).f0)) ∧ w'.cell? ⟨(ad237.add ((x8_3).toNat * 6)).block, (ad237.add ((x8_3).toNat * 6)).off + 1, none⟩ = some (.int .i64 ((rd_T36 l1 x8_3).f1)) ∧ w'.cell? ⟨(ad237.add ((x8_3).toNat * 6)).block, (ad237.add ((x8_3).toNat * 6)).off + 2, none⟩ = some (.int .i64 ((rd_T36 l1 x8_3).f2)) ∧ w'.cell? ⟨(ad237.add ((x8_3).toNat * 6)).block, (ad237.add ((x8_3).toNat * 6)).off + 3, none⟩ = some (.int .i64 ((rd_T36 l1 x8_3).f3)) ∧ w'.cell? ⟨(ad237.add ((x8_3).toNat * 6)).block, (ad237.add ((x8_3).toNat * 6)).off + 4, none⟩ = some (.int .i64 ((rd_T36 l1 x8_3).f4)) ∧ w'.cell? ⟨(ad237.add ((x8_3).toNat * 6)).block, (ad237.add ((x8_3).toNat * 6)).off + 5, none⟩ = some (.int .i64 ((rd_T36 l1 x8_3).f5))) (ds := []) zA14x7 (by kernel_rfl) rfl rfl ⟨(pw_cell_below HB.out hw237_0), (pw_cell_below HB.out hw237_1), (pw_cell_below HB.out hw237_2), (pw_cell_below HB.out hw237_3), (pw_cell_below HB.out hw237_4), (pw_cell_below HB.out hw237_5), hx239_0, (pw_cell_below HB.out hw240_0), (pw_cell_below HB.out hw240_1), (pw_cell_below HB.out hw240_2), (pw_cell_below HB.out hw240_3), (pw_cell_below HB.out hw240_4), (pw_cell_below HB.out hw240_5), (pw_cell_below HB.out hw241_0), (pw_cell_below HB.out hw241_1), (pw_cell_below HB.out hw241_2), (pw_cell_below HB.out hw241_3), (pw_cell_below HB.out hw241_4), (pw_cell_below HB.out hw241_5), hx242_0, (pw_cell_below HB.out hw243_0), (pw_cell_below HB.out hw243_1), (pw_cell_below HB.out hw243_2), (pw_cell_below HB.out hw243_3), (pw_cell_below HB.out hw243_4), (pw_cell_below HB.out hw243_5)⟩ (fun hHeld => ?_); refine with_tabW spec_FrontOk.tab14 spec_FrontOk.bits14 (fun HT_ HW_ => ?_)
                  generalize wr.drew = w45 at HO_5 HO_7 HB hx237_0 hx237_1 hx237_2 hx237_3 hx237_4 hx237_5 hx239_0 hx240_0 hx240_1 hx240_2 hx240_3 hx240_4 hx240_5 hx241_0 hx241_1 hx241_2 hx241_3 hx241_4 hx241_5 hx242_0 hx243_0 hx243_1 hx243_2 hx243_3 hx243_4 hx243_5 hHeld ⊢
                  refine pure_ (i := 0) (N := some 76) (v := ?_) (a' := ?_) zA15x7 rfl rfl (any_of HT_.out (by kernel_rfl)) (fun _ _ _ h => h) (Or.inl ⟨by rfl, ?_⟩) ?_ ?_; rotate_left; (intro w'; go_simp; with_reducible rfl); rotate_left; (simp only [Act.put, List.setIfInBounds_toArray, List.set_cons_zero, List.set_cons_succ, i64_w, i32_w]; rfl)
                  refine pure_ (i := 1) (N := some 77) (v := ?_) (a' := ?_) zA16x7 rfl rfl (any_of HT_.out (by kernel_rfl)) (fun _ _ _ h => h) (Or.inl ⟨by rfl, ?_⟩) ?_ ?_; rotate_left; (intro w'; go_simp; with_reducible rfl); rotate_left; (simp only [Act.put, List.setIfInBounds_toArray, List.set_cons_zero, List.set_cons_succ, i64_w, i32_w]; rfl)
                  refine pure_ (i := 2) (N := some 78) (v := ?_) (a' := ?_) zA17x7 rfl rfl (any_of HT_.out (by kernel_rfl)) (fun _ _ _ h => h) (Or.inl ⟨by rfl, ?_⟩) ?_ ?_; rotate_left; (intro w'; go_simp; with_reducible rfl); rotate_left; (simp only [Act.put, List.setIfInBounds_toArray, List.set_cons_zero, List.set_cons_succ, i64_w, i32_w]; rfl)
                  refine pure_ (i := 3) (N := some 79) (v := ?_) (a' := ?_) zA18x7 rfl rfl (any_of HT_.out (by kernel_rfl)) (fun _ _ _ h => h) (Or.inl ⟨by rfl, ?_⟩) ?_ ?_; rotate_left; (intro w'; go_simp; with_reducible rfl); rotate_left; (simp only [Act.put, List.setIfInBounds_toArray, List.set_cons_zero, List.set_cons_succ, i64_w, i32_w]; rfl)
                  refine take_ (i := 4) (N := some 80) (v := ?_) (a' := ?_) zA19x7 rfl rfl (take_ofW HT_.out HW_.out (by kernel_rfl)) (fun _ _ _ h => h) (Or.inl ⟨by rfl, ?_⟩) hHeld ?_ ?_
                  rotate_left
                  ·rintro w' ⟨s0, s1, s2, s3, s4, s5, s6, s7, s8, s9, s10, s11, s12, s13, s14, s15, s16, s17, s18, s19, s20, s21, s22, s23, s24, s25⟩
                   go_simp
                   with_reducible rfl
                  rotate_left
                  ·simp only [Act.put, List.setIfInBounds_toArray, List.set_cons_zero, List.set_cons_succ, i64_w, i32_w]
                   rfl
                  refine one_ (i := 5) (N := some 81) zA20x7 rfl rfl (one_of HT_.out (by kernel_rfl)) (by decide) (fun K hK => ?_)
                  refine goes_ Try.func51 (by kernel_rfl) rfl #[.int .i64 ((rd_T36 l1 x8_3).f0)] (by rfl) rfl rfl (by (try simp only [List.map_toArray, List.map_cons, List.map_nil]); rfl) ?_
                  with_reducible refine (spec_l02Quant.calls ((rd_T36 l1 x8_3).f0) false _ A32.out).mono ?_
                  rintro e w' ⟨rfl, ⟨nd, rfl⟩⟩
                  refine ⟨_, rfl, ?_⟩
                  obtain ⟨Ao46, co46, eo46⟩ := Kd.R_slice HO_7.out
                  ((injection eo46 with f1_ f2_ f3_; have f4_ := f1_.symm; have f5_ := f3_.symm; clear f1_ f2_ f3_; subst f4_; subst f5_))
                  obtain ⟨Ao47, co47, eo47⟩ := Kd.R_slice HO_5.out
                  ((injection eo47 with f1_ f2_ f3_; have f4_ := f1_.symm; have f5_ := f3_.symm; clear f1_ f2_ f3_; subst f4_; subst f5_))
                  refine hK.out _ _ ⟨(pw_cell_below HB.out hw237_0), (pw_cell_below HB.out hw237_1), (pw_cell_below HB.out hw237_2), (pw_cell_below HB.out hw237_3), (pw_cell_below HB.out hw237_4), (pw_cell_below HB.out hw237_5), hHeld.2.2.2.2.2.2.1, (pw_cell_below HB.out hw240_0), (pw_cell_below HB.out hw240_1), (pw_cell_below HB.out hw240_2), (pw_cell_below HB.out hw240_3), (pw_cell_below HB.out hw240_4), (pw_cell_below HB.out hw240_5), (pw_cell_below HB.out hw241_0), (pw_cell_below HB.out hw241_1), (pw_cell_below HB.out hw241_2), (pw_cell_below HB.out hw241_3), (pw_cell_below HB.out hw241_4), (pw_cell_below HB.out hw241_5), hHeld.2.2.2.2.2.2.2.2.2.2.2.2.2.2.2.2.2.2.2.1, (pw_cell_below HB.out hw243_0), (pw_cell_below HB.out hw243_1), (pw_cell_below HB.out hw243_2), (pw_cell_below HB.out hw243_3), (pw_cell_below HB.out hw243_4), (pw_cell_below HB.out hw243_5)⟩ (fun hHeld => ?_)
                  clear hK K
                  refine norm_ (a' := ?_) ?_ ?_
                  rotate_left
                  ·show Act.put _ (some 81) _ = _
                   simp only [Act.put, List.setIfInBounds_toArray, List.set_cons_zero, List.set_cons_succ, i64_w, i32_w]
                   rfl
                  refine pure_ (i := 6) (N := some 82) (v := ?_) (a' := ?_) zA21x7 rfl rfl (any_of HT_.out (by kernel_rfl)) (fun _ _ _ h => h) (Or.inl ⟨by rfl, ?_⟩) ?_ ?_; rotate_left; (intro w'; go_simp; with_reducible rfl); rotate_left; (simp only [Act.put, List.setIfInBounds_toArray, List.set_cons_zero, List.set_cons_succ, i64_w, i32_w]; rfl)
                  refine pure_ (i := 7) (N := some 83) (v := ?_) (a' := ?_) zA22x7 rfl rfl (any_of HT_.out (by kernel_rfl)) (fun _ _ _ h => h) (Or.inl ⟨by rfl, ?_⟩) ?_ ?_; rotate_left; (intro w'; go_simp; with_reducible rfl); rotate_left; (simp only [Act.put, List.setIfInBounds_toArray, List.set_cons_zero, List.set_cons_succ, i64_w, i32_w]; rfl)
                  refine pure_ (i := 8) (N := some 84) (v := ?_) (a' := ?_) zA23x7 rfl rfl (any_of HT_.out (by kernel_rfl)) (fun _ _ _ h => h) (Or.inl ⟨by rfl, ?_⟩) ?_ ?_; rotate_left; (intro w'; go_simp; with_reducible rfl); rotate_left; (simp only [Act.put, List.setIfInBounds_toArray, List.set_cons_zero, List.set_cons_succ, i64_w, i32_w]; rfl)
                  refine pure_ (i := 9) (N := some 85) (v := ?_) (a' := ?_) zA24x7 rfl rfl (any_of HT_.out (by kernel_rfl)) (fun _ _ _ h => h) (Or.inl ⟨by rfl, ?_⟩) ?_ ?_; rotate_left; (intro w'; go_simp; with_reducible rfl); rotate_left; (simp only [Act.put, List.setIfInBounds_toArray, List.set_cons_zero, List.set_cons_succ, i64_w, i32_w]; rfl)
                  refine take_ (i := 10) (N := some 86) (v := ?_) (a' := ?_) zA25x7 rfl rfl (take_ofW HT_.out HW_.out (by kernel_rfl)) (fun _ _ _ h => h) (Or.inl ⟨by rfl, ?_⟩) hHeld ?_ ?_
                  rotate_left
                  ·rintro w' ⟨s0, s1, s2, s3, s4, s5, s6, s7, s8, s9, s10, s11, s12, s13, s14, s15, s16, s17, s18, s19, s20, s21, s22, s23, s24, s25⟩
                   go_simp
                   with_reducible rfl
                  rotate_left
                  ·simp only [Act.put, List.setIfInBounds_toArray, List.set_cons_zero, List.set_cons_succ, i64_w, i32_w]
                   rfl
                  refine pure_ (i := 11) (N := some 87) (v := ?_) (a' := ?_) zA26x7 rfl rfl (any_of HT_.out (by kernel_rfl)) (fun _ _ _ h => h) (Or.inl ⟨by rfl, ?_⟩) ?_ ?_; rotate_left; (intro w'; go_simp; with_reducible rfl); rotate_left; (simp only [Act.put, List.setIfInBounds_toArray, List.set_cons_zero, List.set_cons_succ, i64_w, i32_w]; rfl)
                  refine pure_ (i := 12) (N := some 88) (v := ?_) (a' := ?_) zA27x7 rfl rfl (any_of HT_.out (by kernel_rfl)) (fun _ _ _ h => h) (Or.inl ⟨by rfl, ?_⟩) ?_ ?_; rotate_left; (intro w'; go_simp; with_reducible rfl); rotate_left; (simp only [Act.put, List.setIfInBounds_toArray, List.set_cons_zero, List.set_cons_succ, i64_w, i32_w]; rfl)
                  refine pure_ (i := 13) (N := some 89) (v := ?_) (a' := ?_) zA28x7 rfl rfl (any_of HT_.out (by kernel_rfl)) (fun _ _ _ h => h) (Or.inl ⟨by rfl, ?_⟩) ?_ ?_; rotate_left; (intro w'; go_simp; with_reducible rfl); rotate_left; (simp only [Act.put, List.setIfInBounds_toArray, List.set_cons_zero, List.set_cons_succ, i64_w, i32_w]; rfl)
                  refine pure_ (i := 14) (N := some 90) (v := ?_) (a' := ?_) zA29x7 rfl rfl (any_of HT_.out (by kernel_rfl)) (fun _ _ _ h => h) (Or.inl ⟨by rfl, ?_⟩) ?_ ?_; rotate_left; (intro w'; go_simp; with_reducible rfl); rotate_left; (simp only [Act.put, List.setIfInBounds_toArray, List.set_cons_zero, List.set_cons_succ, i64_w, i32_w]; rfl)
                  refine pure_ (i := 15) (N := some 91) (v := ?_) (a' := ?_) zA30x7 rfl rfl (any_of HT_.out (by kernel_rfl)) (fun _ _ _ h => h) (Or.inl ⟨by rfl, ?_⟩) ?_ ?_; rotate_left; (intro w'; go_simp; with_reducible rfl); rotate_left; (simp only [Act.put, List.setIfInBounds_toArray, List.set_cons_zero, List.set_cons_succ, i64_w, i32_w]; rfl)
                  refine take_ (i := 16) (N := some 92) (v := ?_) (a' := ?_) zA31x7 rfl rfl (take_ofW HT_.out HW_.out (by kernel_rfl)) (fun _ _ _ h => h) (Or.inl ⟨by rfl, ?_⟩) hHeld ?_ ?_
                  rotate_left
                  ·rintro w' ⟨s0, s1, s2, s3, s4, s5, s6, s7, s8, s9, s10, s11, s12, s13, s14, s15, s16, s17, s18, s19, s20, s21, s22, s23, s24, s25⟩
                   go_simp
                   with_reducible rfl
                  rotate_left
                  ·simp only [Act.put, List.setIfInBounds_toArray, List.set_cons_zero, List.set_cons_succ, i64_w, i32_w]
                   rfl
                  refine pure_ (i := 17) (N := some 93) (v := ?_) (a' := ?_) zA32x7 rfl rfl (any_of HT_.out (by kernel_rfl)) (fun _ _ _ h => h) (Or.inl ⟨by rfl, ?_⟩) ?_ ?_; rotate_left; (intro w'; go_simp; with_reducible rfl); rotate_left; (simp only [Act.put, List.setIfInBounds_toArray, List.set_cons_zero, List.set_cons_succ, i64_w, i32_w]; rfl)
                  refine pure_ (i := 18) (N := some 94) (v := ?_) (a' := ?_) zA33x7 rfl rfl (any_of HT_.out (by kernel_rfl)) (fun _ _ _ h => h) (Or.inl ⟨by rfl, ?_⟩) ?_ ?_; rotate_left; (intro w'; go_simp; with_reducible rfl); rotate_left; (simp only [Act.put, List.setIfInBounds_toArray, List.set_cons_zero, List.set_cons_succ, i64_w, i32_w]; rfl)
                  refine pure_ (i := 19) (N := some 95) (v := ?_) (a' := ?_) zA34x7 rfl rfl (any_of HT_.out (by kernel_rfl)) (fun _ _ _ h => h) (Or.inl ⟨by rfl, ?_⟩) ?_ ?_; rotate_left; (intro w'; go_simp; with_reducible rfl); rotate_left; (simp only [Act.put, List.setIfInBounds_toArray, List.set_cons_zero, List.set_cons_succ, i64_w, i32_w]; rfl)
                  refine pure_ (i := 20) (N := some 96) (v := ?_) (a' := ?_) zA35x7 rfl rfl (any_of HT_.out (by kernel_rfl)) (fun _ _ _ h => h) (Or.inl ⟨by rfl, ?_⟩) ?_ ?_; rotate_left; (intro w'; go_simp; with_reducible rfl); rotate_left; (simp only [Act.put, List.setIfInBounds_toArray, List.set_cons_zero, List.set_cons_succ, i64_w, i32_w]; rfl)
                  refine pure_ (i := 21) (N := some 97) (v := ?_) (a' := ?_) zA36x7 rfl rfl (any_of HT_.out (by kernel_rfl)) (fun _ _ _ h => h) (Or.inl ⟨by rfl, ?_⟩) ?_ ?_; rotate_left; (intro w'; go_simp; with_reducible rfl); rotate_left; (simp only [Act.put, List.setIfInBounds_toArray, List.set_cons_zero, List.set_cons_succ, i64_w, i32_w]; rfl)
                  refine pure_ (i := 22) (N := some 98) (v := ?_) (a' := ?_) zA37x7 rfl rfl (any_of HT_.out (by kernel_rfl)) (fun _ _ _ h => h) (Or.inl ⟨by rfl, ?_⟩) ?_ ?_; rotate_left; (intro w'; go_simp; with_reducible rfl); rotate_left; (simp only [Act.put, List.setIfInBounds_toArray, List.set_cons_zero, List.set_cons_succ, i64_w, i32_w]; rfl)
                  refine pure_ (i := 23) (N := some 99) (v := ?_) (a' := ?_) zA38x7 rfl rfl (any_of HT_.out (by kernel_rfl)) (fun _ _ _ h => h) (Or.inl ⟨by rfl, ?_⟩) ?_ ?_; rotate_left; (intro w'; go_simp; with_reducible rfl); rotate_left; (simp only [Act.put, List.setIfInBounds_toArray, List.set_cons_zero, List.set_cons_succ, i64_w, i32_w]; rfl)
                  refine pure_ (i := 24) (N := some 100) (v := ?_) (a' := ?_) zA39x7 rfl rfl (any_of HT_.out (by kernel_rfl)) (fun _ _ _ h => h) (Or.inl ⟨by rfl, ?_⟩) ?_ ?_; rotate_left; (intro w'; go_simp; with_reducible rfl); rotate_left; (simp only [Act.put, List.setIfInBounds_toArray, List.set_cons_zero, List.set_cons_succ, i64_w, i32_w]; rfl)
                  refine pure_ (i := 28) (N := some 104) (v := ?_) (a' := ?_) zA51x7 rfl rfl (any_of HT_.out (by kernel_rfl)) (fun _ _ _ h => h) (Or.inl ⟨by rfl, ?_⟩) ?_ ?_; rotate_left; (intro w'; go_simp; with_reducible rfl); rotate_left; (simp only [Act.put, List.setIfInBounds_toArray, List.set_cons_zero, List.set_cons_succ, i64_w, i32_w]; rfl)
                  refine pure_ (i := 29) (N := some 105) (v := ?_) (a' := ?_) zA52x7 rfl rfl (any_of HT_.out (by kernel_rfl)) (fun _ _ _ h => h) (Or.inl ⟨by rfl, ?_⟩) ?_ ?_; rotate_left; (intro w'; go_simp; with_reducible rfl); rotate_left; (simp only [Act.put, List.setIfInBounds_toArray, List.set_cons_zero, List.set_cons_succ, i64_w, i32_w]; rfl)
                  refine pure_ (i := 30) (N := some 106) (v := ?_) (a' := ?_) zA53x7 rfl rfl (any_of HT_.out (by kernel_rfl)) (fun _ _ _ h => h) (Or.inl ⟨by rfl, ?_⟩) ?_ ?_; rotate_left; (intro w'; go_simp; with_reducible rfl); rotate_left; (simp only [Act.put, List.setIfInBounds_toArray, List.set_cons_zero, List.set_cons_succ, i64_w, i32_w]; rfl)
                  refine pure_ (i := 31) (N := some 107) (v := ?_) (a' := ?_) zA54x7 rfl rfl (any_of HT_.out (by kernel_rfl)) (fun _ _ _ h => h) (Or.inl ⟨by rfl, ?_⟩) ?_ ?_; rotate_left; (intro w'; go_simp; with_reducible rfl); rotate_left; (simp only [Act.put, List.setIfInBounds_toArray, List.set_cons_zero, List.set_cons_succ, i64_w, i32_w]; rfl)
                  refine take_ (i := 25) (N := some 101) (v := ?_) (a' := ?_) zA55x7 rfl rfl (take_ofW HT_.out HW_.out (by kernel_rfl)) (fun _ _ _ h => h) (Or.inl ⟨by rfl, ?_⟩) hHeld ?_ ?_
                  rotate_left
                  ·rintro w' ⟨s0, s1, s2, s3, s4, s5, s6, s7, s8, s9, s10, s11, s12, s13, s14, s15, s16, s17, s18, s19, s20, s21, s22, s23, s24, s25⟩
                   go_simp
                   with_reducible rfl
                  rotate_left
                  ·simp only [Act.put, List.setIfInBounds_toArray, List.set_cons_zero, List.set_cons_succ, i64_w, i32_w]
                   rfl
                  refine pure_ (i := 26) (N := some 102) (v := ?_) (a' := ?_) zA56x7 rfl rfl (any_of HT_.out (by kernel_rfl)) (fun _ _ _ h => h) (Or.inl ⟨by rfl, ?_⟩) ?_ ?_; rotate_left; (intro w'; go_simp; with_reducible rfl); rotate_left; (simp only [Act.put, List.setIfInBounds_toArray, List.set_cons_zero, List.set_cons_succ, i64_w, i32_w]; rfl)
                  refine take_ (i := 27) (N := some 103) (v := ?_) (a' := ?_) zA46x7 rfl rfl (take_ofW HT_.out HW_.out (by kernel_rfl)) (fun _ _ _ h => h) (Or.inl ⟨by rfl, ?_⟩) hHeld ?_ ?_
                  rotate_left
                  ·rintro w' ⟨s0, s1, s2, s3, s4, s5, s6, s7, s8, s9, s10, s11, s12, s13, s14, s15, s16, s17, s18, s19, s20, s21, s22, s23, s24, s25⟩
                   go_simp
                   with_reducible rfl
                  rotate_left
                  ·simp only [Act.put, List.setIfInBounds_toArray, List.set_cons_zero, List.set_cons_succ, i64_w, i32_w]
                   rfl
                  refine take_ (i := 32) (N := some 108) (v := ?_) (a' := ?_) zA47x7 rfl rfl (take_ofW HT_.out HW_.out (by kernel_rfl)) (fun _ _ _ h => h) (Or.inl ⟨by rfl, ?_⟩) hHeld ?_ ?_
                  rotate_left
                  ·rintro w' ⟨s0, s1, s2, s3, s4, s5, s6, s7, s8, s9, s10, s11, s12, s13, s14, s15, s16, s17, s18, s19, s20, s21, s22, s23, s24, s25⟩
                   go_simp
                   with_reducible rfl
                  rotate_left
                  ·simp only [Act.put, List.setIfInBounds_toArray, List.set_cons_zero, List.set_cons_succ, i64_w, i32_w]
                   rfl
                  refine pure_ (i := 33) (N := some 109) (v := ?_) (a' := ?_) zA48x7 rfl rfl (any_of HT_.out (by kernel_rfl)) (fun _ _ _ h => h) (Or.inl ⟨by rfl, ?_⟩) ?_ ?_; rotate_left; (intro w'; go_simp; with_reducible rfl); rotate_left; (simp only [Act.put, List.setIfInBounds_toArray, List.set_cons_zero, List.set_cons_succ, i64_w, i32_w]; rfl)
                  refine pure_ (i := 34) (N := some 110) (v := ?_) (a' := ?_) zA49x7 rfl rfl (any_of HT_.out (by kernel_rfl)) (fun _ _ _ h => h) (Or.inl ⟨by rfl, ?_⟩) ?_ ?_; rotate_left; (intro w'; go_simp; with_reducible rfl); rotate_left; (simp only [Act.put, List.setIfInBounds_toArray, List.set_cons_zero, List.set_cons_succ, i64_w, i32_w]; rfl)
                  refine pure_ (i := 35) (N := some 111) (v := ?_) (a' := ?_) zA50x7 rfl rfl (any_of HT_.out (by kernel_rfl)) (fun _ _ _ h => h) (Or.inl ⟨by rfl, ?_⟩) ?_ ?_; rotate_left; (intro w'; go_simp; with_reducible rfl); rotate_left; (simp only [Act.put, List.setIfInBounds_toArray, List.set_cons_zero, List.set_cons_succ, i64_w, i32_w]; rfl)
                  refine done_ (done_of HT_.out (by kernel_rfl)) ?_
                  try go_wp2
                  go_ret
                  exact ⟨by rfl, by repeat (first | (with_reducible first | exact HB.out | apply below_alloc | apply pw_below_drewN | apply below_drew1))⟩
                ·rw [if_neg c40] at H
                 exact absurd H (by simp)
               ·rw [if_neg c39] at H
                exact absurd H (by simp)
              ·rw [if_neg c38] at H
               have c38b0 : (((rd_T36 l1 x8_3).f0) == 1) = false := beq_eq_false_iff_ne.mpr c38
               have c38b1 : (((rd_T36 l1 x8_3).f0) != 1) = true := bne_iff_ne.mpr c38
               have H' := Aside0.mk H
               clear H
               try go_wp2
               have n0_ := Aside0.mk (Kd.R_drew HO_5.out)
               have n1_ := Aside0.mk (Kd.R_drew HO_7.out)
               have n2_ := Aside0.mk (below_drew1 HB.out)
               clear HO_5
               clear HO_7
               clear HB
               have HO_5 := n0_
               have HO_7 := n1_
               have HB := n2_
               clear n0_ n1_ n2_
               have p237 : 0 ≤ (x8_3 : Int) := of_decide_eq_true (by assumption)
               have q237 : x8_3 < (l1.length : Int) := of_decide_eq_true (by assumption)
               obtain ⟨ad237, e237, hx237_0, hx237_1, hx237_2, hx237_3, hx237_4, hx237_5⟩ := at_T36 HR1.out x8_3 p237 q237
               have hw237_5 := hx237_5
               have hw237_4 := hx237_4
               have hw237_3 := hx237_3
               have hw237_2 := hx237_2
               have hw237_1 := hx237_1
               have hw237_0 := hx237_0
               cases e237
               replace hx237_0 := pw_cell_below HB.out hx237_0
               replace hx237_1 := pw_cell_below HB.out hx237_1
               replace hx237_2 := pw_cell_below HB.out hx237_2
               replace hx237_3 := pw_cell_below HB.out hx237_3
               replace hx237_4 := pw_cell_below HB.out hx237_4
               replace hx237_5 := pw_cell_below HB.out hx237_5
               replace p237 := eq_true p237
               replace q237 := eq_true q237
               have p239 : 0 ≤ (x8_3 : Int) := of_decide_eq_true (by assumption)
               have q239 : x8_3 < (t234.length : Int) := of_decide_eq_true (by assumption)
               obtain ⟨Ao_front_, co_front_, eo_front_⟩ := Kd.R_slice HO_7.out
               subst eo_front_
               obtain ⟨ad239, e239, hx239_0⟩ := Kd.at_bool (Kd.R_reads' HO_7.out).2.2 x8_3 p239 q239
               (try rw [← Nbq36.out] at hx239_0)
               cases e239
               replace p239 := eq_true p239
               replace q239 := eq_true q239
               have p240 : 0 ≤ (x8_3 : Int) := of_decide_eq_true (by assumption)
               have q240 : x8_3 < (l1.length : Int) := of_decide_eq_true (by assumption)
               obtain ⟨ad240, e240, hx240_0, hx240_1, hx240_2, hx240_3, hx240_4, hx240_5⟩ := at_T36 HR1.out x8_3 p240 q240
               have hw240_5 := hx240_5
               have hw240_4 := hx240_4
               have hw240_3 := hx240_3
               have hw240_2 := hx240_2
               have hw240_1 := hx240_1
               have hw240_0 := hx240_0
               obtain rfl : ad237 = ad240 := (by injection e240)
               replace hx240_0 := pw_cell_below HB.out hx240_0
               replace hx240_1 := pw_cell_below HB.out hx240_1
               replace hx240_2 := pw_cell_below HB.out hx240_2
               replace hx240_3 := pw_cell_below HB.out hx240_3
               replace hx240_4 := pw_cell_below HB.out hx240_4
               replace hx240_5 := pw_cell_below HB.out hx240_5
               replace p240 := eq_true p240
               replace q240 := eq_true q240
               refine start_ (n := 36) (S := fun w' => w'.cell? (ad237.add ((x8_3).toNat * 6)) = some (.int .i64 ((rd_T36 l1 x8_3).f0)) ∧ w'.cell? ⟨(ad237.add ((x8_3).toNat * 6)).block, (ad237.add ((x8_3).toNat * 6)).off + 1, none⟩ = some (.int .i64 ((rd_T36 l1 x8_3).f1)) ∧ w'.cell? ⟨(ad237.add ((x8_3).toNat * 6)).block, (ad237.add ((x8_3).toNat * 6)).off + 2, none⟩ = some (.int .i64 ((rd_T36 l1 x8_3).f2)) ∧ w'.cell? ⟨(ad237.add ((x8_3).toNat * 6)).block, (ad237.add ((x8_3).toNat * 6)).off + 3, none⟩ = some (.int .i64 ((rd_T36 l1 x8_3).f3)) ∧ w'.cell? ⟨(ad237.add ((x8_3).toNat * 6)).block, (ad237.add ((x8_3).toNat * 6)).off + 4, none⟩ = some (.int .i64 ((rd_T36 l1 x8_3).f4)) ∧ w'.cell? ⟨(ad237.add ((x8_3).toNat * 6)).block, (ad237.add ((x8_3).toNat * 6)).off + 5, none⟩ = some (.int .i64 ((rd_T36 l1 x8_3).f5)) ∧ w'.cell? (ad239.add (x8_3).toNat) = some (.bool true) ∧ w'.cell? (ad237.add ((x8_3).toNat * 6)) = some (.int .i64 ((rd_T36 l1 x8_3).f0)) ∧ w'.cell? ⟨(ad237.add ((x8_3).toNat * 6)).block, (ad237.add ((x8_3).toNat * 6)).off + 1, none⟩ = some (.int .i64 ((rd_T36 l1 x8_3).f1)) ∧ w'.cell? ⟨(ad237.add ((x8_3).toNat * 6)).block, (ad237.add ((x8_3).toNat * 6)).off + 2, none⟩ = some (.int .i64 ((rd_T36 l1 x8_3).f2)) ∧ w'.cell? ⟨(ad237.add ((x8_3).toNat * 6)).block, (ad237.add ((x8_3).toNat * 6)).off + 3, none⟩ = some (.int .i64 ((rd_T36 l1 x8_3).f3)) ∧ w'.cell? ⟨(ad237.add ((x8_3).toNat * 6)).block, (ad237.add ((x8_3).toNat * 6)).off + 4, none⟩ = some (.int .i64 ((rd_T36 l1 x8_3).f4)) ∧ w'.cell? ⟨(ad237.add ((x8_3).toNat * 6)).block, (ad237.add ((x8_3).toNat * 6)).off + 5, none⟩ = some (.int .i64 ((rd_T36 l1 x8_3).f5))) (ds := []) zA14x7 (by kernel_rfl) rfl rfl ⟨(pw_cell_below HB.out hw237_0), (pw_cell_below HB.out hw237_1), (pw_cell_below HB.out hw237_2), (pw_cell_below HB.out hw237_3), (pw_cell_below HB.out hw237_4), (pw_cell_below HB.out hw237_5), hx239_0, (pw_cell_below HB.out hw240_0), (pw_cell_below HB.out hw240_1), (pw_cell_below HB.out hw240_2), (pw_cell_below HB.out hw240_3), (pw_cell_below HB.out hw240_4), (pw_cell_below HB.out hw240_5)⟩ (fun hHeld => ?_); refine with_tabW spec_FrontOk.tab14 spec_FrontOk.bits14 (fun HT_ HW_ => ?_)
               generalize wr.drew = w48 at HO_5 HO_7 HB hx237_0 hx237_1 hx237_2 hx237_3 hx237_4 hx237_5 hx239_0 hx240_0 hx240_1 hx240_2 hx240_3 hx240_4 hx240_5 hHeld ⊢
               refine pure_ (i := 0) (N := some 76) (v := ?_) (a' := ?_) zA15x7 rfl rfl (any_of HT_.out (by kernel_rfl)) (fun _ _ _ h => h) (Or.inl ⟨by rfl, ?_⟩) ?_ ?_; rotate_left; (intro w'; go_simp; with_reducible rfl); rotate_left; (simp only [Act.put, List.setIfInBounds_toArray, List.set_cons_zero, List.set_cons_succ, i64_w, i32_w]; rfl)
               refine pure_ (i := 1) (N := some 77) (v := ?_) (a' := ?_) zA16x7 rfl rfl (any_of HT_.out (by kernel_rfl)) (fun _ _ _ h => h) (Or.inl ⟨by rfl, ?_⟩) ?_ ?_; rotate_left; (intro w'; go_simp; with_reducible rfl); rotate_left; (simp only [Act.put, List.setIfInBounds_toArray, List.set_cons_zero, List.set_cons_succ, i64_w, i32_w]; rfl)
               refine pure_ (i := 2) (N := some 78) (v := ?_) (a' := ?_) zA17x7 rfl rfl (any_of HT_.out (by kernel_rfl)) (fun _ _ _ h => h) (Or.inl ⟨by rfl, ?_⟩) ?_ ?_; rotate_left; (intro w'; go_simp; with_reducible rfl); rotate_left; (simp only [Act.put, List.setIfInBounds_toArray, List.set_cons_zero, List.set_cons_succ, i64_w, i32_w]; rfl)
               refine pure_ (i := 3) (N := some 79) (v := ?_) (a' := ?_) zA18x7 rfl rfl (any_of HT_.out (by kernel_rfl)) (fun _ _ _ h => h) (Or.inl ⟨by rfl, ?_⟩) ?_ ?_; rotate_left; (intro w'; go_simp; with_reducible rfl); rotate_left; (simp only [Act.put, List.setIfInBounds_toArray, List.set_cons_zero, List.set_cons_succ, i64_w, i32_w]; rfl)
               refine take_ (i := 4) (N := some 80) (v := ?_) (a' := ?_) zA19x7 rfl rfl (take_ofW HT_.out HW_.out (by kernel_rfl)) (fun _ _ _ h => h) (Or.inl ⟨by rfl, ?_⟩) hHeld ?_ ?_
               rotate_left
               ·rintro w' ⟨s0, s1, s2, s3, s4, s5, s6, s7, s8, s9, s10, s11, s12⟩
                go_simp
                with_reducible rfl
               rotate_left
               ·simp only [Act.put, List.setIfInBounds_toArray, List.set_cons_zero, List.set_cons_succ, i64_w, i32_w]
                rfl
               refine one_ (i := 5) (N := some 81) zA20x7 rfl rfl (one_of HT_.out (by kernel_rfl)) (by decide) (fun K hK => ?_)
               refine goes_ Try.func51 (by kernel_rfl) rfl #[.int .i64 ((rd_T36 l1 x8_3).f0)] (by rfl) rfl rfl (by (try simp only [List.map_toArray, List.map_cons, List.map_nil]); rfl) ?_
               with_reducible refine (spec_l02Quant.calls ((rd_T36 l1 x8_3).f0) false _ A32.out).mono ?_
               rintro e w' ⟨rfl, ⟨nd, rfl⟩⟩
               refine ⟨_, rfl, ?_⟩
               obtain ⟨Ao49, co49, eo49⟩ := Kd.R_slice HO_7.out
               ((injection eo49 with f1_ f2_ f3_; have f4_ := f1_.symm; have f5_ := f3_.symm; clear f1_ f2_ f3_; subst f4_; subst f5_))
               refine hK.out _ _ ⟨(pw_cell_below HB.out hw237_0), (pw_cell_below HB.out hw237_1), (pw_cell_below HB.out hw237_2), (pw_cell_below HB.out hw237_3), (pw_cell_below HB.out hw237_4), (pw_cell_below HB.out hw237_5), hHeld.2.2.2.2.2.2.1, (pw_cell_below HB.out hw240_0), (pw_cell_below HB.out hw240_1), (pw_cell_below HB.out hw240_2), (pw_cell_below HB.out hw240_3), (pw_cell_below HB.out hw240_4), (pw_cell_below HB.out hw240_5)⟩ (fun hHeld => ?_)
               clear hK K
               refine norm_ (a' := ?_) ?_ ?_
               rotate_left
               ·show Act.put _ (some 81) _ = _
                simp only [Act.put, List.setIfInBounds_toArray, List.set_cons_zero, List.set_cons_succ, i64_w, i32_w]
                rfl
               refine pure_ (i := 6) (N := some 82) (v := ?_) (a' := ?_) zA21x7 rfl rfl (any_of HT_.out (by kernel_rfl)) (fun _ _ _ h => h) (Or.inl ⟨by rfl, ?_⟩) ?_ ?_; rotate_left; (intro w'; go_simp; with_reducible rfl); rotate_left; (simp only [Act.put, List.setIfInBounds_toArray, List.set_cons_zero, List.set_cons_succ, i64_w, i32_w]; rfl)
               refine pure_ (i := 7) (N := some 83) (v := ?_) (a' := ?_) zA22x7 rfl rfl (any_of HT_.out (by kernel_rfl)) (fun _ _ _ h => h) (Or.inl ⟨by rfl, ?_⟩) ?_ ?_; rotate_left; (intro w'; go_simp; with_reducible rfl); rotate_left; (simp only [Act.put, List.setIfInBounds_toArray, List.set_cons_zero, List.set_cons_succ, i64_w, i32_w]; rfl)
               refine pure_ (i := 8) (N := some 84) (v := ?_) (a' := ?_) zA23x7 rfl rfl (any_of HT_.out (by kernel_rfl)) (fun _ _ _ h => h) (Or.inl ⟨by rfl, ?_⟩) ?_ ?_; rotate_left; (intro w'; go_simp; with_reducible rfl); rotate_left; (simp only [Act.put, List.setIfInBounds_toArray, List.set_cons_zero, List.set_cons_succ, i64_w, i32_w]; rfl)
               refine pure_ (i := 9) (N := some 85) (v := ?_) (a' := ?_) zA24x7 rfl rfl (any_of HT_.out (by kernel_rfl)) (fun _ _ _ h => h) (Or.inl ⟨by rfl, ?_⟩) ?_ ?_; rotate_left; (intro w'; go_simp; with_reducible rfl); rotate_left; (simp only [Act.put, List.setIfInBounds_toArray, List.set_cons_zero, List.set_cons_succ, i64_w, i32_w]; rfl)
               refine take_ (i := 10) (N := some 86) (v := ?_) (a' := ?_) zA25x7 rfl rfl (take_ofW HT_.out HW_.out (by kernel_rfl)) (fun _ _ _ h => h) (Or.inl ⟨by rfl, ?_⟩) hHeld ?_ ?_
               rotate_left
               ·rintro w' ⟨s0, s1, s2, s3, s4, s5, s6, s7, s8, s9, s10, s11, s12⟩
                go_simp
                with_reducible rfl
               rotate_left
               ·simp only [Act.put, List.setIfInBounds_toArray, List.set_cons_zero, List.set_cons_succ, i64_w, i32_w]
                rfl
               refine pure_ (i := 11) (N := some 87) (v := ?_) (a' := ?_) zA26x7 rfl rfl (any_of HT_.out (by kernel_rfl)) (fun _ _ _ h => h) (Or.inl ⟨by rfl, ?_⟩) ?_ ?_; rotate_left; (intro w'; go_simp; with_reducible rfl); rotate_left; (simp only [Act.put, List.setIfInBounds_toArray, List.set_cons_zero, List.set_cons_succ, i64_w, i32_w]; rfl)
               refine pure_ (i := 12) (N := some 88) (v := ?_) (a' := ?_) zA27x7 rfl rfl (any_of HT_.out (by kernel_rfl)) (fun _ _ _ h => h) (Or.inl ⟨by rfl, ?_⟩) ?_ ?_; rotate_left; (intro w'; go_simp; with_reducible rfl); rotate_left; (simp only [Act.put, List.setIfInBounds_toArray, List.set_cons_zero, List.set_cons_succ, i64_w, i32_w]; rfl)
               refine pure_ (i := 13) (N := some 89) (v := ?_) (a' := ?_) zA28x7 rfl rfl (any_of HT_.out (by kernel_rfl)) (fun _ _ _ h => h) (Or.inl ⟨by rfl, ?_⟩) ?_ ?_; rotate_left; (intro w'; go_simp; with_reducible rfl); rotate_left; (simp only [Act.put, List.setIfInBounds_toArray, List.set_cons_zero, List.set_cons_succ, i64_w, i32_w]; rfl)
               refine pure_ (i := 14) (N := some 90) (v := ?_) (a' := ?_) zA29x7 rfl rfl (any_of HT_.out (by kernel_rfl)) (fun _ _ _ h => h) (Or.inl ⟨by rfl, ?_⟩) ?_ ?_; rotate_left; (intro w'; go_simp; with_reducible rfl); rotate_left; (simp only [Act.put, List.setIfInBounds_toArray, List.set_cons_zero, List.set_cons_succ, i64_w, i32_w]; rfl)
               refine pure_ (i := 15) (N := some 91) (v := ?_) (a' := ?_) zA30x7 rfl rfl (any_of HT_.out (by kernel_rfl)) (fun _ _ _ h => h) (Or.inl ⟨by rfl, ?_⟩) ?_ ?_; rotate_left; (intro w'; go_simp; with_reducible rfl); rotate_left; (simp only [Act.put, List.setIfInBounds_toArray, List.set_cons_zero, List.set_cons_succ, i64_w, i32_w]; rfl)
               refine take_ (i := 16) (N := some 92) (v := ?_) (a' := ?_) zA31x7 rfl rfl (take_ofW HT_.out HW_.out (by kernel_rfl)) (fun _ _ _ h => h) (Or.inl ⟨by rfl, ?_⟩) hHeld ?_ ?_
               rotate_left
               ·rintro w' ⟨s0, s1, s2, s3, s4, s5, s6, s7, s8, s9, s10, s11, s12⟩
                go_simp
                with_reducible rfl
               rotate_left
               ·simp only [Act.put, List.setIfInBounds_toArray, List.set_cons_zero, List.set_cons_succ, i64_w, i32_w]
                rfl
               refine pure_ (i := 17) (N := some 93) (v := ?_) (a' := ?_) zA32x7 rfl rfl (any_of HT_.out (by kernel_rfl)) (fun _ _ _ h => h) (Or.inl ⟨by rfl, ?_⟩) ?_ ?_; rotate_left; (intro w'; go_simp; with_reducible rfl); rotate_left; (simp only [Act.put, List.setIfInBounds_toArray, List.set_cons_zero, List.set_cons_succ, i64_w, i32_w]; rfl)
               refine pure_ (i := 18) (N := some 94) (v := ?_) (a' := ?_) zA33x7 rfl rfl (any_of HT_.out (by kernel_rfl)) (fun _ _ _ h => h) (Or.inl ⟨by rfl, ?_⟩) ?_ ?_; rotate_left; (intro w'; go_simp; with_reducible rfl); rotate_left; (simp only [Act.put, List.setIfInBounds_toArray, List.set_cons_zero, List.set_cons_succ, i64_w, i32_w]; rfl)
               refine pure_ (i := 19) (N := some 95) (v := ?_) (a' := ?_) zA34x7 rfl rfl (any_of HT_.out (by kernel_rfl)) (fun _ _ _ h => h) (Or.inl ⟨by rfl, ?_⟩) ?_ ?_; rotate_left; (intro w'; go_simp; with_reducible rfl); rotate_left; (simp only [Act.put, List.setIfInBounds_toArray, List.set_cons_zero, List.set_cons_succ, i64_w, i32_w]; rfl)
               refine pure_ (i := 20) (N := some 96) (v := undef) (a' := ?_) zA35x7 rfl rfl (any_of HT_.out (by kernel_rfl)) (fun _ _ _ h => h) (Or.inr ⟨by rfl, rfl⟩) ?_ ?_
               rotate_left
               ·simp only [Act.put, List.setIfInBounds_toArray, List.set_cons_zero, List.set_cons_succ, i64_w, i32_w]
                rfl
               refine pure_ (i := 21) (N := some 97) (v := undef) (a' := ?_) zA36x7 rfl rfl (any_of HT_.out (by kernel_rfl)) (fun _ _ _ h => h) (Or.inr ⟨by rfl, rfl⟩) ?_ ?_
               rotate_left
               ·simp only [Act.put, List.setIfInBounds_toArray, List.set_cons_zero, List.set_cons_succ, i64_w, i32_w]
                rfl
               refine pure_ (i := 22) (N := some 98) (v := undef) (a' := ?_) zA37x7 rfl rfl (any_of HT_.out (by kernel_rfl)) (fun _ _ _ h => h) (Or.inr ⟨by rfl, rfl⟩) ?_ ?_
               rotate_left
               ·simp only [Act.put, List.setIfInBounds_toArray, List.set_cons_zero, List.set_cons_succ, i64_w, i32_w]
                rfl
               refine pure_ (i := 23) (N := some 99) (v := undef) (a' := ?_) zA38x7 rfl rfl (any_of HT_.out (by kernel_rfl)) (fun _ _ _ h => h) (Or.inr ⟨by rfl, rfl⟩) ?_ ?_
               rotate_left
               ·simp only [Act.put, List.setIfInBounds_toArray, List.set_cons_zero, List.set_cons_succ, i64_w, i32_w]
                rfl
               refine pure_ (i := 24) (N := some 100) (v := undef) (a' := ?_) zA39x7 rfl rfl (any_of HT_.out (by kernel_rfl)) (fun _ _ _ h => h) (Or.inr ⟨by rfl, rfl⟩) ?_ ?_
               rotate_left
               ·simp only [Act.put, List.setIfInBounds_toArray, List.set_cons_zero, List.set_cons_succ, i64_w, i32_w]
                rfl
               refine pure_ (i := 25) (N := some 101) (v := undef) (a' := ?_) zA40x7 rfl rfl (any_of HT_.out (by kernel_rfl)) (fun _ _ _ h => h) (Or.inr ⟨by rfl, rfl⟩) ?_ ?_
               rotate_left
               ·simp only [Act.put, List.setIfInBounds_toArray, List.set_cons_zero, List.set_cons_succ, i64_w, i32_w]
                rfl
               refine pure_ (i := 26) (N := some 102) (v := undef) (a' := ?_) zA41x7 rfl rfl (any_of HT_.out (by kernel_rfl)) (fun _ _ _ h => h) (Or.inr ⟨by rfl, rfl⟩) ?_ ?_
               rotate_left
               ·simp only [Act.put, List.setIfInBounds_toArray, List.set_cons_zero, List.set_cons_succ, i64_w, i32_w]
                rfl
               refine pure_ (i := 27) (N := some 103) (v := undef) (a' := ?_) zA42x7 rfl rfl (any_of HT_.out (by kernel_rfl)) (fun _ _ _ h => h) (Or.inr ⟨by rfl, rfl⟩) ?_ ?_
               rotate_left
               ·simp only [Act.put, List.setIfInBounds_toArray, List.set_cons_zero, List.set_cons_succ, i64_w, i32_w]
                rfl
               refine pure_ (i := 28) (N := some 104) (v := undef) (a' := ?_) zA43x7 rfl rfl (any_of HT_.out (by kernel_rfl)) (fun _ _ _ h => h) (Or.inr ⟨by rfl, rfl⟩) ?_ ?_
               rotate_left
               ·simp only [Act.put, List.setIfInBounds_toArray, List.set_cons_zero, List.set_cons_succ, i64_w, i32_w]
                rfl
               refine pure_ (i := 29) (N := some 105) (v := undef) (a' := ?_) zA44x7 rfl rfl (any_of HT_.out (by kernel_rfl)) (fun _ _ _ h => h) (Or.inr ⟨by rfl, rfl⟩) ?_ ?_
               rotate_left
               ·simp only [Act.put, List.setIfInBounds_toArray, List.set_cons_zero, List.set_cons_succ, i64_w, i32_w]
                rfl
               refine pure_ (i := 30) (N := some 106) (v := undef) (a' := ?_) zA45x7 rfl rfl (any_of HT_.out (by kernel_rfl)) (fun _ _ _ h => h) (Or.inr ⟨by rfl, rfl⟩) ?_ ?_
               rotate_left
               ·simp only [Act.put, List.setIfInBounds_toArray, List.set_cons_zero, List.set_cons_succ, i64_w, i32_w]
                rfl
               refine pure_ (i := 31) (N := some 107) (v := undef) (a' := ?_) zA46x7 rfl rfl (any_of HT_.out (by kernel_rfl)) (fun _ _ _ h => h) (Or.inr ⟨by rfl, rfl⟩) ?_ ?_
               rotate_left
               ·simp only [Act.put, List.setIfInBounds_toArray, List.set_cons_zero, List.set_cons_succ, i64_w, i32_w]
                rfl
               refine pure_ (i := 32) (N := some 108) (v := undef) (a' := ?_) zA47x7 rfl rfl (any_of HT_.out (by kernel_rfl)) (fun _ _ _ h => h) (Or.inr ⟨by rfl, rfl⟩) ?_ ?_
               rotate_left
               ·simp only [Act.put, List.setIfInBounds_toArray, List.set_cons_zero, List.set_cons_succ, i64_w, i32_w]
                rfl
               refine pure_ (i := 33) (N := some 109) (v := undef) (a' := ?_) zA48x7 rfl rfl (any_of HT_.out (by kernel_rfl)) (fun _ _ _ h => h) (Or.inr ⟨by rfl, rfl⟩) ?_ ?_
               rotate_left
               ·simp only [Act.put, List.setIfInBounds_toArray, List.set_cons_zero, List.set_cons_succ, i64_w, i32_w]
                rfl
               refine pure_ (i := 34) (N := some 110) (v := ?_) (a' := ?_) zA49x7 rfl rfl (any_of HT_.out (by kernel_rfl)) (fun _ _ _ h => h) (Or.inl ⟨by rfl, ?_⟩) ?_ ?_; rotate_left; (intro w'; go_simp; with_reducible rfl); rotate_left; (simp only [Act.put, List.setIfInBounds_toArray, List.set_cons_zero, List.set_cons_succ, i64_w, i32_w]; rfl)
               refine pure_ (i := 35) (N := some 111) (v := ?_) (a' := ?_) zA50x7 rfl rfl (any_of HT_.out (by kernel_rfl)) (fun _ _ _ h => h) (Or.inl ⟨by rfl, ?_⟩) ?_ ?_; rotate_left; (intro w'; go_simp; with_reducible rfl); rotate_left; (simp only [Act.put, List.setIfInBounds_toArray, List.set_cons_zero, List.set_cons_succ, i64_w, i32_w]; rfl)
               refine done_ (done_of HT_.out (by kernel_rfl)) ?_
               try go_wp2
               go_roundg k3
               case measure => have := HJ2.out; have := HK2.out; have := HK3.out; omega
               case rel => exact ⟨(wrap64 (x8_3 + 1)), (by rfl), H', ⟨by have := HJ2.out; have := HK2.out; have := HK3.out; omega⟩, ⟨by (with_reducible repeat (first | apply Kd.R_alloc | apply Kd.R_drewN | apply Kd.R_drew)); exact HO_5.out⟩, ⟨by (with_reducible repeat (first | apply Kd.R_alloc | apply Kd.R_drewN | apply Kd.R_drew)); exact HO_7.out⟩, ⟨by repeat (first | (with_reducible first | exact HB.out | apply below_alloc | apply pw_below_drewN | apply below_drew1))⟩⟩
             ·replace c37 := Bool.eq_false_iff.mpr c37
              subst c37
              have H1 : (spec_FrontOk.l1 k3 l1 x5_2 t234 (wrap64 (x8_3 + 1))) = some r := by rw [if_neg (show ¬ (false = true) by decide)] at H; exact H
              clear H
              have H := H1
              clear H1
              have H' := Aside0.mk H
              clear H
              try go_wp2
              have n0_ := Aside0.mk (Kd.R_drew HO_5.out)
              have n1_ := Aside0.mk (Kd.R_drew HO_7.out)
              have n2_ := Aside0.mk (below_drew1 HB.out)
              clear HO_5
              clear HO_7
              clear HB
              have HO_5 := n0_
              have HO_7 := n1_
              have HB := n2_
              clear n0_ n1_ n2_
              have p237 : 0 ≤ (x8_3 : Int) := of_decide_eq_true (by assumption)
              have q237 : x8_3 < (l1.length : Int) := of_decide_eq_true (by assumption)
              obtain ⟨ad237, e237, hx237_0, hx237_1, hx237_2, hx237_3, hx237_4, hx237_5⟩ := at_T36 HR1.out x8_3 p237 q237
              have hw237_5 := hx237_5
              have hw237_4 := hx237_4
              have hw237_3 := hx237_3
              have hw237_2 := hx237_2
              have hw237_1 := hx237_1
              have hw237_0 := hx237_0
              cases e237
              replace hx237_0 := pw_cell_below HB.out hx237_0
              replace hx237_1 := pw_cell_below HB.out hx237_1
              replace hx237_2 := pw_cell_below HB.out hx237_2
              replace hx237_3 := pw_cell_below HB.out hx237_3
              replace hx237_4 := pw_cell_below HB.out hx237_4
              replace hx237_5 := pw_cell_below HB.out hx237_5
              replace p237 := eq_true p237
              replace q237 := eq_true q237
              have p239 : 0 ≤ (x8_3 : Int) := of_decide_eq_true (by assumption)
              have q239 : x8_3 < (t234.length : Int) := of_decide_eq_true (by assumption)
              obtain ⟨Ao_front_, co_front_, eo_front_⟩ := Kd.R_slice HO_7.out
              subst eo_front_
              obtain ⟨ad239, e239, hx239_0⟩ := Kd.at_bool (Kd.R_reads' HO_7.out).2.2 x8_3 p239 q239
              (try rw [← Nbq36.out] at hx239_0)
              cases e239
              replace p239 := eq_true p239
              replace q239 := eq_true q239
              refine start_ (n := 36) (S := fun w' => w'.cell? (ad237.add ((x8_3).toNat * 6)) = some (.int .i64 ((rd_T36 l1 x8_3).f0)) ∧ w'.cell? ⟨(ad237.add ((x8_3).toNat * 6)).block, (ad237.add ((x8_3).toNat * 6)).off + 1, none⟩ = some (.int .i64 ((rd_T36 l1 x8_3).f1)) ∧ w'.cell? ⟨(ad237.add ((x8_3).toNat * 6)).block, (ad237.add ((x8_3).toNat * 6)).off + 2, none⟩ = some (.int .i64 ((rd_T36 l1 x8_3).f2)) ∧ w'.cell? ⟨(ad237.add ((x8_3).toNat * 6)).block, (ad237.add ((x8_3).toNat * 6)).off + 3, none⟩ = some (.int .i64 ((rd_T36 l1 x8_3).f3)) ∧ w'.cell? ⟨(ad237.add ((x8_3).toNat * 6)).block, (ad237.add ((x8_3).toNat * 6)).off + 4, none⟩ = some (.int .i64 ((rd_T36 l1 x8_3).f4)) ∧ w'.cell? ⟨(ad237.add ((x8_3).toNat * 6)).block, (ad237.add ((x8_3).toNat * 6)).off + 5, none⟩ = some (.int .i64 ((rd_T36 l1 x8_3).f5)) ∧ w'.cell? (ad239.add (x8_3).toNat) = some (.bool false)) (ds := []) zA14x7 (by kernel_rfl) rfl rfl ⟨(pw_cell_below HB.out hw237_0), (pw_cell_below HB.out hw237_1), (pw_cell_below HB.out hw237_2), (pw_cell_below HB.out hw237_3), (pw_cell_below HB.out hw237_4), (pw_cell_below HB.out hw237_5), hx239_0⟩ (fun hHeld => ?_); refine with_tabW spec_FrontOk.tab14 spec_FrontOk.bits14 (fun HT_ HW_ => ?_)
              generalize wr.drew = w50 at HO_5 HO_7 HB hx237_0 hx237_1 hx237_2 hx237_3 hx237_4 hx237_5 hx239_0 hHeld ⊢
              refine pure_ (i := 0) (N := some 76) (v := ?_) (a' := ?_) zA15x7 rfl rfl (any_of HT_.out (by kernel_rfl)) (fun _ _ _ h => h) (Or.inl ⟨by rfl, ?_⟩) ?_ ?_; rotate_left; (intro w'; go_simp; with_reducible rfl); rotate_left; (simp only [Act.put, List.setIfInBounds_toArray, List.set_cons_zero, List.set_cons_succ, i64_w, i32_w]; rfl)
              refine pure_ (i := 1) (N := some 77) (v := ?_) (a' := ?_) zA16x7 rfl rfl (any_of HT_.out (by kernel_rfl)) (fun _ _ _ h => h) (Or.inl ⟨by rfl, ?_⟩) ?_ ?_; rotate_left; (intro w'; go_simp; with_reducible rfl); rotate_left; (simp only [Act.put, List.setIfInBounds_toArray, List.set_cons_zero, List.set_cons_succ, i64_w, i32_w]; rfl)
              refine pure_ (i := 2) (N := some 78) (v := ?_) (a' := ?_) zA17x7 rfl rfl (any_of HT_.out (by kernel_rfl)) (fun _ _ _ h => h) (Or.inl ⟨by rfl, ?_⟩) ?_ ?_; rotate_left; (intro w'; go_simp; with_reducible rfl); rotate_left; (simp only [Act.put, List.setIfInBounds_toArray, List.set_cons_zero, List.set_cons_succ, i64_w, i32_w]; rfl)
              refine pure_ (i := 3) (N := some 79) (v := ?_) (a' := ?_) zA18x7 rfl rfl (any_of HT_.out (by kernel_rfl)) (fun _ _ _ h => h) (Or.inl ⟨by rfl, ?_⟩) ?_ ?_; rotate_left; (intro w'; go_simp; with_reducible rfl); rotate_left; (simp only [Act.put, List.setIfInBounds_toArray, List.set_cons_zero, List.set_cons_succ, i64_w, i32_w]; rfl)
              refine take_ (i := 4) (N := some 80) (v := ?_) (a' := ?_) zA19x7 rfl rfl (take_ofW HT_.out HW_.out (by kernel_rfl)) (fun _ _ _ h => h) (Or.inl ⟨by rfl, ?_⟩) hHeld ?_ ?_
              rotate_left
              ·rintro w' ⟨s0, s1, s2, s3, s4, s5, s6⟩
               go_simp
               with_reducible rfl
              rotate_left
              ·simp only [Act.put, List.setIfInBounds_toArray, List.set_cons_zero, List.set_cons_succ, i64_w, i32_w]
               rfl
              refine one_ (i := 5) (N := some 81) zA20x7 rfl rfl (one_of HT_.out (by kernel_rfl)) (by decide) (fun K hK => ?_)
              refine goes_ Try.func51 (by kernel_rfl) rfl #[.int .i64 ((rd_T36 l1 x8_3).f0)] (by rfl) rfl rfl (by (try simp only [List.map_toArray, List.map_cons, List.map_nil]); rfl) ?_
              with_reducible refine (spec_l02Quant.calls ((rd_T36 l1 x8_3).f0) false _ A32.out).mono ?_
              rintro e w' ⟨rfl, ⟨nd, rfl⟩⟩
              refine ⟨_, rfl, ?_⟩
              obtain ⟨Ao51, co51, eo51⟩ := Kd.R_slice HO_7.out
              ((injection eo51 with f1_ f2_ f3_; have f4_ := f1_.symm; have f5_ := f3_.symm; clear f1_ f2_ f3_; subst f4_; subst f5_))
              refine hK.out _ _ ⟨(pw_cell_below HB.out hw237_0), (pw_cell_below HB.out hw237_1), (pw_cell_below HB.out hw237_2), (pw_cell_below HB.out hw237_3), (pw_cell_below HB.out hw237_4), (pw_cell_below HB.out hw237_5), hHeld.2.2.2.2.2.2⟩ (fun hHeld => ?_)
              clear hK K
              refine norm_ (a' := ?_) ?_ ?_
              rotate_left
              ·show Act.put _ (some 81) _ = _
               simp only [Act.put, List.setIfInBounds_toArray, List.set_cons_zero, List.set_cons_succ, i64_w, i32_w]
               rfl
              refine pure_ (i := 6) (N := some 82) (v := ?_) (a' := ?_) zA21x7 rfl rfl (any_of HT_.out (by kernel_rfl)) (fun _ _ _ h => h) (Or.inl ⟨by rfl, ?_⟩) ?_ ?_; rotate_left; (intro w'; go_simp; with_reducible rfl); rotate_left; (simp only [Act.put, List.setIfInBounds_toArray, List.set_cons_zero, List.set_cons_succ, i64_w, i32_w]; rfl)
              refine pure_ (i := 7) (N := some 83) (v := ?_) (a' := ?_) zA22x7 rfl rfl (any_of HT_.out (by kernel_rfl)) (fun _ _ _ h => h) (Or.inl ⟨by rfl, ?_⟩) ?_ ?_; rotate_left; (intro w'; go_simp; with_reducible rfl); rotate_left; (simp only [Act.put, List.setIfInBounds_toArray, List.set_cons_zero, List.set_cons_succ, i64_w, i32_w]; rfl)
              refine pure_ (i := 8) (N := some 84) (v := ?_) (a' := ?_) zA23x7 rfl rfl (any_of HT_.out (by kernel_rfl)) (fun _ _ _ h => h) (Or.inl ⟨by rfl, ?_⟩) ?_ ?_; rotate_left; (intro w'; go_simp; with_reducible rfl); rotate_left; (simp only [Act.put, List.setIfInBounds_toArray, List.set_cons_zero, List.set_cons_succ, i64_w, i32_w]; rfl)
              refine pure_ (i := 9) (N := some 85) (v := ?_) (a' := ?_) zA24x7 rfl rfl (any_of HT_.out (by kernel_rfl)) (fun _ _ _ h => h) (Or.inl ⟨by rfl, ?_⟩) ?_ ?_; rotate_left; (intro w'; go_simp; with_reducible rfl); rotate_left; (simp only [Act.put, List.setIfInBounds_toArray, List.set_cons_zero, List.set_cons_succ, i64_w, i32_w]; rfl)
              refine take_ (i := 10) (N := some 86) (v := ?_) (a' := ?_) zA25x7 rfl rfl (take_ofW HT_.out HW_.out (by kernel_rfl)) (fun _ _ _ h => h) (Or.inl ⟨by rfl, ?_⟩) hHeld ?_ ?_
              rotate_left
              ·rintro w' ⟨s0, s1, s2, s3, s4, s5, s6⟩
               go_simp
               with_reducible rfl
              rotate_left
              ·simp only [Act.put, List.setIfInBounds_toArray, List.set_cons_zero, List.set_cons_succ, i64_w, i32_w]
               rfl
              refine pure_ (i := 11) (N := some 87) (v := ?_) (a' := ?_) zA26x7 rfl rfl (any_of HT_.out (by kernel_rfl)) (fun _ _ _ h => h) (Or.inl ⟨by rfl, ?_⟩) ?_ ?_; rotate_left; (intro w'; go_simp; with_reducible rfl); rotate_left; (simp only [Act.put, List.setIfInBounds_toArray, List.set_cons_zero, List.set_cons_succ, i64_w, i32_w]; rfl)
              refine pure_ (i := 12) (N := some 88) (v := undef) (a' := ?_) zA27x7 rfl rfl (any_of HT_.out (by kernel_rfl)) (fun _ _ _ h => h) (Or.inr ⟨by rfl, rfl⟩) ?_ ?_
              rotate_left
              ·simp only [Act.put, List.setIfInBounds_toArray, List.set_cons_zero, List.set_cons_succ, i64_w, i32_w]
               rfl
              refine pure_ (i := 13) (N := some 89) (v := undef) (a' := ?_) zA28x7 rfl rfl (any_of HT_.out (by kernel_rfl)) (fun _ _ _ h => h) (Or.inr ⟨by rfl, rfl⟩) ?_ ?_
              rotate_left
              ·simp only [Act.put, List.setIfInBounds_toArray, List.set_cons_zero, List.set_cons_succ, i64_w, i32_w]
               rfl
              refine pure_ (i := 14) (N := some 90) (v := undef) (a' := ?_) zA29x7 rfl rfl (any_of HT_.out (by kernel_rfl)) (fun _ _ _ h => h) (Or.inr ⟨by rfl, rfl⟩) ?_ ?_
              rotate_left
              ·simp only [Act.put, List.setIfInBounds_toArray, List.set_cons_zero, List.set_cons_succ, i64_w, i32_w]
               rfl
              refine pure_ (i := 15) (N := some 91) (v := undef) (a' := ?_) zA30x7 rfl rfl (any_of HT_.out (by kernel_rfl)) (fun _ _ _ h => h) (Or.inr ⟨by rfl, rfl⟩) ?_ ?_
              rotate_left
              ·simp only [Act.put, List.setIfInBounds_toArray, List.set_cons_zero, List.set_cons_succ, i64_w, i32_w]
               rfl
              refine pure_ (i := 16) (N := some 92) (v := undef) (a' := ?_) zA31x7 rfl rfl (any_of HT_.out (by kernel_rfl)) (fun _ _ _ h => h) (Or.inr ⟨by rfl, rfl⟩) ?_ ?_
              rotate_left
              ·simp only [Act.put, List.setIfInBounds_toArray, List.set_cons_zero, List.set_cons_succ, i64_w, i32_w]
               rfl
              refine pure_ (i := 17) (N := some 93) (v := undef) (a' := ?_) zA32x7 rfl rfl (any_of HT_.out (by kernel_rfl)) (fun _ _ _ h => h) (Or.inr ⟨by rfl, rfl⟩) ?_ ?_
              rotate_left
              ·simp only [Act.put, List.setIfInBounds_toArray, List.set_cons_zero, List.set_cons_succ, i64_w, i32_w]
               rfl
              refine pure_ (i := 18) (N := some 94) (v := ?_) (a' := ?_) zA33x7 rfl rfl (any_of HT_.out (by kernel_rfl)) (fun _ _ _ h => h) (Or.inl ⟨by rfl, ?_⟩) ?_ ?_; rotate_left; (intro w'; go_simp; with_reducible rfl); rotate_left; (simp only [Act.put, List.setIfInBounds_toArray, List.set_cons_zero, List.set_cons_succ, i64_w, i32_w]; rfl)
              refine pure_ (i := 19) (N := some 95) (v := ?_) (a' := ?_) zA34x7 rfl rfl (any_of HT_.out (by kernel_rfl)) (fun _ _ _ h => h) (Or.inl ⟨by rfl, ?_⟩) ?_ ?_; rotate_left; (intro w'; go_simp; with_reducible rfl); rotate_left; (simp only [Act.put, List.setIfInBounds_toArray, List.set_cons_zero, List.set_cons_succ, i64_w, i32_w]; rfl)
              refine pure_ (i := 20) (N := some 96) (v := undef) (a' := ?_) zA35x7 rfl rfl (any_of HT_.out (by kernel_rfl)) (fun _ _ _ h => h) (Or.inr ⟨by rfl, rfl⟩) ?_ ?_
              rotate_left
              ·simp only [Act.put, List.setIfInBounds_toArray, List.set_cons_zero, List.set_cons_succ, i64_w, i32_w]
               rfl
              refine pure_ (i := 21) (N := some 97) (v := undef) (a' := ?_) zA36x7 rfl rfl (any_of HT_.out (by kernel_rfl)) (fun _ _ _ h => h) (Or.inr ⟨by rfl, rfl⟩) ?_ ?_
              rotate_left
              ·simp only [Act.put, List.setIfInBounds_toArray, List.set_cons_zero, List.set_cons_succ, i64_w, i32_w]
               rfl
              refine pure_ (i := 22) (N := some 98) (v := undef) (a' := ?_) zA37x7 rfl rfl (any_of HT_.out (by kernel_rfl)) (fun _ _ _ h => h) (Or.inr ⟨by rfl, rfl⟩) ?_ ?_
              rotate_left
              ·simp only [Act.put, List.setIfInBounds_toArray, List.set_cons_zero, List.set_cons_succ, i64_w, i32_w]
               rfl
              refine pure_ (i := 23) (N := some 99) (v := undef) (a' := ?_) zA38x7 rfl rfl (any_of HT_.out (by kernel_rfl)) (fun _ _ _ h => h) (Or.inr ⟨by rfl, rfl⟩) ?_ ?_
              rotate_left
              ·simp only [Act.put, List.setIfInBounds_toArray, List.set_cons_zero, List.set_cons_succ, i64_w, i32_w]
               rfl
              refine pure_ (i := 24) (N := some 100) (v := undef) (a' := ?_) zA39x7 rfl rfl (any_of HT_.out (by kernel_rfl)) (fun _ _ _ h => h) (Or.inr ⟨by rfl, rfl⟩) ?_ ?_
              rotate_left
              ·simp only [Act.put, List.setIfInBounds_toArray, List.set_cons_zero, List.set_cons_succ, i64_w, i32_w]
               rfl
              refine pure_ (i := 25) (N := some 101) (v := undef) (a' := ?_) zA40x7 rfl rfl (any_of HT_.out (by kernel_rfl)) (fun _ _ _ h => h) (Or.inr ⟨by rfl, rfl⟩) ?_ ?_
              rotate_left
              ·simp only [Act.put, List.setIfInBounds_toArray, List.set_cons_zero, List.set_cons_succ, i64_w, i32_w]
               rfl
              refine pure_ (i := 26) (N := some 102) (v := undef) (a' := ?_) zA41x7 rfl rfl (any_of HT_.out (by kernel_rfl)) (fun _ _ _ h => h) (Or.inr ⟨by rfl, rfl⟩) ?_ ?_
              rotate_left
              ·simp only [Act.put, List.setIfInBounds_toArray, List.set_cons_zero, List.set_cons_succ, i64_w, i32_w]
               rfl
              refine pure_ (i := 27) (N := some 103) (v := undef) (a' := ?_) zA42x7 rfl rfl (any_of HT_.out (by kernel_rfl)) (fun _ _ _ h => h) (Or.inr ⟨by rfl, rfl⟩) ?_ ?_
              rotate_left
              ·simp only [Act.put, List.setIfInBounds_toArray, List.set_cons_zero, List.set_cons_succ, i64_w, i32_w]
               rfl
              refine pure_ (i := 28) (N := some 104) (v := undef) (a' := ?_) zA43x7 rfl rfl (any_of HT_.out (by kernel_rfl)) (fun _ _ _ h => h) (Or.inr ⟨by rfl, rfl⟩) ?_ ?_
              rotate_left
              ·simp only [Act.put, List.setIfInBounds_toArray, List.set_cons_zero, List.set_cons_succ, i64_w, i32_w]
               rfl
              refine pure_ (i := 29) (N := some 105) (v := undef) (a' := ?_) zA44x7 rfl rfl (any_of HT_.out (by kernel_rfl)) (fun _ _ _ h => h) (Or.inr ⟨by rfl, rfl⟩) ?_ ?_
              rotate_left
              ·simp only [Act.put, List.setIfInBounds_toArray, List.set_cons_zero, List.set_cons_succ, i64_w, i32_w]
               rfl
              refine pure_ (i := 30) (N := some 106) (v := undef) (a' := ?_) zA45x7 rfl rfl (any_of HT_.out (by kernel_rfl)) (fun _ _ _ h => h) (Or.inr ⟨by rfl, rfl⟩) ?_ ?_
              rotate_left
              ·simp only [Act.put, List.setIfInBounds_toArray, List.set_cons_zero, List.set_cons_succ, i64_w, i32_w]
               rfl
              refine pure_ (i := 31) (N := some 107) (v := undef) (a' := ?_) zA46x7 rfl rfl (any_of HT_.out (by kernel_rfl)) (fun _ _ _ h => h) (Or.inr ⟨by rfl, rfl⟩) ?_ ?_
              rotate_left
              ·simp only [Act.put, List.setIfInBounds_toArray, List.set_cons_zero, List.set_cons_succ, i64_w, i32_w]
               rfl
              refine pure_ (i := 32) (N := some 108) (v := undef) (a' := ?_) zA47x7 rfl rfl (any_of HT_.out (by kernel_rfl)) (fun _ _ _ h => h) (Or.inr ⟨by rfl, rfl⟩) ?_ ?_
              rotate_left
              ·simp only [Act.put, List.setIfInBounds_toArray, List.set_cons_zero, List.set_cons_succ, i64_w, i32_w]
               rfl
              refine pure_ (i := 33) (N := some 109) (v := undef) (a' := ?_) zA48x7 rfl rfl (any_of HT_.out (by kernel_rfl)) (fun _ _ _ h => h) (Or.inr ⟨by rfl, rfl⟩) ?_ ?_
              rotate_left
              ·simp only [Act.put, List.setIfInBounds_toArray, List.set_cons_zero, List.set_cons_succ, i64_w, i32_w]
               rfl
              refine pure_ (i := 34) (N := some 110) (v := ?_) (a' := ?_) zA49x7 rfl rfl (any_of HT_.out (by kernel_rfl)) (fun _ _ _ h => h) (Or.inl ⟨by rfl, ?_⟩) ?_ ?_; rotate_left; (intro w'; go_simp; with_reducible rfl); rotate_left; (simp only [Act.put, List.setIfInBounds_toArray, List.set_cons_zero, List.set_cons_succ, i64_w, i32_w]; rfl)
              refine pure_ (i := 35) (N := some 111) (v := ?_) (a' := ?_) zA50x7 rfl rfl (any_of HT_.out (by kernel_rfl)) (fun _ _ _ h => h) (Or.inl ⟨by rfl, ?_⟩) ?_ ?_; rotate_left; (intro w'; go_simp; with_reducible rfl); rotate_left; (simp only [Act.put, List.setIfInBounds_toArray, List.set_cons_zero, List.set_cons_succ, i64_w, i32_w]; rfl)
              refine done_ (done_of HT_.out (by kernel_rfl)) ?_
              try go_wp2
              go_roundg k3
              case measure => have := HJ2.out; have := HK2.out; have := HK3.out; omega
              case rel => exact ⟨(wrap64 (x8_3 + 1)), (by rfl), H', ⟨by have := HJ2.out; have := HK2.out; have := HK3.out; omega⟩, ⟨by (with_reducible repeat (first | apply Kd.R_alloc | apply Kd.R_drewN | apply Kd.R_drew)); exact HO_5.out⟩, ⟨by (with_reducible repeat (first | apply Kd.R_alloc | apply Kd.R_drewN | apply Kd.R_drew)); exact HO_7.out⟩, ⟨by repeat (first | (with_reducible first | exact HB.out | apply below_alloc | apply pw_below_drewN | apply below_drew1))⟩⟩
            ·rw [if_neg c35] at H
             exact absurd H (by simp)
          ·rw [if_neg c31] at H
           exact absurd H (by simp)
         ·rw [if_neg c30] at H
          have c30b0 : decide (x8_3 < (l1.length : Int)) = false := decide_eq_false c30
          clear c30
          obtain rfl := Option.some.inj H
          go_wp2
          go_ret
          exact ⟨by rfl, by repeat (first | (with_reducible first | exact HB.out | apply below_alloc | apply pw_below_drewN | apply below_drew1))⟩

end Go.Proofs.Ytdebihfmceclkaa.PFnExactBack
