/- Written by a program of this session over the loaded program, and by hand: Go functions as plain Lean functions, and that a call comes to what they say. -/
import Derived.Test.YtjjjbifbibabgaaVFree0
import Derived.Test.YtjjjbifbibabgaaVFree1
import Derived.Test.YtjjjbifbibabgaaVFree3
import Derived.Test.YtjjjbifbibabgaaVFree4
import Derived.Test.YtjjjbifbibabgaaVFree7
import Derived.Test.YtjjjbifbibabgaaBase
import Derived.Test.YtjjjbifbibabgaaSq
namespace Go.Proofs.Ytjjjbifbibabgaa.PAll
open Go.RowKit Go.Proofs.YtjjjbifbibabgaaW.PrintWords Go.Proofs.YtjjjbifbibabgaaW.PrintLast Go.Proofs.YtjjjbifbibabgaaW.PrintMore Go.Proofs.YtjjjbifbibabgaaW.Sq
attribute [local go_sem] max2_int min2_int max_two min_two max_three min_three max_four min_four   -- for this text's walks alone
set_option linter.unusedVariables false
set_option linter.unusedSimpArgs false

@[reducible] def zA0x15 : Array Bool := #[false, false, false, false, false, false, false, false, false, false, false, false, false]
@[reducible] def zA1x15 : Array Bool := #[true, false, false, false, false, false, false, false, false, false, false, false, false]
@[reducible] def zA2x15 : Array Bool := #[true, true, false, false, false, false, false, false, false, false, false, false, false]
@[reducible] def zA3x15 : Array Bool := #[true, true, true, false, false, false, false, false, false, false, false, false, false]
@[reducible] def zA4x15 : Array Bool := #[true, true, true, true, false, false, false, false, false, false, false, false, false]
@[reducible] def zA5x15 : Array Bool := #[true, true, true, true, true, false, false, false, false, false, false, false, false]
@[reducible] def zA6x15 : Array Bool := #[true, true, true, true, true, false, true, false, false, false, false, false, false]
@[reducible] def zA7x15 : Array Bool := #[true, true, true, true, true, false, true, true, false, false, false, false, false]
@[reducible] def zA8x15 : Array Bool := #[true, true, true, true, true, false, true, true, true, false, false, false, false]
@[reducible] def zA9x15 : Array Bool := #[true, true, true, true, true, false, true, true, true, true, false, false, false]
@[reducible] def zA10x15 : Array Bool := #[true, true, true, true, true, true, true, true, true, true, false, false, false]
@[reducible] def zA11x15 : Array Bool := #[true, true, true, true, true, true, true, true, true, true, true, false, false]
@[reducible] def zA12x15 : Array Bool := #[true, true, true, true, true, true, true, true, true, true, true, true, false]
@[reducible] def zA13x15 : Array Bool := #[true, true, true, true, true, true, true, true, true, true, true, true, true]
@[reducible] def zA14x15 : Array Bool := #[false, false, false, false, false, false, false, false, false, false, false, false, false, false, false, false, false, false, false, false, false, false, false, false, false, false, false, false, false, false, false, false, false, false, false, false, false]
@[reducible] def zA15x15 : Array Bool := #[true, false, false, false, false, false, false, false, false, false, false, false, false, false, false, false, false, false, false, false, false, false, false, false, false, false, false, false, false, false, false, false, false, false, false, false, false]
@[reducible] def zA16x15 : Array Bool := #[true, true, false, false, false, false, false, false, false, false, false, false, false, false, false, false, false, false, false, false, false, false, false, false, false, false, false, false, false, false, false, false, false, false, false, false, false]
@[reducible] def zA17x15 : Array Bool := #[true, true, true, false, false, false, false, false, false, false, false, false, false, false, false, false, false, false, false, false, false, false, false, false, false, false, false, false, false, false, false, false, false, false, false, false, false]
@[reducible] def zA18x15 : Array Bool := #[true, true, true, true, false, false, false, false, false, false, false, false, false, false, false, false, false, false, false, false, false, false, false, false, false, false, false, false, false, false, false, false, false, false, false, false, false]
@[reducible] def zA19x15 : Array Bool := #[true, true, true, true, true, false, false, false, false, false, false, false, false, false, false, false, false, false, false, false, false, false, false, false, false, false, false, false, false, false, false, false, false, false, false, false, false]
@[reducible] def zA20x15 : Array Bool := #[true, true, true, true, true, true, false, false, false, false, false, false, false, false, false, false, false, false, false, false, false, false, false, false, false, false, false, false, false, false, false, false, false, false, false, false, false]
@[reducible] def zA21x15 : Array Bool := #[true, true, true, true, true, true, true, false, false, false, false, false, false, false, false, false, false, false, false, false, false, false, false, false, false, false, false, false, false, false, false, false, false, false, false, false, false]
@[reducible] def zA22x15 : Array Bool := #[true, true, true, true, true, true, true, true, false, false, false, false, false, false, false, false, false, false, false, false, false, false, false, false, false, false, false, false, false, false, false, false, false, false, false, false, false]
@[reducible] def zA23x15 : Array Bool := #[true, true, true, true, true, true, true, true, true, false, false, false, false, false, false, false, false, false, false, false, false, false, false, false, false, false, false, false, false, false, false, false, false, false, false, false, false]
@[reducible] def zA24x15 : Array Bool := #[true, true, true, true, true, true, true, true, true, true, false, false, false, false, false, false, false, false, false, false, false, false, false, false, false, false, false, false, false, false, false, false, false, false, false, false, false]
@[reducible] def zA25x15 : Array Bool := #[true, true, true, true, true, true, true, true, true, true, true, false, false, false, false, false, false, false, false, false, false, false, false, false, false, false, false, false, false, false, false, false, false, false, false, false, false]
@[reducible] def zA26x15 : Array Bool := #[true, true, true, true, true, true, true, true, true, true, true, true, false, false, false, false, false, false, false, false, false, false, false, false, false, false, false, false, false, false, false, false, false, false, false, false, false]
@[reducible] def zA27x15 : Array Bool := #[true, true, true, true, true, true, true, true, true, true, true, true, false, false, false, true, false, false, false, false, false, false, false, false, false, false, false, false, false, false, false, false, false, false, false, false, false]
@[reducible] def zA28x15 : Array Bool := #[true, true, true, true, true, true, true, true, true, true, true, true, false, false, false, true, true, false, false, false, false, false, false, false, false, false, false, false, false, false, false, false, false, false, false, false, false]
@[reducible] def zA29x15 : Array Bool := #[true, true, true, true, true, true, true, true, true, true, true, true, false, false, false, true, true, true, false, false, false, false, false, false, false, false, false, false, false, false, false, false, false, false, false, false, false]
@[reducible] def zA30x15 : Array Bool := #[true, true, true, true, true, true, true, true, true, true, true, true, false, false, false, true, true, true, true, false, false, false, false, false, false, false, false, false, false, false, false, false, false, false, false, false, false]
@[reducible] def zA31x15 : Array Bool := #[true, true, true, true, true, true, true, true, true, true, true, true, true, false, false, true, true, true, true, false, false, false, false, false, false, false, false, false, false, false, false, false, false, false, false, false, false]
@[reducible] def zA32x15 : Array Bool := #[true, true, true, true, true, true, true, true, true, true, true, true, true, true, false, true, true, true, true, false, false, false, false, false, false, false, false, false, false, false, false, false, false, false, false, false, false]
@[reducible] def zA33x15 : Array Bool := #[true, true, true, true, true, true, true, true, true, true, true, true, true, true, true, true, true, true, true, false, false, false, false, false, false, false, false, false, false, false, false, false, false, false, false, false, false]
@[reducible] def zA34x15 : Array Bool := #[true, true, true, true, true, true, true, true, true, true, true, true, true, true, true, true, true, true, true, true, false, false, false, false, false, false, false, false, false, false, false, false, false, false, false, false, false]
@[reducible] def zA35x15 : Array Bool := #[true, true, true, true, true, true, true, true, true, true, true, true, true, true, true, true, true, true, true, true, true, false, false, false, false, false, false, false, false, false, false, false, false, false, false, false, false]
@[reducible] def zA36x15 : Array Bool := #[true, true, true, true, true, true, true, true, true, true, true, true, true, true, true, true, true, true, true, true, true, true, false, false, false, false, false, false, false, false, false, false, false, false, false, false, false]
@[reducible] def zA37x15 : Array Bool := #[true, true, true, true, true, true, true, true, true, true, true, true, true, true, true, true, true, true, true, true, true, true, true, false, false, false, false, false, false, false, false, false, false, false, false, false, false]
@[reducible] def zA38x15 : Array Bool := #[true, true, true, true, true, true, true, true, true, true, true, true, true, true, true, true, true, true, true, true, true, true, true, true, false, false, false, false, false, false, false, false, false, false, false, false, false]
@[reducible] def zA39x15 : Array Bool := #[true, true, true, true, true, true, true, true, true, true, true, true, true, true, true, true, true, true, true, true, true, true, true, true, true, false, false, false, false, false, false, false, false, false, false, false, false]
@[reducible] def zA40x15 : Array Bool := #[true, true, true, true, true, true, true, true, true, true, true, true, true, true, true, true, true, true, true, true, true, true, true, true, true, true, false, false, false, false, false, false, false, false, false, false, false]
@[reducible] def zA41x15 : Array Bool := #[true, true, true, true, true, true, true, true, true, true, true, true, true, true, true, true, true, true, true, true, true, true, true, true, true, true, true, false, false, false, false, false, false, false, false, false, false]
@[reducible] def zA42x15 : Array Bool := #[true, true, true, true, true, true, true, true, true, true, true, true, true, true, true, true, true, true, true, true, true, true, true, true, true, true, true, true, false, false, false, false, false, false, false, false, false]
@[reducible] def zA43x15 : Array Bool := #[true, true, true, true, true, true, true, true, true, true, true, true, true, true, true, true, true, true, true, true, true, true, true, true, true, true, true, true, true, false, false, false, false, false, false, false, false]
@[reducible] def zA44x15 : Array Bool := #[true, true, true, true, true, true, true, true, true, true, true, true, true, true, true, true, true, true, true, true, true, true, true, true, true, true, true, true, true, true, false, false, false, false, false, false, false]
@[reducible] def zA45x15 : Array Bool := #[true, true, true, true, true, true, true, true, true, true, true, true, true, true, true, true, true, true, true, true, true, true, true, true, true, true, true, true, true, true, true, false, false, false, false, false, false]
@[reducible] def zA46x15 : Array Bool := #[true, true, true, true, true, true, true, true, true, true, true, true, true, true, true, true, true, true, true, true, true, true, true, true, true, true, true, true, true, true, true, true, false, false, false, false, false]
@[reducible] def zA47x15 : Array Bool := #[true, true, true, true, true, true, true, true, true, true, true, true, true, true, true, true, true, true, true, true, true, true, true, true, true, true, true, true, true, true, true, true, true, false, false, false, false]
@[reducible] def zA48x15 : Array Bool := #[true, true, true, true, true, true, true, true, true, true, true, true, true, true, true, true, true, true, true, true, true, true, true, true, true, true, true, true, true, true, true, true, true, true, false, false, false]
@[reducible] def zA49x15 : Array Bool := #[true, true, true, true, true, true, true, true, true, true, true, true, true, true, true, true, true, true, true, true, true, true, true, true, true, true, true, true, true, true, true, true, true, true, true, false, false]
@[reducible] def zA50x15 : Array Bool := #[true, true, true, true, true, true, true, true, true, true, true, true, true, true, true, true, true, true, true, true, true, true, true, true, true, true, true, true, true, true, true, true, true, true, true, true, false]
@[reducible] def zA51x15 : Array Bool := #[true, true, true, true, true, true, true, true, true, true, true, true, true, true, true, true, true, true, true, true, true, true, true, true, true, true, true, true, true, true, true, true, true, true, true, true, true]
@[reducible] def zA52x15 : Array Bool := #[true, true, true, true, true, true, true, true, true, true, true, true, true, false, false, false, false, false, false, false, false, false, false, false, false, false, false, false, false, false, false, false, false, false, false, false, false]
@[reducible] def zA53x15 : Array Bool := #[true, true, true, true, true, true, true, true, true, true, true, true, true, true, false, false, false, false, false, false, false, false, false, false, false, false, false, false, false, false, false, false, false, false, false, false, false]
@[reducible] def zA54x15 : Array Bool := #[true, true, true, true, true, true, true, true, true, true, true, true, true, true, true, false, false, false, false, false, false, false, false, false, false, false, false, false, false, false, false, false, false, false, false, false, false]
@[reducible] def zA55x15 : Array Bool := #[true, true, true, true, true, true, true, true, true, true, true, true, true, true, true, true, false, false, false, false, false, false, false, false, false, false, false, false, false, false, false, false, false, false, false, false, false]
@[reducible] def zA56x15 : Array Bool := #[true, true, true, true, true, true, true, true, true, true, true, true, true, true, true, true, true, false, false, false, false, false, false, false, false, false, false, false, false, false, false, false, false, false, false, false, false]
@[reducible] def zA57x15 : Array Bool := #[true, true, true, true, true, true, true, true, true, true, true, true, true, true, true, true, true, true, false, false, false, false, false, false, false, false, false, false, false, false, false, false, false, false, false, false, false]
@[reducible] def zA58x15 : Array Bool := #[false, false, false, false, false, false, false, false, false, false, false, false, false, false, false]
@[reducible] def zA59x15 : Array Bool := #[true, false, false, false, false, false, false, false, false, false, false, false, false, false, false]
@[reducible] def zA60x15 : Array Bool := #[true, true, false, false, false, false, false, false, false, false, false, false, false, false, false]
@[reducible] def zA61x15 : Array Bool := #[true, true, true, false, false, false, false, false, false, false, false, false, false, false, false]
@[reducible] def zA62x15 : Array Bool := #[true, true, true, true, false, false, false, false, false, false, false, false, false, false, false]
@[reducible] def zA63x15 : Array Bool := #[true, true, true, true, false, true, false, false, false, false, false, false, false, false, false]
@[reducible] def zA64x15 : Array Bool := #[true, true, true, true, false, true, true, false, false, false, false, false, false, false, false]
@[reducible] def zA65x15 : Array Bool := #[true, true, true, true, false, true, true, true, false, false, false, false, false, false, false]
@[reducible] def zA66x15 : Array Bool := #[true, true, true, true, false, true, true, true, true, false, false, false, false, false, false]
@[reducible] def zA67x15 : Array Bool := #[true, true, true, true, true, true, true, true, true, false, false, false, false, false, false]
@[reducible] def zA68x15 : Array Bool := #[true, true, true, true, true, true, true, true, true, true, false, false, false, false, false]
@[reducible] def zA69x15 : Array Bool := #[true, true, true, true, true, true, true, true, true, true, true, false, false, false, false]
@[reducible] def zA70x15 : Array Bool := #[true, true, true, true, true, true, true, true, true, true, true, true, false, false, false]
@[reducible] def zA71x15 : Array Bool := #[true, true, true, true, true, true, true, true, true, true, true, true, true, false, false]
@[reducible] def zA72x15 : Array Bool := #[true, true, true, true, true, true, true, true, true, true, true, true, true, true, false]
@[reducible] def zA73x15 : Array Bool := #[true, true, true, true, true, true, true, true, true, true, true, true, true, true, true]
/-! ### spec_Sentence: function 57 -/
mutual
def spec_Sentence.j0 : Nat → List (S39) → Bool → Option (Bool)
 | 0, _, _ => none
 | k + 1, x0, x32 => if x32 = true then (some false) else ((spec_l02Reach.f k x0).bind fun t526 => ((spec_l02Holder.f k x0).bind fun t529 => (spec_Sentence.l0 k x0 t526 t529 (([] : List Int)) 0)))
def spec_Sentence.l0 : Nat → List (S39) → List Bool → List Bool → List Int → Int → Option (Bool)
 | 0, _, _, _, _, _ => none
 | k + 1, x0, x3, x4, x5, x6 => if x6 < 8 then (if x5.length < 17592186044416 then (spec_Sentence.l0 k x0 x3 x4 (x5 ++ [0]) (wrap64 (x6 + 1))) else (none)) else (spec_Sentence.l1 k x0 x3 x4 x5 0)
def spec_Sentence.l1 : Nat → List (S39) → List Bool → List Bool → List Int → Int → Option (Bool)
 | 0, _, _, _, _, _ => none
 | k + 1, x0, x3, x4, x5, x7 => if x7 < (x0.length : Int) then (if 0 ≤ x7 then (if x7 < (x3.length : Int) then (if rdOf false x3 x7 = true then ((spec_l02Quant.f ((rd_T39 x0 x7).f0)).bind fun t540 => (spec_Sentence.j3 k x0 x3 x4 x5 x7 t540)) else (spec_Sentence.j3 k x0 x3 x4 x5 x7 false)) else (none)) else (none)) else (spec_Sentence.l2 k x0 x3 x4 x5 (([] : List Int)) 0)
def spec_Sentence.j3 : Nat → List (S39) → List Bool → List Bool → List Int → Int → Bool → Option (Bool)
 | 0, _, _, _, _, _, _ => none
 | k + 1, x0, x3, x4, x5, x7, x62 => if x62 = true then (if 0 ≤ x7 then (if x7 < (x0.length : Int) then (if 0 ≤ ((rd_T39 x0 x7).f2) then (if ((rd_T39 x0 x7).f2) < (x5.length : Int) then (if (rd x5 ((rd_T39 x0 x7).f2)) = 0 then (spec_Sentence.l1 k x0 x3 x4 (x5.set (((rd_T39 x0 x7).f2) : Int).toNat ((rd_T39 x0 x7).f4)) (wrap64 (x7 + 1))) else (some false)) else (none)) else (none)) else (none)) else (none)) else (spec_Sentence.l1 k x0 x3 x4 x5 (wrap64 (x7 + 1)))
def spec_Sentence.l2 : Nat → List (S39) → List Bool → List Bool → List Int → List Int → Int → Option (Bool)
 | 0, _, _, _, _, _, _ => none
 | k + 1, x0, x3, x4, x5, x8, x9 => if x9 < (x0.length : Int) then (if x8.length < 17592186044416 then (spec_Sentence.l2 k x0 x3 x4 x5 (x8 ++ [0]) (wrap64 (x9 + 1))) else (none)) else (spec_Sentence.l3 k x0 x3 x4 x5 x8 0)
def spec_Sentence.l3 : Nat → List (S39) → List Bool → List Bool → List Int → List Int → Int → Option (Bool)
 | 0, _, _, _, _, _, _ => none
 | k + 1, x0, x3, x4, x5, x8, x10 => if x10 < (x0.length : Int) then (if 0 ≤ x10 then (if x10 < (x3.length : Int) then (if rdOf false x3 x10 = true then (if ((rd_T39 x0 x10).f0) = 1 then (if 0 ≤ ((rd_T39 x0 x10).f2) then (if ((rd_T39 x0 x10).f2) < (x5.length : Int) then (if (rd x5 ((rd_T39 x0 x10).f2)) = ((rd_T39 x0 x10).f1) then (if x10 < (x4.length : Int) then (if rdOf false x4 x10 = true then ((spec_l02Outer.f ((rd_T39 x0 x10).f0)).bind fun t559 => (spec_Sentence.j6 k x0 x3 x4 x5 x8 x10 (!t559))) else (spec_Sentence.j6 k x0 x3 x4 x5 x8 x10 false)) else (none)) else (spec_Sentence.j6 k x0 x3 x4 x5 x8 x10 true)) else (none)) else (none)) else (if x10 < (x4.length : Int) then (if rdOf false x4 x10 = true then ((spec_l02Outer.f ((rd_T39 x0 x10).f0)).bind fun t562 => (spec_Sentence.j6 k x0 x3 x4 x5 x8 x10 (!t562))) else (spec_Sentence.j6 k x0 x3 x4 x5 x8 x10 false)) else (none))) else (spec_Sentence.l3 k x0 x3 x4 x5 x8 (wrap64 (x10 + 1)))) else (none)) else (none)) else (spec_Sentence.l5 k x0 x3 x4 x8 0)
def spec_Sentence.j6 : Nat → List (S39) → List Bool → List Bool → List Int → List Int → Int → Bool → Option (Bool)
 | 0, _, _, _, _, _, _, _ => none
 | k + 1, x0, x3, x4, x5, x8, x10, x141 => if x141 = true then (some false) else (if 0 ≤ x10 then (if x10 < (x0.length : Int) then ((spec_Parts.f k ((rd_T39 x0 x10).f0) ((rd_T39 x0 x10).f1) ((rd_T39 x0 x10).f2) ((rd_T39 x0 x10).f3) ((rd_T39 x0 x10).f4) ((rd_T39 x0 x10).f5)).bind fun t564 => (spec_Sentence.l4 k x0 x3 x4 x5 x8 x10 t564 0)) else (none)) else (none))
def spec_Sentence.l4 : Nat → List (S39) → List Bool → List Bool → List Int → List Int → Int → List Int → Int → Option (Bool)
 | 0, _, _, _, _, _, _, _, _ => none
 | k + 1, x0, x3, x4, x5, x8, x10, x11, x12 => if x12 < (x11.length : Int) then (if 0 ≤ x12 then (if 0 ≤ (rd x11 x12) then (if (rd x11 x12) < (x8.length : Int) then (spec_Sentence.l4 k x0 x3 x4 x5 (x8.set ((rd x11 x12) : Int).toNat (wrap64 ((rd x8 (rd x11 x12)) + 1))) x10 x11 (wrap64 (x12 + 1))) else (none)) else (none)) else (none)) else (spec_Sentence.l3 k x0 x3 x4 x5 x8 (wrap64 (x10 + 1)))
def spec_Sentence.l5 : Nat → List (S39) → List Bool → List Bool → List Int → Int → Option (Bool)
 | 0, _, _, _, _, _ => none
 | k + 1, x0, x3, x4, x8, x13 => if x13 < (x0.length : Int) then (if 0 ≤ x13 then (if x13 < (x3.length : Int) then (if rdOf false x3 x13 = true then (if x13 < (x4.length : Int) then (if rdOf false x4 x13 = true then (if x13 < (x8.length : Int) then (if (rd x8 x13) > 1 then (some false) else (spec_Sentence.l5 k x0 x3 x4 x8 (wrap64 (x13 + 1)))) else (none)) else (spec_Sentence.l5 k x0 x3 x4 x8 (wrap64 (x13 + 1)))) else (none)) else (spec_Sentence.l5 k x0 x3 x4 x8 (wrap64 (x13 + 1)))) else (none)) else (none)) else (some true)
end
def spec_Sentence.f (k : Nat) (l0 : List (S39)) : Option (Bool) := (spec_TermOk.f k l0).bind fun t521 => (if t521 = true then (if 0 ≤ (wrap64 ((l0.length : Int) - 1)) then (if (wrap64 ((l0.length : Int) - 1)) < (l0.length : Int) then (if ((rd_T39 l0 (wrap64 ((l0.length : Int) - 1))).f1) = 1 then ((spec_Free.f k l0).bind fun t523 => (spec_Sentence.j0 k l0 (decide ((t523.length : Int) > 0)))) else (spec_Sentence.j0 k l0 true)) else (none)) else (none)) else (spec_Sentence.j0 k l0 true))
def spec_Sentence.T15 : Bool × List (List Nat × List Nat) := (true, [([], []), ([], []), ([], []), ([1, 2], [1, 2]), ([3], [3]), ([4], [4]), ([], []), ([], []), ([6, 7], [6, 7]), ([8], [8]), ([9], [9]), ([0, 5, 0, 1, 2, 3, 4, 5, 6, 7, 8, 9, 10], [0, 5]), ([11, 10, 0, 1, 2, 3, 4, 5, 6, 7, 8, 9, 10], [10, 11])])
def spec_Sentence.B15 : List Nat := [0, 0, 0, 6, 14, 30, 0, 0, 192, 448, 960, 2047, 4095]
theorem spec_Sentence.tab15 : rtab .any (opsOf Try.f57 15) = spec_Sentence.T15 := by kernel_rfl
theorem spec_Sentence.bits15 : waitsOk spec_Sentence.T15.2 spec_Sentence.B15 = true := by kernel_rfl
def spec_Sentence.T25 : Bool × List (List Nat × List Nat) := (true, [([], []), ([], []), ([0, 1], [0, 1]), ([2], [2]), ([3], [3]), ([4], [4]), ([5], [5]), ([6], [6]), ([6], [6]), ([6], [6]), ([8, 9, 6], [6, 8, 9]), ([10, 6], [6, 10]), ([11, 6], [6, 11]), ([7, 12, 6], [6, 7, 12]), ([13, 6], [6, 13]), ([6], [6]), ([6], [6]), ([15, 16, 6], [6, 15, 16]), ([17, 6], [6, 17]), ([18, 6], [6, 18]), ([14, 19, 6], [6, 14, 19]), ([6, 20], [6, 20]), ([21, 6], [21]), ([22], [22]), ([22], [22]), ([23, 24, 22], [22, 23, 24]), ([25, 22], [22, 25]), ([26, 22, 22], [22, 26]), ([27], [27]), ([27], [27]), ([28, 29, 27], [27, 28, 29]), ([30, 27], [27, 30]), ([31, 27], [27, 31]), ([32, 27, 27], [27, 32]), ([33, 27], [27, 33]), ([27, 34, 22], [22, 27, 34]), ([22, 35], [22, 35])])
def spec_Sentence.B25 : List Nat := [0, 0, 3, 7, 15, 31, 63, 127, 127, 127, 895, 1919, 3967, 8191, 16383, 127, 127, 98431, 229503, 491647, 1048575, 2097151, 4194303, 8388607, 8388607, 33554431, 67108863, 134217727, 268435455, 268435455, 1073741823, 2147483647, 4294967295, 8589934591, 17179869183, 34359738367, 68719476735]
theorem spec_Sentence.tab25 : rtab .any (opsOf Try.f57 25) = spec_Sentence.T25 := by kernel_rfl
theorem spec_Sentence.bits25 : waitsOk spec_Sentence.T25.2 spec_Sentence.B25 = true := by kernel_rfl
def spec_Sentence.T31 : Bool × List (List Nat × List Nat) := (true, [([], []), ([], []), ([], []), ([1, 2], [1, 2]), ([3], [3]), ([], []), ([], []), ([], []), ([6, 7], [6, 7]), ([8], [8]), ([5, 9], [5, 9]), ([10], [10]), ([11], [11]), ([0, 4, 0, 1, 2, 3, 4, 5, 6, 7, 8, 9, 10, 11, 12], [0, 4]), ([13, 12, 0, 1, 2, 3, 4, 5, 6, 7, 8, 9, 10, 11, 12], [12, 13])])
def spec_Sentence.B31 : List Nat := [0, 0, 0, 6, 14, 0, 0, 0, 192, 448, 992, 2016, 4064, 8191, 16383]
theorem spec_Sentence.tab31 : rtab .any (opsOf Try.f57 31) = spec_Sentence.T31 := by kernel_rfl
theorem spec_Sentence.bits31 : waitsOk spec_Sentence.T31.2 spec_Sentence.B31 = true := by kernel_rfl
set_option maxHeartbeats 8000000 in
set_option maxRecDepth 100000 in
theorem spec_Sentence.calls (k : Nat) (A0 : Option Addr) (c0 : Nat) (l0 : List (S39)) (r : Bool) (w : World) (hr0 : Kd.C k39 w A0 l0.length l0) (hc0 : l0.length ≤ c0) (h : spec_Sentence.f k l0 = some r) :
  Calls Try.prog 57 #[.slice A0 l0.length c0] w fun e w' => e = .returned (.bool r) ∧ Below w.heap.size w w' := by
 have hu39 := Try.underlying39
 have HR0 := am hr0
 have HC0 := am hc0
 clear hr0 hc0
 have HB := am (Below.refl w.heap.size w)
 have H : ((spec_TermOk.f k l0).bind fun t521 => (if t521 = true then (if 0 ≤ (wrap64 ((l0.length : Int) - 1)) then (if (wrap64 ((l0.length : Int) - 1)) < (l0.length : Int) then (if ((rd_T39 l0 (wrap64 ((l0.length : Int) - 1))).f1) = 1 then ((spec_Free.f k l0).bind fun t523 => (spec_Sentence.j0 k l0 (decide ((t523.length : Int) > 0)))) else (spec_Sentence.j0 k l0 true)) else (none)) else (none)) else (spec_Sentence.j0 k l0 true))) = some r := h
 clear h
 have HC2 := am H
 clear H
 go_enter Try.func57, Try.ntmps57
 go_upto_region 1 with (fail)
 go_cut [32] (fun v32 wc => ∃ (kq : Nat) (x32_1 : Bool), v32 = .bool x32_1 ∧ Aside0 (spec_Sentence.j0 kq l0 x32_1 = some r) ∧ Aside0 (kq ≤ k) ∧ Aside0 (Below w.heap.size w wc))
 case first => as_aux_lemma =>
  have H := HC2.out
  clear HC2
  replace H := oB H
  obtain ⟨t521, A30, H⟩ := H
  have A3 := am A30
  clear A30
  by_cases c4 : t521 = true
  ·subst c4
   rw [if_pos rfl] at H
   obtain ⟨ji5, hji5⟩ : ∃ j_ : Int, (wrap64 ((l0.length : Int) - 1)) = j_ := ⟨_, rfl⟩
   replace H : (if 0 ≤ (ji5) then (if (ji5) < (l0.length : Int) then (if ((rd_T39 l0 (ji5)).f1) = 1 then ((spec_Free.f k l0).bind fun t523 => (spec_Sentence.j0 k l0 (decide ((t523.length : Int) > 0)))) else (spec_Sentence.j0 k l0 true)) else (none)) else (none)) = some r := by (rw [hji5] at H; exact H)
   (try rw [hji5] at A3)
   have hji5w : (IntKind.i64.wrap ((l0.length : Int) - 1)) = ji5 := (i64_w _).trans hji5
   by_cases c6 : 0 ≤ (ji5)
   ·rw [if_pos c6] at H
    have c6b0 : decide (0 ≤ (ji5)) = true := decide_eq_true c6
    clear c6
    (skip)
    by_cases c7 : (ji5) < (l0.length : Int)
    ·rw [if_pos c7] at H
     have c7b0 : decide ((ji5) < (l0.length : Int)) = true := decide_eq_true c7
     clear c7
     by_cases c8 : ((rd_T39 l0 (ji5)).f1) = 1
     ·rw [if_pos c8] at H
      have c8b0 : (((rd_T39 l0 (ji5)).f1) == 1) = true := beq_iff_eq.mpr c8
      have c8b1 : (((rd_T39 l0 (ji5)).f1) != 1) = false := bne_eq_false_iff_eq.mpr c8
      clear c8
      replace H := oB H
      obtain ⟨t523, A90, H⟩ := H
      have A9 := am A90
      clear A90
      have H' := am H
      clear H
      go_wp2_with (first | ((with_reducible refine gate_callee (f := 16) rfl ?_); refine goesL_ (some 15) rfl rfl Try.func16 (by kernel_rfl) rfl #[.slice A0 l0.length c0] rfl tm ?_; (with_reducible refine (spec_TermOk.calls k _ _ l0 true _ ?side1 ?side2 A3.out).mono ?_); (case side1 => exact sC (Kd.C_below HR0.out HB.out)); (case side2 => exact HC0.out); rintro e w10 ⟨rfl, hb⟩; refine ⟨_, rfl, ?_⟩; have n0_ := am (below_step (by exact sW HB.out) hb); clear HB; have HB := n0_; clear n0_; (try clear hb); (try clear hb2); (try clear hk); (try clear hi); have p522 : 0 ≤ ((ji5) : Int) := oD (by assumption); have q522 : (ji5) < (l0.length : Int) := oD (by assumption); obtain ⟨ad522, e522, hx522_0, hx522_1, hx522_2, hx522_3, hx522_4, hx522_5⟩ := at_T39 HR0.out (ji5) p522 q522; cases e522; replace hx522_0 := pw_cell_below HB.out hx522_0; replace hx522_1 := pw_cell_below HB.out hx522_1; replace hx522_2 := pw_cell_below HB.out hx522_2; replace hx522_3 := pw_cell_below HB.out hx522_3; replace hx522_4 := pw_cell_below HB.out hx522_4; replace hx522_5 := pw_cell_below HB.out hx522_5; replace p522 := eq_true p522; replace q522 := eq_true q522) | (go_at_call 18; (with_reducible refine (spec_Free.calls k _ _ l0 t523 _ ?side1 ?side2 A9.out).mono ?_); (case side1 => exact sC (Kd.C_below HR0.out HB.out)); (case side2 => exact HC0.out); rintro e w11 ⟨v524, rfl, ho0, hb⟩; have n0_ := am (Kd.R_lower ho0 (below_size (by exact sW HB.out))); have n1_ := am (below_step (by exact sW HB.out) hb); clear HB; have HO525 := n0_; have HB := n1_; clear n0_ n1_; (try clear hb); (try clear hb2); (try clear hk); (try clear hi); (try clear ho0); obtain ⟨Ao12, co12, eo12⟩ := Kd.R_slice HO525.out; subst eo12))
      go_meet
      case rel => exact ⟨_, (decide ((t523.length : Int) > 0)), (by (simp; done)), H', ⟨by omega⟩, ⟨by exact sW HB.out⟩⟩
     ·rw [if_neg c8] at H
      have c8b0 : (((rd_T39 l0 (ji5)).f1) == 1) = false := beq_eq_false_iff_ne.mpr c8
      have c8b1 : (((rd_T39 l0 (ji5)).f1) != 1) = true := bne_iff_ne.mpr c8
      have H' := am H
      clear H
      go_wp2_with (first | ((with_reducible refine gate_callee (f := 16) rfl ?_); refine goesL_ (some 15) rfl rfl Try.func16 (by kernel_rfl) rfl #[.slice A0 l0.length c0] rfl tm ?_; (with_reducible refine (spec_TermOk.calls k _ _ l0 true _ ?side1 ?side2 A3.out).mono ?_); (case side1 => exact sC (Kd.C_below HR0.out HB.out)); (case side2 => exact HC0.out); rintro e w13 ⟨rfl, hb⟩; refine ⟨_, rfl, ?_⟩; have n0_ := am (below_step (by exact sW HB.out) hb); clear HB; have HB := n0_; clear n0_; (try clear hb); (try clear hb2); (try clear hk); (try clear hi); have p522 : 0 ≤ ((ji5) : Int) := oD (by assumption); have q522 : (ji5) < (l0.length : Int) := oD (by assumption); obtain ⟨ad522, e522, hx522_0, hx522_1, hx522_2, hx522_3, hx522_4, hx522_5⟩ := at_T39 HR0.out (ji5) p522 q522; cases e522; replace hx522_0 := pw_cell_below HB.out hx522_0; replace hx522_1 := pw_cell_below HB.out hx522_1; replace hx522_2 := pw_cell_below HB.out hx522_2; replace hx522_3 := pw_cell_below HB.out hx522_3; replace hx522_4 := pw_cell_below HB.out hx522_4; replace hx522_5 := pw_cell_below HB.out hx522_5; replace p522 := eq_true p522; replace q522 := eq_true q522))
      go_meet
      case rel => exact ⟨_, (true), (by rfl), H', ⟨by omega⟩, ⟨by exact sW HB.out⟩⟩
    ·rw [if_neg c7] at H
     exact absurd H (by simp)
   ·rw [if_neg c6] at H
    exact absurd H (by simp)
  ·replace c4 := Bool.eq_false_iff.mpr c4
   subst c4
   rw [if_neg (show ¬ (false = true) by decide)] at H
   have H' := am H
   clear H
   go_wp2_with (first | ((with_reducible refine gate_callee (f := 16) rfl ?_); refine goesL_ (some 15) rfl rfl Try.func16 (by kernel_rfl) rfl #[.slice A0 l0.length c0] rfl tm ?_; (with_reducible refine (spec_TermOk.calls k _ _ l0 false _ ?side1 ?side2 A3.out).mono ?_); (case side1 => exact sC (Kd.C_below HR0.out HB.out)); (case side2 => exact HC0.out); rintro e w14 ⟨rfl, hb⟩; refine ⟨_, rfl, ?_⟩; have n0_ := am (below_step (by exact sW HB.out) hb); clear HB; have HB := n0_; clear n0_; (try clear hb); (try clear hb2); (try clear hk); (try clear hi)))
   go_meet
   case rel => exact ⟨_, (true), (by rfl), H', ⟨by omega⟩, ⟨by exact sW HB.out⟩⟩
 case rest => as_aux_lemma =>
  clear HC2
  obtain ⟨kq, x32_1, rfl, HA, HJ1, HB⟩ := hcut
  cases kq with
  | zero => exact absurd HA.out (by simp [spec_Sentence.j0])
  | succ kj1 =>
   have H := HA.out
   clear HA
   simp only [spec_Sentence.j0] at H
   by_cases c15 : x32_1 = true
   ·subst c15
    rw [if_pos rfl] at H
    obtain rfl := oI H
    go_wp2
    go_ret
    exact ⟨by rfl, by exact sW HB.out⟩
   ·replace c15 := Bool.eq_false_iff.mpr c15
    subst c15
    rw [if_neg (show ¬ (false = true) by decide)] at H
    replace H := oB H
    obtain ⟨t526, A160, H⟩ := H
    have A16 := am A160
    clear A160
    replace H := oB H
    obtain ⟨t529, A170, H⟩ := H
    have A17 := am A170
    clear A170
    obtain ⟨y532, hy532⟩ : ∃ y_ : List Int, y_ = (([] : List Int)) := ⟨_, rfl⟩
    replace H : (spec_Sentence.l0 kj1 l0 t526 t529 y532 0) = some r := by (rw [hy532]; with_reducible exact H)
    have Ny532 := am hy532
    clear hy532
    have H' := am H
    clear H
    go_wp2_with (first | ((with_reducible refine gate_callee (f := 23) rfl ?_); refine goesL_ (some 34) rfl rfl Try.func23 (by kernel_rfl) rfl #[.slice A0 l0.length c0] rfl tm ?_; (with_reducible refine (spec_l02Reach.calls kj1 _ _ l0 t526 _ ?side1 ?side2 A16.out).mono ?_); (case side1 => exact sC (Kd.C_below HR0.out HB.out)); (case side2 => exact HC0.out); rintro e w18 ⟨v527, rfl, ho0, hb⟩; refine ⟨_, rfl, ?_⟩; have n0_ := am (Kd.R_lower ho0 (below_size (by exact sW HB.out))); have n1_ := am (below_step (by exact sW HB.out) hb); clear HB; have HO528 := n0_; have HB := n1_; clear n0_ n1_; (try clear hb); (try clear hb2); (try clear hk); (try clear hi); (try clear ho0)) | ((with_reducible refine gate_callee (f := 60) rfl ?_); refine goesL_ (some 36) rfl rfl Try.func60 (by kernel_rfl) rfl #[.slice A0 l0.length c0] rfl tm ?_; (with_reducible refine (spec_l02Holder.calls kj1 _ _ l0 t529 _ ?side1 ?side2 A17.out).mono ?_); (case side1 => exact sC (Kd.C_below HR0.out HB.out)); (case side2 => exact HC0.out); rintro e w19 ⟨v530, rfl, ho0, hb⟩; refine ⟨_, rfl, ?_⟩; have n0_ := am (Kd.R_elder' (by exact sR <| HO528.out) (Kd.R_base ho0) hb); have n1_ := am (Kd.R_lower (Kd.R_new' ho0 (Kd.R_lt (by exact sR <| HO528.out))) (below_size (by exact sW HB.out))); have n2_ := am (below_step (by exact sW HB.out) hb); clear HO528; clear HB; have HO528 := n0_; have HO531 := n1_; have HB := n2_; clear n0_ n1_ n2_; (try clear hb); (try clear hb2); (try clear hk); (try clear hi); (try clear ho0)) | ((with_reducible refine gate_dst (N := 37) rfl ?_); (try (refine gate_guard (by rfl) ?_; dsimp only)); refine Kd.R_lit (Kd.int .i64) _ 3 ?hg (N := 37) ?hd (xs := ([] : List Int)) (inner := []) (ok := fun _ => True) (okp := fun _ => True) ?hr ?hp (fun _ hk => hk) trivial (Below.refl _ _) (Nat.le_refl _) (by simp) ?_; (case hd => rfl); (case hg => rfl); (case hr => (go_simp; done)); (case hp => exact (Reps.none _ _)); intro v533 w20 ho21 hb hg_ hnew_; clear hg_ hnew_; (rw [← Ny532.out] at ho21); have n0_ := am (Kd.R_below (by exact sR <| HO528.out) hb); have n1_ := am (Kd.R_below (by exact sR <| HO531.out) hb); have n2_ := am (Kd.R_lower ho21 (below_size (by exact sW HB.out))); have n3_ := am (below_step (by exact sW HB.out) hb); clear HO528; clear HO531; clear HB; have HO528 := n0_; have HO531 := n1_; have HO534 := n2_; have HB := n3_; clear n0_ n1_ n2_ n3_; clear hb ho21))
    go_loopg [5, 6] kj1 (fun kq v5 v6 w' => ∃ (x5_2 : List Int) (x6_2 : Int), v6 = .int .i64 x6_2 ∧ Aside0 (spec_Sentence.l0 kq l0 t526 t529 x5_2 x6_2 = some r) ∧ Aside0 (kq ≤ kj1) ∧ Aside0 (Kd.R Kd.bool 4 w' w.heap.size (fun k_ => some k_ ≠ (v530 : Value).ownBlock) v527 t526) ∧ Aside0 (Kd.R Kd.bool 4 w' w.heap.size (fun k_ => some k_ ≠ (v527 : Value).ownBlock) v530 t529) ∧ Aside0 (Kd.R (Kd.int .i64) 3 w' w.heap.size (fun _ => True) v5 x5_2) ∧ Aside0 (Below w.heap.size w w'))
    case atStart => exact ⟨(y532), (0), (by rfl), H', ⟨Nat.le_refl _⟩, ⟨by exact sR <| Kd.R_mono HO528.out (fun _ hk => hk.2)⟩, ⟨by exact sR <| Kd.R_mono HO531.out (fun _ hk => hk.2)⟩, ⟨by exact sR <| HO534.out⟩, ⟨by exact sW HB.out⟩⟩
    case round => as_aux_lemma =>
     clear H'
     obtain ⟨x5_2, x6_2, rfl, HA, HK2, HO_3, HO_4, HO_5, HB⟩ := hrel
     cases gk with
     | zero => exact absurd HA.out (by simp [spec_Sentence.l0])
     | succ k2 =>
      have H := HA.out
      clear HA
      simp only [spec_Sentence.l0] at H
      by_cases c22 : x6_2 < 8
      ·rw [if_pos c22] at H
       have c22b0 : decide (x6_2 < 8) = true := decide_eq_true c22
       clear c22
       by_cases c23 : x5_2.length < 17592186044416
       ·rw [if_pos c23] at H
        have LMc23 := am c23
        clear c23
        obtain ⟨y535, hy535⟩ : ∃ y_ : List Int, y_ = (x5_2 ++ [0]) := ⟨_, rfl⟩
        replace H : (spec_Sentence.l0 k2 l0 t526 t529 y535 (wrap64 (x6_2 + 1))) = some r := by (rw [hy535]; with_reducible exact H)
        have Ny535 := am hy535
        clear hy535
        have H' := am H
        clear H
        go_wp2_with (first | ((with_reducible refine gate_builtin (b := .append) (xs := #[.tmp 42, .tmp 43]) rfl ?_); (try (refine gate_guard (by rfl) ?_; dsimp only)); at_builtin; refine Kd.R_append (Kd.int .i64) (w0 := w) w.heap.size rfl (.tmp 42) (.tmp 43) 24 3 (.int .i64 0) 8 rfl Try.underlying24 info3 rfl (by decide) (by omega) u5 x5_2 0 [.int .i64 0] (fun _ => True) (fun _ => False) rfl rfl ?aP (fun _ hk => hk.elim) ?aF ?aO ?aB ?aS ?aL ?_; (case aP => exact rfl); (case aB => exact (by exact sW HB.out)); (case aF => exact (fun _ _ => trivial)); (case aO => exact (by exact sR <| HO_5.out)); (case aS => exact (below_size (by exact sW HB.out))); (case aL => have := LMc23.out; omega); intro v536 w24 ho hb hg hat; rw [← Ny535.out] at ho; have n0_ := am (Kd.R_over' (by exact sR <| HO_3.out) (Kd.R_typed (by exact sR <| HO_5.out)) (by decide) hg); have n1_ := am (Kd.R_over' (by exact sR <| HO_4.out) (Kd.R_typed (by exact sR <| HO_5.out)) (by decide) hg); have n2_ := am (hb); have n3_ := am (ho); clear HO_3; clear HO_4; clear HB; clear HO_5; have HO_3 := n0_; have HO_4 := n1_; have HB := n2_; have HO537 := n3_; clear n0_ n1_ n2_ n3_; clear ho hb hg hat))
        go_roundg k2
        case measure => have := HJ1.out; have := HK2.out; omega
        case rel => exact ⟨(y535), (wrap64 (x6_2 + 1)), (by rfl), H', ⟨by have := HJ1.out; have := HK2.out; omega⟩, ⟨by exact sR <| HO_3.out⟩, ⟨by exact sR <| HO_4.out⟩, ⟨by exact sR <| HO537.out⟩, ⟨by exact sW HB.out⟩⟩
       ·rw [if_neg c23] at H
        exact absurd H (by simp)
      ·rw [if_neg c22] at H
       have c22b0 : decide (x6_2 < 8) = false := decide_eq_false c22
       clear c22
       have H' := am H
       clear H
       go_wp2
       go_loopg [7] k2 (fun kq v7 w' => ∃ (x5_3 : List Int) (x7_3 : Int), v7 = .int .i64 x7_3 ∧ Aside0 (spec_Sentence.l1 kq l0 t526 t529 x5_3 x7_3 = some r) ∧ Aside0 (kq ≤ k2) ∧ Aside0 (Kd.R Kd.bool 4 w' w.heap.size (fun k_ => some k_ ≠ (v530 : Value).ownBlock) v527 t526) ∧ Aside0 (Kd.R Kd.bool 4 w' w.heap.size (fun k_ => some k_ ≠ (v527 : Value).ownBlock) v530 t529) ∧ Aside0 (Kd.R (Kd.int .i64) 3 w' w.heap.size (fun _ => True) u5 x5_3) ∧ Aside0 (Below w.heap.size w w'))
       case atStart => exact ⟨(x5_2), (0), (by rfl), H', ⟨Nat.le_refl _⟩, ⟨by exact sR <| HO_3.out⟩, ⟨by exact sR <| HO_4.out⟩, ⟨by exact sR <| HO_5.out⟩, ⟨by exact sW HB.out⟩⟩
       case round => as_aux_lemma =>
        clear H'
        clear c22b0
        obtain ⟨x5_3, x7_3, rfl, HA, HK3, HO_3, HO_4, HO_5, HB⟩ := hrel
        cases gk with
        | zero => exact absurd HA.out (by simp [spec_Sentence.l1])
        | succ k3 =>
         have H := HA.out
         clear HA
         simp only [spec_Sentence.l1] at H
         by_cases c25 : x7_3 < (l0.length : Int)
         ·rw [if_pos c25] at H
          have c25b0 : decide (x7_3 < (l0.length : Int)) = true := decide_eq_true c25
          clear c25
          have HC26 := am H
          clear H
          go_upto_region 12 with (fail)
          go_cut [62] (fun v62 wc => ∃ (kq : Nat) (x62_25 : Bool), v62 = .bool x62_25 ∧ Aside0 (spec_Sentence.j3 kq l0 t526 t529 x5_3 x7_3 x62_25 = some r) ∧ Aside0 (kq ≤ k3) ∧ Aside0 (Kd.R Kd.bool 4 wc w.heap.size (fun k_ => some k_ ≠ (v530 : Value).ownBlock) v527 t526) ∧ Aside0 (Kd.R Kd.bool 4 wc w.heap.size (fun k_ => some k_ ≠ (v527 : Value).ownBlock) v530 t529) ∧ Aside0 (Kd.R (Kd.int .i64) 3 wc w.heap.size (fun _ => True) u5 x5_3) ∧ Aside0 (Below w.heap.size w wc))
          case first => as_aux_lemma =>
           have H := HC26.out
           clear HC26
           by_cases c27 : 0 ≤ x7_3
           ·rw [if_pos c27] at H
            have c27b0 : decide (0 ≤ x7_3) = true := decide_eq_true c27
            clear c27
            (skip)
            by_cases c28 : x7_3 < (t526.length : Int)
            ·rw [if_pos c28] at H
             have c28b0 : decide (x7_3 < (t526.length : Int)) = true := decide_eq_true c28
             clear c28
             obtain ⟨bq29, hbq29⟩ : ∃ b_ : Bool, b_ = (rdOf false t526 x7_3) := ⟨_, rfl⟩
             replace H : (if bq29 = true then ((spec_l02Quant.f ((rd_T39 l0 x7_3).f0)).bind fun t540 => (spec_Sentence.j3 k3 l0 t526 t529 x5_3 x7_3 t540)) else (spec_Sentence.j3 k3 l0 t526 t529 x5_3 x7_3 false)) = some r := by rw [← hbq29] at H; exact H
             have Nbq29 := am hbq29
             clear hbq29
             by_cases c30 : bq29 = true
             ·subst c30
              rw [if_pos rfl] at H
              replace H := oB H
              obtain ⟨t540, A310, H⟩ := H
              have A31 := am A310
              clear A310
              have H' := am H
              clear H
              obtain ⟨Ao32, co32, eo32⟩ := Kd.R_slice HO_3.out
              subst eo32
              have p538 : 0 ≤ (x7_3 : Int) := oD (by assumption)
              have q538 : x7_3 < (t526.length : Int) := oD (by assumption)
              obtain ⟨ad538, e538, hx538_0⟩ := Kd.at_bool (Kd.R_reads' HO_3.out).2.2 x7_3 p538 q538
              (try rw [← Nbq29.out] at hx538_0)
              cases e538
              replace p538 := eq_true p538
              replace q538 := eq_true q538
              have p539 : 0 ≤ (x7_3 : Int) := oD (by assumption)
              have q539 : x7_3 < (l0.length : Int) := oD (by assumption)
              obtain ⟨ad539, e539, hx539_0, hx539_1, hx539_2, hx539_3, hx539_4, hx539_5⟩ := at_T39 HR0.out x7_3 p539 q539
              cases e539
              replace hx539_0 := pw_cell_below HB.out hx539_0
              replace hx539_1 := pw_cell_below HB.out hx539_1
              replace hx539_2 := pw_cell_below HB.out hx539_2
              replace hx539_3 := pw_cell_below HB.out hx539_3
              replace hx539_4 := pw_cell_below HB.out hx539_4
              replace hx539_5 := pw_cell_below HB.out hx539_5
              replace p539 := eq_true p539
              replace q539 := eq_true q539
              go_wp2_with (first | (go_at_call 41; (with_reducible refine (spec_l02Quant.calls ((rd_T39 l0 x7_3).f0) t540 _ A31.out).mono ?_); rintro e w' ⟨rfl, ⟨nd, rfl⟩⟩))
              go_meet
              case rel => exact ⟨_, (t540), (by rfl), H', ⟨by have := HJ1.out; have := HK2.out; have := HK3.out; omega⟩, ⟨by exact sR <| HO_3.out⟩, ⟨by exact sR <| HO_4.out⟩, ⟨by exact sR <| HO_5.out⟩, ⟨by exact sW HB.out⟩⟩
             ·replace c30 := Bool.eq_false_iff.mpr c30
              subst c30
              rw [if_neg (show ¬ (false = true) by decide)] at H
              have H' := am H
              clear H
              obtain ⟨Ao33, co33, eo33⟩ := Kd.R_slice HO_3.out
              subst eo33
              have p538 : 0 ≤ (x7_3 : Int) := oD (by assumption)
              have q538 : x7_3 < (t526.length : Int) := oD (by assumption)
              obtain ⟨ad538, e538, hx538_0⟩ := Kd.at_bool (Kd.R_reads' HO_3.out).2.2 x7_3 p538 q538
              (try rw [← Nbq29.out] at hx538_0)
              cases e538
              replace p538 := eq_true p538
              replace q538 := eq_true q538
              go_wp2
              go_meet
              case rel => exact ⟨_, (false), (by rfl), H', ⟨by have := HJ1.out; have := HK2.out; have := HK3.out; omega⟩, ⟨by exact sR <| HO_3.out⟩, ⟨by exact sR <| HO_4.out⟩, ⟨by exact sR <| HO_5.out⟩, ⟨by exact sW HB.out⟩⟩
            ·rw [if_neg c28] at H
             exact absurd H (by simp)
           ·rw [if_neg c27] at H
            exact absurd H (by simp)
          case rest => as_aux_lemma =>
           clear HC26
           clear c25b0
           obtain ⟨kq, x62_25, rfl, HA, HJ25, HO_3, HO_4, HO_5, HB⟩ := hcut
           cases kq with
           | zero => exact absurd HA.out (by simp [spec_Sentence.j3])
           | succ kj25 =>
            have H := HA.out
            clear HA
            simp only [spec_Sentence.j3] at H
            by_cases c34 : x62_25 = true
            ·subst c34
             rw [if_pos rfl] at H
             by_cases c35 : 0 ≤ x7_3
             ·rw [if_pos c35] at H
              have c35b0 : decide (0 ≤ x7_3) = true := decide_eq_true c35
              clear c35
              by_cases c36 : x7_3 < (l0.length : Int)
              ·rw [if_pos c36] at H
               have c36b0 : decide (x7_3 < (l0.length : Int)) = true := decide_eq_true c36
               clear c36
               by_cases c37 : 0 ≤ ((rd_T39 l0 x7_3).f2)
               ·rw [if_pos c37] at H
                have c37b0 : decide (0 ≤ ((rd_T39 l0 x7_3).f2)) = true := decide_eq_true c37
                clear c37
                by_cases c38 : ((rd_T39 l0 x7_3).f2) < (x5_3.length : Int)
                ·rw [if_pos c38] at H
                 have c38b0 : decide (((rd_T39 l0 x7_3).f2) < (x5_3.length : Int)) = true := decide_eq_true c38
                 clear c38
                 by_cases c39 : (rd x5_3 ((rd_T39 l0 x7_3).f2)) = 0
                 ·rw [if_pos c39] at H
                  have c39b0 : ((rd x5_3 ((rd_T39 l0 x7_3).f2)) == 0) = true := beq_iff_eq.mpr c39
                  have c39b1 : ((rd x5_3 ((rd_T39 l0 x7_3).f2)) != 0) = false := bne_eq_false_iff_eq.mpr c39
                  clear c39
                  obtain ⟨y545, hy545⟩ : ∃ y_ : List Int, y_ = (x5_3.set (((rd_T39 l0 x7_3).f2) : Int).toNat ((rd_T39 l0 x7_3).f4)) := ⟨_, rfl⟩
                  replace H : (spec_Sentence.l1 kj25 l0 t526 t529 y545 (wrap64 (x7_3 + 1))) = some r := by (rw [hy545]; with_reducible exact H)
                  have Ny545 := am hy545
                  clear hy545
                  have H' := am H
                  clear H
                  have p541 : 0 ≤ (x7_3 : Int) := oD (by assumption)
                  have q541 : x7_3 < (l0.length : Int) := oD (by assumption)
                  obtain ⟨ad541, e541, hx541_0, hx541_1, hx541_2, hx541_3, hx541_4, hx541_5⟩ := at_T39 HR0.out x7_3 p541 q541
                  cases e541
                  replace hx541_0 := pw_cell_below HB.out hx541_0
                  replace hx541_1 := pw_cell_below HB.out hx541_1
                  replace hx541_2 := pw_cell_below HB.out hx541_2
                  replace hx541_3 := pw_cell_below HB.out hx541_3
                  replace hx541_4 := pw_cell_below HB.out hx541_4
                  replace hx541_5 := pw_cell_below HB.out hx541_5
                  replace p541 := eq_true p541
                  replace q541 := eq_true q541
                  obtain ⟨Ao41, co41, eo41⟩ := Kd.R_slice HO_5.out
                  subst eo41
                  have p542 : 0 ≤ (((rd_T39 l0 x7_3).f2) : Int) := oD (by assumption)
                  have q542 : ((rd_T39 l0 x7_3).f2) < (x5_3.length : Int) := oD (by assumption)
                  obtain ⟨ad542, e542, hx542_0⟩ := Kd.at_int (Kd.R_reads' HO_5.out).2.2 ((rd_T39 l0 x7_3).f2) p542 q542
                  cases e542
                  replace p542 := eq_true p542
                  replace q542 := eq_true q542
                  try go_wp2
                  have n0_ := am (Kd.R_drew HO_3.out)
                  have n1_ := am (Kd.R_drew HO_4.out)
                  have n2_ := am (Kd.R_drew HO_5.out)
                  have n3_ := am (below_drew1 HB.out)
                  clear HO_3
                  clear HO_4
                  clear HO_5
                  clear HB
                  have HO_3 := n0_
                  have HO_4 := n1_
                  have HO_5 := n2_
                  have HB := n3_
                  clear n0_ n1_ n2_ n3_
                  have p543 : 0 ≤ (x7_3 : Int) := oD (by assumption)
                  have q543 : x7_3 < (l0.length : Int) := oD (by assumption)
                  obtain ⟨ad543, e543, hx543_0, hx543_1, hx543_2, hx543_3, hx543_4, hx543_5⟩ := at_T39 HR0.out x7_3 p543 q543
                  have hw543_5 := hx543_5
                  have hw543_4 := hx543_4
                  have hw543_3 := hx543_3
                  have hw543_2 := hx543_2
                  have hw543_1 := hx543_1
                  have hw543_0 := hx543_0
                  obtain rfl : ad541 = ad543 := (by injection e543)
                  replace hx543_0 := pw_cell_below HB.out hx543_0
                  replace hx543_1 := pw_cell_below HB.out hx543_1
                  replace hx543_2 := pw_cell_below HB.out hx543_2
                  replace hx543_3 := pw_cell_below HB.out hx543_3
                  replace hx543_4 := pw_cell_below HB.out hx543_4
                  replace hx543_5 := pw_cell_below HB.out hx543_5
                  replace p543 := eq_true p543
                  replace q543 := eq_true q543
                  have p544 : 0 ≤ (x7_3 : Int) := oD (by assumption)
                  have q544 : x7_3 < (l0.length : Int) := oD (by assumption)
                  obtain ⟨ad544, e544, hx544_0, hx544_1, hx544_2, hx544_3, hx544_4, hx544_5⟩ := at_T39 HR0.out x7_3 p544 q544
                  have hw544_5 := hx544_5
                  have hw544_4 := hx544_4
                  have hw544_3 := hx544_3
                  have hw544_2 := hx544_2
                  have hw544_1 := hx544_1
                  have hw544_0 := hx544_0
                  obtain rfl : ad541 = ad544 := (by injection e544)
                  replace hx544_0 := pw_cell_below HB.out hx544_0
                  replace hx544_1 := pw_cell_below HB.out hx544_1
                  replace hx544_2 := pw_cell_below HB.out hx544_2
                  replace hx544_3 := pw_cell_below HB.out hx544_3
                  replace hx544_4 := pw_cell_below HB.out hx544_4
                  replace hx544_5 := pw_cell_below HB.out hx544_5
                  replace p544 := eq_true p544
                  replace q544 := eq_true q544
                  have p40 : 0 ≤ (((rd_T39 l0 x7_3).f2) : Int) := oD (by assumption)
                  have q40 : (((rd_T39 l0 x7_3).f2) : Int) < ((x5_3.length : Int) : Int) := oD (by assumption)
                  obtain ⟨go40, co40, eo40, gb40, gl40, cl40, HG40⟩ := Kd.R_form HO_5.out (by omega)
                  (cases eo40)
                  have GB40 := am gb40
                  have GG40 := am HG40
                  clear gb40 gl40 HG40
                  (simp only [add_plain] at hx542_0)
                  obtain ⟨hx40_0, hf40_0⟩ := Kd.R_celln 0 HO_5.out (((rd_T39 l0 x7_3).f2) : Int) p40 q40
                  replace p40 := eq_true p40
                  replace q40 := eq_true q40
                  have HP43 := Kd.R_putn HO_5.out (((rd_T39 l0 x7_3).f2) : Int) ((rd_T39 l0 x7_3).f4)
                  rw [← Ny545.out] at HP43
                  have HQ43 := am HP43
                  clear HP43
                  refine start_ (n := 13) (S := fun w' => w'.cell? (ad541.add ((x7_3).toNat * 6)) = some (.int .i64 ((rd_T39 l0 x7_3).f0)) ∧ w'.cell? ⟨(ad541.add ((x7_3).toNat * 6)).block, (ad541.add ((x7_3).toNat * 6)).off + 1, none⟩ = some (.int .i64 ((rd_T39 l0 x7_3).f1)) ∧ w'.cell? ⟨(ad541.add ((x7_3).toNat * 6)).block, (ad541.add ((x7_3).toNat * 6)).off + 2, none⟩ = some (.int .i64 ((rd_T39 l0 x7_3).f2)) ∧ w'.cell? ⟨(ad541.add ((x7_3).toNat * 6)).block, (ad541.add ((x7_3).toNat * 6)).off + 3, none⟩ = some (.int .i64 ((rd_T39 l0 x7_3).f3)) ∧ w'.cell? ⟨(ad541.add ((x7_3).toNat * 6)).block, (ad541.add ((x7_3).toNat * 6)).off + 4, none⟩ = some (.int .i64 ((rd_T39 l0 x7_3).f4)) ∧ w'.cell? ⟨(ad541.add ((x7_3).toNat * 6)).block, (ad541.add ((x7_3).toNat * 6)).off + 5, none⟩ = some (.int .i64 ((rd_T39 l0 x7_3).f5)) ∧ w'.cell? (ad541.add ((x7_3).toNat * 6)) = some (.int .i64 ((rd_T39 l0 x7_3).f0)) ∧ w'.cell? ⟨(ad541.add ((x7_3).toNat * 6)).block, (ad541.add ((x7_3).toNat * 6)).off + 1, none⟩ = some (.int .i64 ((rd_T39 l0 x7_3).f1)) ∧ w'.cell? ⟨(ad541.add ((x7_3).toNat * 6)).block, (ad541.add ((x7_3).toNat * 6)).off + 2, none⟩ = some (.int .i64 ((rd_T39 l0 x7_3).f2)) ∧ w'.cell? ⟨(ad541.add ((x7_3).toNat * 6)).block, (ad541.add ((x7_3).toNat * 6)).off + 3, none⟩ = some (.int .i64 ((rd_T39 l0 x7_3).f3)) ∧ w'.cell? ⟨(ad541.add ((x7_3).toNat * 6)).block, (ad541.add ((x7_3).toNat * 6)).off + 4, none⟩ = some (.int .i64 ((rd_T39 l0 x7_3).f4)) ∧ w'.cell? ⟨(ad541.add ((x7_3).toNat * 6)).block, (ad541.add ((x7_3).toNat * 6)).off + 5, none⟩ = some (.int .i64 ((rd_T39 l0 x7_3).f5))) (ds := [12]) zA0x15 (by kernel_rfl) rfl rfl ⟨(pw_cell_below HB.out hw543_0), (pw_cell_below HB.out hw543_1), (pw_cell_below HB.out hw543_2), (pw_cell_below HB.out hw543_3), (pw_cell_below HB.out hw543_4), (pw_cell_below HB.out hw543_5), (pw_cell_below HB.out hw544_0), (pw_cell_below HB.out hw544_1), (pw_cell_below HB.out hw544_2), (pw_cell_below HB.out hw544_3), (pw_cell_below HB.out hw544_4), (pw_cell_below HB.out hw544_5)⟩ (fun hHeld => ?_); refine with_tabW spec_Sentence.tab15 spec_Sentence.bits15 (fun HT_ HW_ => ?_)
                  generalize wc.drew = w42 at HO_3 HO_4 HO_5 HB GG40 HQ43 hf40_0 hx40_0 hx542_0 hx543_0 hx543_1 hx543_2 hx543_3 hx543_4 hx543_5 hx544_0 hx544_1 hx544_2 hx544_3 hx544_4 hx544_5 hHeld ⊢
                  refine pT (i := 0) (N := some 72) zA1x15 ?_
                  refine pT (i := 1) (N := some 73) zA2x15 ?_
                  refine pT (i := 2) (N := some 74) zA3x15 ?_
                  refine pT (i := 3) (N := some 75) zA4x15 ?_
                  refine pT (i := 4) (N := some 76) zA5x15 ?_
                  refine pT (i := 6) (N := some 78) zA6x15 ?_
                  refine pT (i := 7) (N := some 79) zA7x15 ?_
                  refine pT (i := 8) (N := some 80) zA8x15 ?_
                  refine pT (i := 9) (N := some 81) zA9x15 ?_
                  refine take_ (i := 5) (N := some 77) (v := ?_) (a' := ?_) zA10x15 rfl rfl (take_ofW HT_.out HW_.out (by kernel_rfl)) (fun _ _ _ h => h) (Or.inl ⟨by rfl, ?_⟩) hHeld ?_ ?_
                  rotate_left
                  ·rintro w' ⟨s0, s1, s2, s3, s4, s5, s6, s7, s8, s9, s10, s11⟩
                   go_simp
                   with_reducible rfl
                  rotate_left
                  ·simp only [Act.put, List.setIfInBounds_toArray, List.set_cons_zero, List.set_cons_succ, i64_w, i32_w]
                   rfl
                  refine take_ (i := 10) (N := some 82) (v := ?_) (a' := ?_) zA11x15 rfl rfl (take_ofW HT_.out HW_.out (by kernel_rfl)) (fun _ _ _ h => h) (Or.inl ⟨by rfl, ?_⟩) hHeld ?_ ?_
                  rotate_left
                  ·rintro w' ⟨s0, s1, s2, s3, s4, s5, s6, s7, s8, s9, s10, s11⟩
                   go_simp
                   with_reducible rfl
                  rotate_left
                  ·simp only [Act.put, List.setIfInBounds_toArray, List.set_cons_zero, List.set_cons_succ, i64_w, i32_w]
                   rfl
                  refine pT (i := 11) (N := some 83) zA12x15 ?_
                  refine last_ (i := 12) (N := none) zA13x15 rfl rfl (one_of HT_.out (by kernel_rfl)) (by decide) (fun K hK => ?_)
                  refine skip_ (w1 := ?_) (by rfl) rfl ?_ ?_
                  rotate_left
                  ·go_simp
                   rfl
                  refine hK.out _ _ ?_
                  clear hK K
                  refine done_ (done_of HT_.out (by kernel_rfl)) ?_
                  try go_wp2
                  go_roundg kj25
                  case measure => have := HJ1.out; have := HK2.out; have := HK3.out; have := HJ25.out; omega
                  case rel => exact ⟨(y545), (wrap64 (x7_3 + 1)), (by rfl), H', ⟨by have := HJ1.out; have := HK2.out; have := HK3.out; have := HJ25.out; omega⟩, ⟨by exact sR <| Kd.R_mono (Kd.R_far (p := ⟨go40, (((rd_T39 l0 x7_3).f2) : Int).toNat, none⟩) (Kd.R_types HO_3.out GG40.out (by decide)) (fun _ hk => hk.2) (.int .i64 ((rd_T39 l0 x7_3).f4))) (fun _ hk => hk.1)⟩, ⟨by exact sR <| Kd.R_mono (Kd.R_far (p := ⟨go40, (((rd_T39 l0 x7_3).f2) : Int).toNat, none⟩) (Kd.R_types HO_4.out GG40.out (by decide)) (fun _ hk => hk.2) (.int .i64 ((rd_T39 l0 x7_3).f4))) (fun _ hk => hk.1)⟩, ⟨by exact sR <| HQ43.out⟩, ⟨by exact bW⟩⟩
                 ·rw [if_neg c39] at H
                  have c39b0 : ((rd x5_3 ((rd_T39 l0 x7_3).f2)) == 0) = false := beq_eq_false_iff_ne.mpr c39
                  have c39b1 : ((rd x5_3 ((rd_T39 l0 x7_3).f2)) != 0) = true := bne_iff_ne.mpr c39
                  obtain rfl := oI H
                  have p541 : 0 ≤ (x7_3 : Int) := oD (by assumption)
                  have q541 : x7_3 < (l0.length : Int) := oD (by assumption)
                  obtain ⟨ad541, e541, hx541_0, hx541_1, hx541_2, hx541_3, hx541_4, hx541_5⟩ := at_T39 HR0.out x7_3 p541 q541
                  cases e541
                  replace hx541_0 := pw_cell_below HB.out hx541_0
                  replace hx541_1 := pw_cell_below HB.out hx541_1
                  replace hx541_2 := pw_cell_below HB.out hx541_2
                  replace hx541_3 := pw_cell_below HB.out hx541_3
                  replace hx541_4 := pw_cell_below HB.out hx541_4
                  replace hx541_5 := pw_cell_below HB.out hx541_5
                  replace p541 := eq_true p541
                  replace q541 := eq_true q541
                  obtain ⟨Ao44, co44, eo44⟩ := Kd.R_slice HO_5.out
                  subst eo44
                  have p542 : 0 ≤ (((rd_T39 l0 x7_3).f2) : Int) := oD (by assumption)
                  have q542 : ((rd_T39 l0 x7_3).f2) < (x5_3.length : Int) := oD (by assumption)
                  obtain ⟨ad542, e542, hx542_0⟩ := Kd.at_int (Kd.R_reads' HO_5.out).2.2 ((rd_T39 l0 x7_3).f2) p542 q542
                  cases e542
                  replace p542 := eq_true p542
                  replace q542 := eq_true q542
                  go_wp2
                  go_ret
                  exact ⟨by rfl, by exact sW HB.out⟩
                ·rw [if_neg c38] at H
                 exact absurd H (by simp)
               ·rw [if_neg c37] at H
                exact absurd H (by simp)
              ·rw [if_neg c36] at H
               exact absurd H (by simp)
             ·rw [if_neg c35] at H
              exact absurd H (by simp)
            ·replace c34 := Bool.eq_false_iff.mpr c34
             subst c34
             rw [if_neg (show ¬ (false = true) by decide)] at H
             have H' := am H
             clear H
             go_wp2
             go_roundg kj25
             case measure => have := HJ1.out; have := HK2.out; have := HK3.out; have := HJ25.out; omega
             case rel => exact ⟨(x5_3), (wrap64 (x7_3 + 1)), (by rfl), H', ⟨by have := HJ1.out; have := HK2.out; have := HK3.out; have := HJ25.out; omega⟩, ⟨by exact sR <| HO_3.out⟩, ⟨by exact sR <| HO_4.out⟩, ⟨by exact sR <| HO_5.out⟩, ⟨by exact sW HB.out⟩⟩
         ·rw [if_neg c25] at H
          have c25b0 : decide (x7_3 < (l0.length : Int)) = false := decide_eq_false c25
          clear c25
          obtain ⟨y546, hy546⟩ : ∃ y_ : List Int, y_ = (([] : List Int)) := ⟨_, rfl⟩
          replace H : (spec_Sentence.l2 k3 l0 t526 t529 x5_3 y546 0) = some r := by (rw [hy546]; with_reducible exact H)
          have Ny546 := am hy546
          clear hy546
          have H' := am H
          clear H
          go_wp2_with (first | ((with_reducible refine gate_dst (N := 84) rfl ?_); (try (refine gate_guard (by rfl) ?_; dsimp only)); refine Kd.R_lit (Kd.int .i64) _ 3 ?hg (N := 84) ?hd (xs := ([] : List Int)) (inner := []) (ok := fun _ => True) (okp := fun _ => True) ?hr ?hp (fun _ hk => hk) trivial (Below.refl _ _) (Nat.le_refl _) (by simp) ?_; (case hd => rfl); (case hg => rfl); (case hr => (go_simp; done)); (case hp => exact (Reps.none _ _)); intro v547 w45 ho46 hb hg_ hnew_; clear hg_ hnew_; (rw [← Ny546.out] at ho46); have n0_ := am (Kd.R_below (by exact sR <| HO_3.out) hb); have n1_ := am (Kd.R_below (by exact sR <| HO_4.out) hb); have n2_ := am (Kd.R_elder' (by exact sR <| HO_5.out) (Kd.R_base ho46) hb); have n3_ := am (Kd.R_lower (Kd.R_new' ho46 (Kd.R_lt (by exact sR <| HO_5.out))) (below_size (by exact sW HB.out))); have n4_ := am (below_step (by exact sW HB.out) hb); clear HO_3; clear HO_4; clear HO_5; clear HB; have HO_3 := n0_; have HO_4 := n1_; have HO_5 := n2_; have HO548 := n3_; have HB := n4_; clear n0_ n1_ n2_ n3_ n4_; clear hb ho46))
          go_loopg [8, 9] k3 (fun kq v8 v9 w' => ∃ (x8_4 : List Int) (x9_4 : Int), v9 = .int .i64 x9_4 ∧ Aside0 (spec_Sentence.l2 kq l0 t526 t529 x5_3 x8_4 x9_4 = some r) ∧ Aside0 (kq ≤ k3) ∧ Aside0 (Kd.R Kd.bool 4 w' w.heap.size (fun k_ => some k_ ≠ (v530 : Value).ownBlock) v527 t526) ∧ Aside0 (Kd.R Kd.bool 4 w' w.heap.size (fun k_ => some k_ ≠ (v527 : Value).ownBlock) v530 t529) ∧ Aside0 (Kd.R (Kd.int .i64) 3 w' w.heap.size (fun k_ => some k_ ≠ (v8 : Value).ownBlock) u5 x5_3) ∧ Aside0 (Kd.R (Kd.int .i64) 3 w' w.heap.size (fun k_ => some k_ ≠ (u5 : Value).ownBlock) v8 x8_4) ∧ Aside0 (Below w.heap.size w w'))
          case atStart => exact ⟨(y546), (0), (by rfl), H', ⟨Nat.le_refl _⟩, ⟨by exact sR <| HO_3.out⟩, ⟨by exact sR <| HO_4.out⟩, ⟨by exact sR <| Kd.R_mono HO_5.out (fun _ hk => hk.2)⟩, ⟨by exact sR <| Kd.R_mono HO548.out (fun _ hk => hk.2)⟩, ⟨by exact sW HB.out⟩⟩
          case round => as_aux_lemma =>
           clear H'
           clear c25b0
           obtain ⟨x8_4, x9_4, rfl, HA, HK4, HO_3, HO_4, HO_5, HO_8, HB⟩ := hrel
           cases gk with
           | zero => exact absurd HA.out (by simp [spec_Sentence.l2])
           | succ k4 =>
            have H := HA.out
            clear HA
            simp only [spec_Sentence.l2] at H
            by_cases c47 : x9_4 < (l0.length : Int)
            ·rw [if_pos c47] at H
             have c47b0 : decide (x9_4 < (l0.length : Int)) = true := decide_eq_true c47
             clear c47
             by_cases c48 : x8_4.length < 17592186044416
             ·rw [if_pos c48] at H
              have LMc48 := am c48
              clear c48
              obtain ⟨y549, hy549⟩ : ∃ y_ : List Int, y_ = (x8_4 ++ [0]) := ⟨_, rfl⟩
              replace H : (spec_Sentence.l2 k4 l0 t526 t529 x5_3 y549 (wrap64 (x9_4 + 1))) = some r := by (rw [hy549]; with_reducible exact H)
              have Ny549 := am hy549
              clear hy549
              have H' := am H
              clear H
              go_wp2_with (first | ((with_reducible refine gate_builtin (b := .append) (xs := #[.tmp 91, .tmp 92]) rfl ?_); (try (refine gate_guard (by rfl) ?_; dsimp only)); at_builtin; refine Kd.R_append (Kd.int .i64) (w0 := w) w.heap.size rfl (.tmp 91) (.tmp 92) 24 3 (.int .i64 0) 8 rfl Try.underlying24 info3 rfl (by decide) (by omega) u8 x8_4 0 [.int .i64 0] (fun k_ => some k_ ≠ (u5 : Value).ownBlock) (fun _ => False) rfl rfl ?aP (fun _ hk => hk.elim) ?aF ?aO ?aB ?aS ?aL ?_; (case aP => exact rfl); (case aB => exact (by exact sW HB.out)); (case aF => exact (fun k_ hk => Kd.fresh' (Kd.R_lt (by exact sR <| HO_5.out)) k_ hk)); (case aO => exact (by exact sR <| HO_8.out)); (case aS => exact (below_size (by exact sW HB.out))); (case aL => have := LMc48.out; omega); intro v550 w49 ho hb hg hat; rw [← Ny549.out] at ho; have n0_ := am (Kd.R_over' (by exact sR <| HO_3.out) (Kd.R_typed (by exact sR <| HO_8.out)) (by decide) hg); have n1_ := am (Kd.R_over' (by exact sR <| HO_4.out) (Kd.R_typed (by exact sR <| HO_8.out)) (by decide) hg); have n2_ := am (Kd.R_after (ok := (fun _ => True)) (by exact sR <| Kd.R_mono HO_5.out (fun _ hk => ⟨trivial, hk⟩)) hg hat); have n3_ := am (hb); have n4_ := am (ho); clear HO_3; clear HO_4; clear HO_5; clear HB; clear HO_8; have HO_3 := n0_; have HO_4 := n1_; have HO_5 := n2_; have HB := n3_; have HO551 := n4_; clear n0_ n1_ n2_ n3_ n4_; clear ho hb hg hat))
              go_roundg k4
              case measure => have := HJ1.out; have := HK2.out; have := HK3.out; have := HK4.out; omega
              case rel => exact ⟨(y549), (wrap64 (x9_4 + 1)), (by rfl), H', ⟨by have := HJ1.out; have := HK2.out; have := HK3.out; have := HK4.out; omega⟩, ⟨by exact sR <| HO_3.out⟩, ⟨by exact sR <| HO_4.out⟩, ⟨by exact sR <| Kd.R_mono HO_5.out (fun _ hk => hk.2)⟩, ⟨by exact sR <| HO551.out⟩, ⟨by exact sW HB.out⟩⟩
             ·rw [if_neg c48] at H
              exact absurd H (by simp)
            ·rw [if_neg c47] at H
             have c47b0 : decide (x9_4 < (l0.length : Int)) = false := decide_eq_false c47
             clear c47
             have H' := am H
             clear H
             go_wp2
             go_loopg [10] k4 (fun kq v10 w' => ∃ (x8_5 : List Int) (x10_5 : Int), v10 = .int .i64 x10_5 ∧ Aside0 (spec_Sentence.l3 kq l0 t526 t529 x5_3 x8_5 x10_5 = some r) ∧ Aside0 (kq ≤ k4) ∧ Aside0 (Kd.R Kd.bool 4 w' w.heap.size (fun k_ => some k_ ≠ (v530 : Value).ownBlock) v527 t526) ∧ Aside0 (Kd.R Kd.bool 4 w' w.heap.size (fun k_ => some k_ ≠ (v527 : Value).ownBlock) v530 t529) ∧ Aside0 (Kd.R (Kd.int .i64) 3 w' w.heap.size (fun k_ => some k_ ≠ (u8 : Value).ownBlock) u5 x5_3) ∧ Aside0 (Kd.R (Kd.int .i64) 3 w' w.heap.size (fun k_ => some k_ ≠ (u5 : Value).ownBlock) u8 x8_5) ∧ Aside0 (Below w.heap.size w w'))
             case atStart => exact ⟨(x8_4), (0), (by rfl), H', ⟨Nat.le_refl _⟩, ⟨by exact sR <| HO_3.out⟩, ⟨by exact sR <| HO_4.out⟩, ⟨by exact sR <| HO_5.out⟩, ⟨by exact sR <| HO_8.out⟩, ⟨by exact sW HB.out⟩⟩
             case round => as_aux_lemma =>
              clear H'
              clear c47b0
              obtain ⟨x8_5, x10_5, rfl, HA, HK5, HO_3, HO_4, HO_5, HO_8, HB⟩ := hrel
              cases gk with
              | zero => exact absurd HA.out (by simp [spec_Sentence.l3])
              | succ k5 =>
               have H := HA.out
               clear HA
               simp only [spec_Sentence.l3] at H
               by_cases c50 : x10_5 < (l0.length : Int)
               ·rw [if_pos c50] at H
                have c50b0 : decide (x10_5 < (l0.length : Int)) = true := decide_eq_true c50
                clear c50
                by_cases c51 : 0 ≤ x10_5
                ·rw [if_pos c51] at H
                 have c51b0 : decide (0 ≤ x10_5) = true := decide_eq_true c51
                 clear c51
                 by_cases c52 : x10_5 < (t526.length : Int)
                 ·rw [if_pos c52] at H
                  have c52b0 : decide (x10_5 < (t526.length : Int)) = true := decide_eq_true c52
                  clear c52
                  obtain ⟨bq53, hbq53⟩ : ∃ b_ : Bool, b_ = (rdOf false t526 x10_5) := ⟨_, rfl⟩
                  replace H : (if bq53 = true then (if ((rd_T39 l0 x10_5).f0) = 1 then (if 0 ≤ ((rd_T39 l0 x10_5).f2) then (if ((rd_T39 l0 x10_5).f2) < (x5_3.length : Int) then (if (rd x5_3 ((rd_T39 l0 x10_5).f2)) = ((rd_T39 l0 x10_5).f1) then (if x10_5 < (t529.length : Int) then (if rdOf false t529 x10_5 = true then ((spec_l02Outer.f ((rd_T39 l0 x10_5).f0)).bind fun t559 => (spec_Sentence.j6 k5 l0 t526 t529 x5_3 x8_5 x10_5 (!t559))) else (spec_Sentence.j6 k5 l0 t526 t529 x5_3 x8_5 x10_5 false)) else (none)) else (spec_Sentence.j6 k5 l0 t526 t529 x5_3 x8_5 x10_5 true)) else (none)) else (none)) else (if x10_5 < (t529.length : Int) then (if rdOf false t529 x10_5 = true then ((spec_l02Outer.f ((rd_T39 l0 x10_5).f0)).bind fun t562 => (spec_Sentence.j6 k5 l0 t526 t529 x5_3 x8_5 x10_5 (!t562))) else (spec_Sentence.j6 k5 l0 t526 t529 x5_3 x8_5 x10_5 false)) else (none))) else (spec_Sentence.l3 k5 l0 t526 t529 x5_3 x8_5 (wrap64 (x10_5 + 1)))) = some r := by rw [← hbq53] at H; exact H
                  have Nbq53 := am hbq53
                  clear hbq53
                  by_cases c54 : bq53 = true
                  ·subst c54
                   rw [if_pos rfl] at H
                   have HC55 := am H
                   clear H
                   obtain ⟨Ao56, co56, eo56⟩ := Kd.R_slice HO_3.out
                   subst eo56
                   have p552 : 0 ≤ (x10_5 : Int) := oD (by assumption)
                   have q552 : x10_5 < (t526.length : Int) := oD (by assumption)
                   obtain ⟨ad552, e552, hx552_0⟩ := Kd.at_bool (Kd.R_reads' HO_3.out).2.2 x10_5 p552 q552
                   (try rw [← Nbq53.out] at hx552_0)
                   cases e552
                   replace p552 := eq_true p552
                   replace q552 := eq_true q552
                   go_upto_region 25 with (fail)
                   go_cut [141] (fun v141 wc => ∃ (kq : Nat) (x141_54 : Bool), v141 = .bool x141_54 ∧ Aside0 (spec_Sentence.j6 kq l0 t526 t529 x5_3 x8_5 x10_5 x141_54 = some r) ∧ Aside0 (kq ≤ k5) ∧ Aside0 (Kd.R Kd.bool 4 wc w.heap.size (fun k_ => some k_ ≠ (v530 : Value).ownBlock) (.slice (some ad552) t526.length co56) t526) ∧ Aside0 (Kd.R Kd.bool 4 wc w.heap.size (fun k_ => some k_ ≠ ((.slice (some ad552) t526.length co56) : Value).ownBlock) v530 t529) ∧ Aside0 (Kd.R (Kd.int .i64) 3 wc w.heap.size (fun k_ => some k_ ≠ (u8 : Value).ownBlock) u5 x5_3) ∧ Aside0 (Kd.R (Kd.int .i64) 3 wc w.heap.size (fun k_ => some k_ ≠ (u5 : Value).ownBlock) u8 x8_5) ∧ Aside0 (Below w.heap.size w wc))
                   case first => as_aux_lemma =>
                    have H := HC55.out
                    clear HC55
                    by_cases c57 : ((rd_T39 l0 x10_5).f0) = 1
                    ·rw [if_pos c57] at H
                     have c57b0 : (((rd_T39 l0 x10_5).f0) == 1) = true := beq_iff_eq.mpr c57
                     have c57b1 : (((rd_T39 l0 x10_5).f0) != 1) = false := bne_eq_false_iff_eq.mpr c57
                     clear c57
                     (skip)
                     by_cases c58 : 0 ≤ ((rd_T39 l0 x10_5).f2)
                     ·rw [if_pos c58] at H
                      have c58b0 : decide (0 ≤ ((rd_T39 l0 x10_5).f2)) = true := decide_eq_true c58
                      clear c58
                      by_cases c59 : ((rd_T39 l0 x10_5).f2) < (x5_3.length : Int)
                      ·rw [if_pos c59] at H
                       have c59b0 : decide (((rd_T39 l0 x10_5).f2) < (x5_3.length : Int)) = true := decide_eq_true c59
                       clear c59
                       by_cases c60 : (rd x5_3 ((rd_T39 l0 x10_5).f2)) = ((rd_T39 l0 x10_5).f1)
                       ·rw [if_pos c60] at H
                        have c60b0 : ((rd x5_3 ((rd_T39 l0 x10_5).f2)) == ((rd_T39 l0 x10_5).f1)) = true := beq_iff_eq.mpr c60
                        have c60b1 : ((rd x5_3 ((rd_T39 l0 x10_5).f2)) != ((rd_T39 l0 x10_5).f1)) = false := bne_eq_false_iff_eq.mpr c60
                        clear c60
                        by_cases c61 : x10_5 < (t529.length : Int)
                        ·rw [if_pos c61] at H
                         have c61b0 : decide (x10_5 < (t529.length : Int)) = true := decide_eq_true c61
                         clear c61
                         obtain ⟨bq62, hbq62⟩ : ∃ b_ : Bool, b_ = (rdOf false t529 x10_5) := ⟨_, rfl⟩
                         replace H : (if bq62 = true then ((spec_l02Outer.f ((rd_T39 l0 x10_5).f0)).bind fun t559 => (spec_Sentence.j6 k5 l0 t526 t529 x5_3 x8_5 x10_5 (!t559))) else (spec_Sentence.j6 k5 l0 t526 t529 x5_3 x8_5 x10_5 false)) = some r := by rw [← hbq62] at H; exact H
                         have Nbq62 := am hbq62
                         clear hbq62
                         by_cases c63 : bq62 = true
                         ·subst c63
                          rw [if_pos rfl] at H
                          replace H := oB H
                          obtain ⟨t559, A640, H⟩ := H
                          have A64 := am A640
                          clear A640
                          have H' := am H
                          clear H
                          try go_wp2
                          have n0_ := am (Kd.R_drew HO_3.out)
                          have n1_ := am (Kd.R_drew HO_4.out)
                          have n2_ := am (Kd.R_drew HO_5.out)
                          have n3_ := am (Kd.R_drew HO_8.out)
                          have n4_ := am (below_drew1 HB.out)
                          clear HO_3
                          clear HO_4
                          clear HO_5
                          clear HO_8
                          clear HB
                          have HO_3 := n0_
                          have HO_4 := n1_
                          have HO_5 := n2_
                          have HO_8 := n3_
                          have HB := n4_
                          clear n0_ n1_ n2_ n3_ n4_
                          have p553 : 0 ≤ (x10_5 : Int) := oD (by assumption)
                          have q553 : x10_5 < (l0.length : Int) := oD (by assumption)
                          obtain ⟨ad553, e553, hx553_0, hx553_1, hx553_2, hx553_3, hx553_4, hx553_5⟩ := at_T39 HR0.out x10_5 p553 q553
                          have hw553_5 := hx553_5
                          have hw553_4 := hx553_4
                          have hw553_3 := hx553_3
                          have hw553_2 := hx553_2
                          have hw553_1 := hx553_1
                          have hw553_0 := hx553_0
                          cases e553
                          replace hx553_0 := pw_cell_below HB.out hx553_0
                          replace hx553_1 := pw_cell_below HB.out hx553_1
                          replace hx553_2 := pw_cell_below HB.out hx553_2
                          replace hx553_3 := pw_cell_below HB.out hx553_3
                          replace hx553_4 := pw_cell_below HB.out hx553_4
                          replace hx553_5 := pw_cell_below HB.out hx553_5
                          replace p553 := eq_true p553
                          replace q553 := eq_true q553
                          have p554 : 0 ≤ (x10_5 : Int) := oD (by assumption)
                          have q554 : x10_5 < (l0.length : Int) := oD (by assumption)
                          obtain ⟨ad554, e554, hx554_0, hx554_1, hx554_2, hx554_3, hx554_4, hx554_5⟩ := at_T39 HR0.out x10_5 p554 q554
                          have hw554_5 := hx554_5
                          have hw554_4 := hx554_4
                          have hw554_3 := hx554_3
                          have hw554_2 := hx554_2
                          have hw554_1 := hx554_1
                          have hw554_0 := hx554_0
                          obtain rfl : ad553 = ad554 := (by injection e554)
                          replace hx554_0 := pw_cell_below HB.out hx554_0
                          replace hx554_1 := pw_cell_below HB.out hx554_1
                          replace hx554_2 := pw_cell_below HB.out hx554_2
                          replace hx554_3 := pw_cell_below HB.out hx554_3
                          replace hx554_4 := pw_cell_below HB.out hx554_4
                          replace hx554_5 := pw_cell_below HB.out hx554_5
                          replace p554 := eq_true p554
                          replace q554 := eq_true q554
                          obtain ⟨Ao66, co66, eo66⟩ := Kd.R_slice HO_5.out
                          (subst eo66)
                          have p555 : 0 ≤ (((rd_T39 l0 x10_5).f2) : Int) := oD (by assumption)
                          have q555 : ((rd_T39 l0 x10_5).f2) < (x5_3.length : Int) := oD (by assumption)
                          obtain ⟨ad555, e555, hx555_0⟩ := Kd.at_int (Kd.R_reads' HO_5.out).2.2 ((rd_T39 l0 x10_5).f2) p555 q555
                          cases e555
                          replace p555 := eq_true p555
                          replace q555 := eq_true q555
                          have p556 : 0 ≤ (x10_5 : Int) := oD (by assumption)
                          have q556 : x10_5 < (l0.length : Int) := oD (by assumption)
                          obtain ⟨ad556, e556, hx556_0, hx556_1, hx556_2, hx556_3, hx556_4, hx556_5⟩ := at_T39 HR0.out x10_5 p556 q556
                          have hw556_5 := hx556_5
                          have hw556_4 := hx556_4
                          have hw556_3 := hx556_3
                          have hw556_2 := hx556_2
                          have hw556_1 := hx556_1
                          have hw556_0 := hx556_0
                          obtain rfl : ad553 = ad556 := (by injection e556)
                          replace hx556_0 := pw_cell_below HB.out hx556_0
                          replace hx556_1 := pw_cell_below HB.out hx556_1
                          replace hx556_2 := pw_cell_below HB.out hx556_2
                          replace hx556_3 := pw_cell_below HB.out hx556_3
                          replace hx556_4 := pw_cell_below HB.out hx556_4
                          replace hx556_5 := pw_cell_below HB.out hx556_5
                          replace p556 := eq_true p556
                          replace q556 := eq_true q556
                          obtain ⟨Ao67, co67, eo67⟩ := Kd.R_slice HO_4.out
                          (subst eo67)
                          have p557 : 0 ≤ (x10_5 : Int) := oD (by assumption)
                          have q557 : x10_5 < (t529.length : Int) := oD (by assumption)
                          obtain ⟨ad557, e557, hx557_0⟩ := Kd.at_bool (Kd.R_reads' HO_4.out).2.2 x10_5 p557 q557
                          (try rw [← Nbq53.out] at hx557_0)
                          (try rw [← Nbq62.out] at hx557_0)
                          cases e557
                          replace p557 := eq_true p557
                          replace q557 := eq_true q557
                          have p558 : 0 ≤ (x10_5 : Int) := oD (by assumption)
                          have q558 : x10_5 < (l0.length : Int) := oD (by assumption)
                          obtain ⟨ad558, e558, hx558_0, hx558_1, hx558_2, hx558_3, hx558_4, hx558_5⟩ := at_T39 HR0.out x10_5 p558 q558
                          have hw558_5 := hx558_5
                          have hw558_4 := hx558_4
                          have hw558_3 := hx558_3
                          have hw558_2 := hx558_2
                          have hw558_1 := hx558_1
                          have hw558_0 := hx558_0
                          obtain rfl : ad553 = ad558 := (by injection e558)
                          replace hx558_0 := pw_cell_below HB.out hx558_0
                          replace hx558_1 := pw_cell_below HB.out hx558_1
                          replace hx558_2 := pw_cell_below HB.out hx558_2
                          replace hx558_3 := pw_cell_below HB.out hx558_3
                          replace hx558_4 := pw_cell_below HB.out hx558_4
                          replace hx558_5 := pw_cell_below HB.out hx558_5
                          replace p558 := eq_true p558
                          replace q558 := eq_true q558
                          refine start_ (n := 37) (S := fun w' => w'.cell? (ad553.add ((x10_5).toNat * 6)) = some (.int .i64 ((rd_T39 l0 x10_5).f0)) ∧ w'.cell? ⟨(ad553.add ((x10_5).toNat * 6)).block, (ad553.add ((x10_5).toNat * 6)).off + 1, none⟩ = some (.int .i64 ((rd_T39 l0 x10_5).f1)) ∧ w'.cell? ⟨(ad553.add ((x10_5).toNat * 6)).block, (ad553.add ((x10_5).toNat * 6)).off + 2, none⟩ = some (.int .i64 ((rd_T39 l0 x10_5).f2)) ∧ w'.cell? ⟨(ad553.add ((x10_5).toNat * 6)).block, (ad553.add ((x10_5).toNat * 6)).off + 3, none⟩ = some (.int .i64 ((rd_T39 l0 x10_5).f3)) ∧ w'.cell? ⟨(ad553.add ((x10_5).toNat * 6)).block, (ad553.add ((x10_5).toNat * 6)).off + 4, none⟩ = some (.int .i64 ((rd_T39 l0 x10_5).f4)) ∧ w'.cell? ⟨(ad553.add ((x10_5).toNat * 6)).block, (ad553.add ((x10_5).toNat * 6)).off + 5, none⟩ = some (.int .i64 ((rd_T39 l0 x10_5).f5)) ∧ w'.cell? (ad553.add ((x10_5).toNat * 6)) = some (.int .i64 ((rd_T39 l0 x10_5).f0)) ∧ w'.cell? ⟨(ad553.add ((x10_5).toNat * 6)).block, (ad553.add ((x10_5).toNat * 6)).off + 1, none⟩ = some (.int .i64 ((rd_T39 l0 x10_5).f1)) ∧ w'.cell? ⟨(ad553.add ((x10_5).toNat * 6)).block, (ad553.add ((x10_5).toNat * 6)).off + 2, none⟩ = some (.int .i64 ((rd_T39 l0 x10_5).f2)) ∧ w'.cell? ⟨(ad553.add ((x10_5).toNat * 6)).block, (ad553.add ((x10_5).toNat * 6)).off + 3, none⟩ = some (.int .i64 ((rd_T39 l0 x10_5).f3)) ∧ w'.cell? ⟨(ad553.add ((x10_5).toNat * 6)).block, (ad553.add ((x10_5).toNat * 6)).off + 4, none⟩ = some (.int .i64 ((rd_T39 l0 x10_5).f4)) ∧ w'.cell? ⟨(ad553.add ((x10_5).toNat * 6)).block, (ad553.add ((x10_5).toNat * 6)).off + 5, none⟩ = some (.int .i64 ((rd_T39 l0 x10_5).f5)) ∧ w'.cell? (ad555.add (((rd_T39 l0 x10_5).f2)).toNat) = some (.int .i64 (rd x5_3 ((rd_T39 l0 x10_5).f2))) ∧ w'.cell? (ad553.add ((x10_5).toNat * 6)) = some (.int .i64 ((rd_T39 l0 x10_5).f0)) ∧ w'.cell? ⟨(ad553.add ((x10_5).toNat * 6)).block, (ad553.add ((x10_5).toNat * 6)).off + 1, none⟩ = some (.int .i64 ((rd_T39 l0 x10_5).f1)) ∧ w'.cell? ⟨(ad553.add ((x10_5).toNat * 6)).block, (ad553.add ((x10_5).toNat * 6)).off + 2, none⟩ = some (.int .i64 ((rd_T39 l0 x10_5).f2)) ∧ w'.cell? ⟨(ad553.add ((x10_5).toNat * 6)).block, (ad553.add ((x10_5).toNat * 6)).off + 3, none⟩ = some (.int .i64 ((rd_T39 l0 x10_5).f3)) ∧ w'.cell? ⟨(ad553.add ((x10_5).toNat * 6)).block, (ad553.add ((x10_5).toNat * 6)).off + 4, none⟩ = some (.int .i64 ((rd_T39 l0 x10_5).f4)) ∧ w'.cell? ⟨(ad553.add ((x10_5).toNat * 6)).block, (ad553.add ((x10_5).toNat * 6)).off + 5, none⟩ = some (.int .i64 ((rd_T39 l0 x10_5).f5)) ∧ w'.cell? (ad557.add (x10_5).toNat) = some (.bool true) ∧ w'.cell? (ad553.add ((x10_5).toNat * 6)) = some (.int .i64 ((rd_T39 l0 x10_5).f0)) ∧ w'.cell? ⟨(ad553.add ((x10_5).toNat * 6)).block, (ad553.add ((x10_5).toNat * 6)).off + 1, none⟩ = some (.int .i64 ((rd_T39 l0 x10_5).f1)) ∧ w'.cell? ⟨(ad553.add ((x10_5).toNat * 6)).block, (ad553.add ((x10_5).toNat * 6)).off + 2, none⟩ = some (.int .i64 ((rd_T39 l0 x10_5).f2)) ∧ w'.cell? ⟨(ad553.add ((x10_5).toNat * 6)).block, (ad553.add ((x10_5).toNat * 6)).off + 3, none⟩ = some (.int .i64 ((rd_T39 l0 x10_5).f3)) ∧ w'.cell? ⟨(ad553.add ((x10_5).toNat * 6)).block, (ad553.add ((x10_5).toNat * 6)).off + 4, none⟩ = some (.int .i64 ((rd_T39 l0 x10_5).f4)) ∧ w'.cell? ⟨(ad553.add ((x10_5).toNat * 6)).block, (ad553.add ((x10_5).toNat * 6)).off + 5, none⟩ = some (.int .i64 ((rd_T39 l0 x10_5).f5))) (ds := []) zA14x15 (by kernel_rfl) rfl rfl ⟨(pw_cell_below HB.out hw553_0), (pw_cell_below HB.out hw553_1), (pw_cell_below HB.out hw553_2), (pw_cell_below HB.out hw553_3), (pw_cell_below HB.out hw553_4), (pw_cell_below HB.out hw553_5), (pw_cell_below HB.out hw554_0), (pw_cell_below HB.out hw554_1), (pw_cell_below HB.out hw554_2), (pw_cell_below HB.out hw554_3), (pw_cell_below HB.out hw554_4), (pw_cell_below HB.out hw554_5), hx555_0, (pw_cell_below HB.out hw556_0), (pw_cell_below HB.out hw556_1), (pw_cell_below HB.out hw556_2), (pw_cell_below HB.out hw556_3), (pw_cell_below HB.out hw556_4), (pw_cell_below HB.out hw556_5), hx557_0, (pw_cell_below HB.out hw558_0), (pw_cell_below HB.out hw558_1), (pw_cell_below HB.out hw558_2), (pw_cell_below HB.out hw558_3), (pw_cell_below HB.out hw558_4), (pw_cell_below HB.out hw558_5)⟩ (fun hHeld => ?_); refine with_tabW spec_Sentence.tab25 spec_Sentence.bits25 (fun HT_ HW_ => ?_)
                          generalize wr.drew = w65 at HO_3 HO_4 HO_5 HO_8 HB hx553_0 hx553_1 hx553_2 hx553_3 hx553_4 hx553_5 hx554_0 hx554_1 hx554_2 hx554_3 hx554_4 hx554_5 hx555_0 hx556_0 hx556_1 hx556_2 hx556_3 hx556_4 hx556_5 hx557_0 hx558_0 hx558_1 hx558_2 hx558_3 hx558_4 hx558_5 hHeld ⊢
                          refine pT (i := 0) (N := some 105) zA15x15 ?_
                          refine pT (i := 1) (N := some 106) zA16x15 ?_
                          refine pT (i := 2) (N := some 107) zA17x15 ?_
                          refine pT (i := 3) (N := some 108) zA18x15 ?_
                          refine take_ (i := 4) (N := some 109) (v := ?_) (a' := ?_) zA19x15 rfl rfl (take_ofW HT_.out HW_.out (by kernel_rfl)) (fun _ _ _ h => h) (Or.inl ⟨by rfl, ?_⟩) hHeld ?_ ?_
                          rotate_left
                          ·rintro w' ⟨s0, s1, s2, s3, s4, s5, s6, s7, s8, s9, s10, s11, s12, s13, s14, s15, s16, s17, s18, s19, s20, s21, s22, s23, s24, s25⟩
                           go_simp
                           with_reducible rfl
                          rotate_left
                          ·simp only [Act.put, List.setIfInBounds_toArray, List.set_cons_zero, List.set_cons_succ, i64_w, i32_w]
                           rfl
                          refine pT (i := 5) (N := some 110) zA20x15 ?_
                          refine pT (i := 6) (N := some 111) zA21x15 ?_
                          refine pT (i := 7) (N := some 112) zA22x15 ?_
                          refine pT (i := 8) (N := some 113) zA23x15 ?_
                          refine pT (i := 9) (N := some 114) zA24x15 ?_
                          refine pT (i := 10) (N := some 115) zA25x15 ?_
                          refine pT (i := 11) (N := some 116) zA26x15 ?_
                          refine pT (i := 15) (N := some 120) zA27x15 ?_
                          refine pT (i := 16) (N := some 121) zA28x15 ?_
                          refine pT (i := 17) (N := some 122) zA29x15 ?_
                          refine pT (i := 18) (N := some 123) zA30x15 ?_
                          refine take_ (i := 12) (N := some 117) (v := ?_) (a' := ?_) zA31x15 rfl rfl (take_ofW HT_.out HW_.out (by kernel_rfl)) (fun _ _ _ h => h) (Or.inl ⟨by rfl, ?_⟩) hHeld ?_ ?_
                          rotate_left
                          ·rintro w' ⟨s0, s1, s2, s3, s4, s5, s6, s7, s8, s9, s10, s11, s12, s13, s14, s15, s16, s17, s18, s19, s20, s21, s22, s23, s24, s25⟩
                           go_simp
                           with_reducible rfl
                          rotate_left
                          ·simp only [Act.put, List.setIfInBounds_toArray, List.set_cons_zero, List.set_cons_succ, i64_w, i32_w]
                           rfl
                          refine pT (i := 13) (N := some 118) zA32x15 ?_
                          refine take_ (i := 14) (N := some 119) (v := ?_) (a' := ?_) zA33x15 rfl rfl (take_ofW HT_.out HW_.out (by kernel_rfl)) (fun _ _ _ h => h) (Or.inl ⟨by rfl, ?_⟩) hHeld ?_ ?_
                          rotate_left
                          ·rintro w' ⟨s0, s1, s2, s3, s4, s5, s6, s7, s8, s9, s10, s11, s12, s13, s14, s15, s16, s17, s18, s19, s20, s21, s22, s23, s24, s25⟩
                           go_simp
                           with_reducible rfl
                          rotate_left
                          ·simp only [Act.put, List.setIfInBounds_toArray, List.set_cons_zero, List.set_cons_succ, i64_w, i32_w]
                           rfl
                          refine take_ (i := 19) (N := some 124) (v := ?_) (a' := ?_) zA34x15 rfl rfl (take_ofW HT_.out HW_.out (by kernel_rfl)) (fun _ _ _ h => h) (Or.inl ⟨by rfl, ?_⟩) hHeld ?_ ?_
                          rotate_left
                          ·rintro w' ⟨s0, s1, s2, s3, s4, s5, s6, s7, s8, s9, s10, s11, s12, s13, s14, s15, s16, s17, s18, s19, s20, s21, s22, s23, s24, s25⟩
                           go_simp
                           with_reducible rfl
                          rotate_left
                          ·simp only [Act.put, List.setIfInBounds_toArray, List.set_cons_zero, List.set_cons_succ, i64_w, i32_w]
                           rfl
                          refine pT (i := 20) (N := some 125) zA35x15 ?_
                          refine pT (i := 21) (N := some 126) zA36x15 ?_
                          refine pT (i := 22) (N := some 127) zA37x15 ?_
                          refine pT (i := 23) (N := some 128) zA38x15 ?_
                          refine pT (i := 24) (N := some 129) zA39x15 ?_
                          refine pT (i := 25) (N := some 130) zA40x15 ?_
                          refine take_ (i := 26) (N := some 131) (v := ?_) (a' := ?_) zA41x15 rfl rfl (take_ofW HT_.out HW_.out (by kernel_rfl)) (fun _ _ _ h => h) (Or.inl ⟨by rfl, ?_⟩) hHeld ?_ ?_
                          rotate_left
                          ·rintro w' ⟨s0, s1, s2, s3, s4, s5, s6, s7, s8, s9, s10, s11, s12, s13, s14, s15, s16, s17, s18, s19, s20, s21, s22, s23, s24, s25⟩
                           go_simp
                           with_reducible rfl
                          rotate_left
                          ·simp only [Act.put, List.setIfInBounds_toArray, List.set_cons_zero, List.set_cons_succ, i64_w, i32_w]
                           rfl
                          refine pT (i := 27) (N := some 132) zA42x15 ?_
                          refine pT (i := 28) (N := some 133) zA43x15 ?_
                          refine pT (i := 29) (N := some 134) zA44x15 ?_
                          refine pT (i := 30) (N := some 135) zA45x15 ?_
                          refine pT (i := 31) (N := some 136) zA46x15 ?_
                          refine take_ (i := 32) (N := some 137) (v := ?_) (a' := ?_) zA47x15 rfl rfl (take_ofW HT_.out HW_.out (by kernel_rfl)) (fun _ _ _ h => h) (Or.inl ⟨by rfl, ?_⟩) hHeld ?_ ?_
                          rotate_left
                          ·rintro w' ⟨s0, s1, s2, s3, s4, s5, s6, s7, s8, s9, s10, s11, s12, s13, s14, s15, s16, s17, s18, s19, s20, s21, s22, s23, s24, s25⟩
                           go_simp
                           with_reducible rfl
                          rotate_left
                          ·simp only [Act.put, List.setIfInBounds_toArray, List.set_cons_zero, List.set_cons_succ, i64_w, i32_w]
                           rfl
                          refine one_ (i := 33) (N := some 138) zA48x15 rfl rfl (one_of HT_.out (by kernel_rfl)) (by decide) (fun K hK => ?_)
                          refine goes_ Try.func61 (by kernel_rfl) rfl #[.int .i64 ((rd_T39 l0 x10_5).f0)] (by rfl) rfl rfl tm ?_
                          with_reducible refine (spec_l02Outer.calls ((rd_T39 l0 x10_5).f0) t559 _ A64.out).mono ?_
                          rintro e w' ⟨rfl, ⟨nd, rfl⟩⟩
                          refine ⟨_, rfl, ?_⟩
                          refine hK.out _ _ ⟨(pw_cell_below HB.out hw553_0), (pw_cell_below HB.out hw553_1), (pw_cell_below HB.out hw553_2), (pw_cell_below HB.out hw553_3), (pw_cell_below HB.out hw553_4), (pw_cell_below HB.out hw553_5), (pw_cell_below HB.out hw554_0), (pw_cell_below HB.out hw554_1), (pw_cell_below HB.out hw554_2), (pw_cell_below HB.out hw554_3), (pw_cell_below HB.out hw554_4), (pw_cell_below HB.out hw554_5), hHeld.2.2.2.2.2.2.2.2.2.2.2.2.1, (pw_cell_below HB.out hw556_0), (pw_cell_below HB.out hw556_1), (pw_cell_below HB.out hw556_2), (pw_cell_below HB.out hw556_3), (pw_cell_below HB.out hw556_4), (pw_cell_below HB.out hw556_5), hHeld.2.2.2.2.2.2.2.2.2.2.2.2.2.2.2.2.2.2.2.1, (pw_cell_below HB.out hw558_0), (pw_cell_below HB.out hw558_1), (pw_cell_below HB.out hw558_2), (pw_cell_below HB.out hw558_3), (pw_cell_below HB.out hw558_4), (pw_cell_below HB.out hw558_5)⟩ (fun hHeld => ?_)
                          clear hK K
                          refine norm_ (a' := ?_) ?_ ?_
                          rotate_left
                          ·show Act.put _ (some 138) _ = _
                           simp only [Act.put, List.setIfInBounds_toArray, List.set_cons_zero, List.set_cons_succ, i64_w, i32_w]
                           rfl
                          refine pT (i := 34) (N := some 139) zA49x15 ?_
                          refine pT (i := 35) (N := some 140) zA50x15 ?_
                          refine pT (i := 36) (N := some 141) zA51x15 ?_
                          refine done_ (done_of HT_.out (by kernel_rfl)) ?_
                          try go_wp2
                          go_meet
                          case rel => exact ⟨_, (!t559), (by rfl), H', ⟨by have := HJ1.out; have := HK2.out; have := HK3.out; have := HK4.out; have := HK5.out; omega⟩, ⟨by exact sR <| HO_3.out⟩, ⟨by exact sR <| HO_4.out⟩, ⟨by exact sR <| HO_5.out⟩, ⟨by exact sR <| HO_8.out⟩, ⟨by exact sW HB.out⟩⟩
                         ·replace c63 := Bool.eq_false_iff.mpr c63
                          subst c63
                          rw [if_neg (show ¬ (false = true) by decide)] at H
                          have H' := am H
                          clear H
                          try go_wp2
                          have n0_ := am (Kd.R_drew HO_3.out)
                          have n1_ := am (Kd.R_drew HO_4.out)
                          have n2_ := am (Kd.R_drew HO_5.out)
                          have n3_ := am (Kd.R_drew HO_8.out)
                          have n4_ := am (below_drew1 HB.out)
                          clear HO_3
                          clear HO_4
                          clear HO_5
                          clear HO_8
                          clear HB
                          have HO_3 := n0_
                          have HO_4 := n1_
                          have HO_5 := n2_
                          have HO_8 := n3_
                          have HB := n4_
                          clear n0_ n1_ n2_ n3_ n4_
                          have p553 : 0 ≤ (x10_5 : Int) := oD (by assumption)
                          have q553 : x10_5 < (l0.length : Int) := oD (by assumption)
                          obtain ⟨ad553, e553, hx553_0, hx553_1, hx553_2, hx553_3, hx553_4, hx553_5⟩ := at_T39 HR0.out x10_5 p553 q553
                          have hw553_5 := hx553_5
                          have hw553_4 := hx553_4
                          have hw553_3 := hx553_3
                          have hw553_2 := hx553_2
                          have hw553_1 := hx553_1
                          have hw553_0 := hx553_0
                          cases e553
                          replace hx553_0 := pw_cell_below HB.out hx553_0
                          replace hx553_1 := pw_cell_below HB.out hx553_1
                          replace hx553_2 := pw_cell_below HB.out hx553_2
                          replace hx553_3 := pw_cell_below HB.out hx553_3
                          replace hx553_4 := pw_cell_below HB.out hx553_4
                          replace hx553_5 := pw_cell_below HB.out hx553_5
                          replace p553 := eq_true p553
                          replace q553 := eq_true q553
                          have p554 : 0 ≤ (x10_5 : Int) := oD (by assumption)
                          have q554 : x10_5 < (l0.length : Int) := oD (by assumption)
                          obtain ⟨ad554, e554, hx554_0, hx554_1, hx554_2, hx554_3, hx554_4, hx554_5⟩ := at_T39 HR0.out x10_5 p554 q554
                          have hw554_5 := hx554_5
                          have hw554_4 := hx554_4
                          have hw554_3 := hx554_3
                          have hw554_2 := hx554_2
                          have hw554_1 := hx554_1
                          have hw554_0 := hx554_0
                          obtain rfl : ad553 = ad554 := (by injection e554)
                          replace hx554_0 := pw_cell_below HB.out hx554_0
                          replace hx554_1 := pw_cell_below HB.out hx554_1
                          replace hx554_2 := pw_cell_below HB.out hx554_2
                          replace hx554_3 := pw_cell_below HB.out hx554_3
                          replace hx554_4 := pw_cell_below HB.out hx554_4
                          replace hx554_5 := pw_cell_below HB.out hx554_5
                          replace p554 := eq_true p554
                          replace q554 := eq_true q554
                          obtain ⟨Ao69, co69, eo69⟩ := Kd.R_slice HO_5.out
                          (subst eo69)
                          have p555 : 0 ≤ (((rd_T39 l0 x10_5).f2) : Int) := oD (by assumption)
                          have q555 : ((rd_T39 l0 x10_5).f2) < (x5_3.length : Int) := oD (by assumption)
                          obtain ⟨ad555, e555, hx555_0⟩ := Kd.at_int (Kd.R_reads' HO_5.out).2.2 ((rd_T39 l0 x10_5).f2) p555 q555
                          cases e555
                          replace p555 := eq_true p555
                          replace q555 := eq_true q555
                          have p556 : 0 ≤ (x10_5 : Int) := oD (by assumption)
                          have q556 : x10_5 < (l0.length : Int) := oD (by assumption)
                          obtain ⟨ad556, e556, hx556_0, hx556_1, hx556_2, hx556_3, hx556_4, hx556_5⟩ := at_T39 HR0.out x10_5 p556 q556
                          have hw556_5 := hx556_5
                          have hw556_4 := hx556_4
                          have hw556_3 := hx556_3
                          have hw556_2 := hx556_2
                          have hw556_1 := hx556_1
                          have hw556_0 := hx556_0
                          obtain rfl : ad553 = ad556 := (by injection e556)
                          replace hx556_0 := pw_cell_below HB.out hx556_0
                          replace hx556_1 := pw_cell_below HB.out hx556_1
                          replace hx556_2 := pw_cell_below HB.out hx556_2
                          replace hx556_3 := pw_cell_below HB.out hx556_3
                          replace hx556_4 := pw_cell_below HB.out hx556_4
                          replace hx556_5 := pw_cell_below HB.out hx556_5
                          replace p556 := eq_true p556
                          replace q556 := eq_true q556
                          obtain ⟨Ao70, co70, eo70⟩ := Kd.R_slice HO_4.out
                          (subst eo70)
                          have p557 : 0 ≤ (x10_5 : Int) := oD (by assumption)
                          have q557 : x10_5 < (t529.length : Int) := oD (by assumption)
                          obtain ⟨ad557, e557, hx557_0⟩ := Kd.at_bool (Kd.R_reads' HO_4.out).2.2 x10_5 p557 q557
                          (try rw [← Nbq53.out] at hx557_0)
                          (try rw [← Nbq62.out] at hx557_0)
                          cases e557
                          replace p557 := eq_true p557
                          replace q557 := eq_true q557
                          refine start_ (n := 37) (S := fun w' => w'.cell? (ad553.add ((x10_5).toNat * 6)) = some (.int .i64 ((rd_T39 l0 x10_5).f0)) ∧ w'.cell? ⟨(ad553.add ((x10_5).toNat * 6)).block, (ad553.add ((x10_5).toNat * 6)).off + 1, none⟩ = some (.int .i64 ((rd_T39 l0 x10_5).f1)) ∧ w'.cell? ⟨(ad553.add ((x10_5).toNat * 6)).block, (ad553.add ((x10_5).toNat * 6)).off + 2, none⟩ = some (.int .i64 ((rd_T39 l0 x10_5).f2)) ∧ w'.cell? ⟨(ad553.add ((x10_5).toNat * 6)).block, (ad553.add ((x10_5).toNat * 6)).off + 3, none⟩ = some (.int .i64 ((rd_T39 l0 x10_5).f3)) ∧ w'.cell? ⟨(ad553.add ((x10_5).toNat * 6)).block, (ad553.add ((x10_5).toNat * 6)).off + 4, none⟩ = some (.int .i64 ((rd_T39 l0 x10_5).f4)) ∧ w'.cell? ⟨(ad553.add ((x10_5).toNat * 6)).block, (ad553.add ((x10_5).toNat * 6)).off + 5, none⟩ = some (.int .i64 ((rd_T39 l0 x10_5).f5)) ∧ w'.cell? (ad553.add ((x10_5).toNat * 6)) = some (.int .i64 ((rd_T39 l0 x10_5).f0)) ∧ w'.cell? ⟨(ad553.add ((x10_5).toNat * 6)).block, (ad553.add ((x10_5).toNat * 6)).off + 1, none⟩ = some (.int .i64 ((rd_T39 l0 x10_5).f1)) ∧ w'.cell? ⟨(ad553.add ((x10_5).toNat * 6)).block, (ad553.add ((x10_5).toNat * 6)).off + 2, none⟩ = some (.int .i64 ((rd_T39 l0 x10_5).f2)) ∧ w'.cell? ⟨(ad553.add ((x10_5).toNat * 6)).block, (ad553.add ((x10_5).toNat * 6)).off + 3, none⟩ = some (.int .i64 ((rd_T39 l0 x10_5).f3)) ∧ w'.cell? ⟨(ad553.add ((x10_5).toNat * 6)).block, (ad553.add ((x10_5).toNat * 6)).off + 4, none⟩ = some (.int .i64 ((rd_T39 l0 x10_5).f4)) ∧ w'.cell? ⟨(ad553.add ((x10_5).toNat * 6)).block, (ad553.add ((x10_5).toNat * 6)).off + 5, none⟩ = some (.int .i64 ((rd_T39 l0 x10_5).f5)) ∧ w'.cell? (ad555.add (((rd_T39 l0 x10_5).f2)).toNat) = some (.int .i64 (rd x5_3 ((rd_T39 l0 x10_5).f2))) ∧ w'.cell? (ad553.add ((x10_5).toNat * 6)) = some (.int .i64 ((rd_T39 l0 x10_5).f0)) ∧ w'.cell? ⟨(ad553.add ((x10_5).toNat * 6)).block, (ad553.add ((x10_5).toNat * 6)).off + 1, none⟩ = some (.int .i64 ((rd_T39 l0 x10_5).f1)) ∧ w'.cell? ⟨(ad553.add ((x10_5).toNat * 6)).block, (ad553.add ((x10_5).toNat * 6)).off + 2, none⟩ = some (.int .i64 ((rd_T39 l0 x10_5).f2)) ∧ w'.cell? ⟨(ad553.add ((x10_5).toNat * 6)).block, (ad553.add ((x10_5).toNat * 6)).off + 3, none⟩ = some (.int .i64 ((rd_T39 l0 x10_5).f3)) ∧ w'.cell? ⟨(ad553.add ((x10_5).toNat * 6)).block, (ad553.add ((x10_5).toNat * 6)).off + 4, none⟩ = some (.int .i64 ((rd_T39 l0 x10_5).f4)) ∧ w'.cell? ⟨(ad553.add ((x10_5).toNat * 6)).block, (ad553.add ((x10_5).toNat * 6)).off + 5, none⟩ = some (.int .i64 ((rd_T39 l0 x10_5).f5)) ∧ w'.cell? (ad557.add (x10_5).toNat) = some (.bool false)) (ds := []) zA14x15 (by kernel_rfl) rfl rfl ⟨(pw_cell_below HB.out hw553_0), (pw_cell_below HB.out hw553_1), (pw_cell_below HB.out hw553_2), (pw_cell_below HB.out hw553_3), (pw_cell_below HB.out hw553_4), (pw_cell_below HB.out hw553_5), (pw_cell_below HB.out hw554_0), (pw_cell_below HB.out hw554_1), (pw_cell_below HB.out hw554_2), (pw_cell_below HB.out hw554_3), (pw_cell_below HB.out hw554_4), (pw_cell_below HB.out hw554_5), hx555_0, (pw_cell_below HB.out hw556_0), (pw_cell_below HB.out hw556_1), (pw_cell_below HB.out hw556_2), (pw_cell_below HB.out hw556_3), (pw_cell_below HB.out hw556_4), (pw_cell_below HB.out hw556_5), hx557_0⟩ (fun hHeld => ?_); refine with_tabW spec_Sentence.tab25 spec_Sentence.bits25 (fun HT_ HW_ => ?_)
                          generalize wr.drew = w68 at HO_3 HO_4 HO_5 HO_8 HB hx553_0 hx553_1 hx553_2 hx553_3 hx553_4 hx553_5 hx554_0 hx554_1 hx554_2 hx554_3 hx554_4 hx554_5 hx555_0 hx556_0 hx556_1 hx556_2 hx556_3 hx556_4 hx556_5 hx557_0 hHeld ⊢
                          refine pT (i := 0) (N := some 105) zA15x15 ?_
                          refine pT (i := 1) (N := some 106) zA16x15 ?_
                          refine pT (i := 2) (N := some 107) zA17x15 ?_
                          refine pT (i := 3) (N := some 108) zA18x15 ?_
                          refine take_ (i := 4) (N := some 109) (v := ?_) (a' := ?_) zA19x15 rfl rfl (take_ofW HT_.out HW_.out (by kernel_rfl)) (fun _ _ _ h => h) (Or.inl ⟨by rfl, ?_⟩) hHeld ?_ ?_
                          rotate_left
                          ·rintro w' ⟨s0, s1, s2, s3, s4, s5, s6, s7, s8, s9, s10, s11, s12, s13, s14, s15, s16, s17, s18, s19⟩
                           go_simp
                           with_reducible rfl
                          rotate_left
                          ·simp only [Act.put, List.setIfInBounds_toArray, List.set_cons_zero, List.set_cons_succ, i64_w, i32_w]
                           rfl
                          refine pT (i := 5) (N := some 110) zA20x15 ?_
                          refine pT (i := 6) (N := some 111) zA21x15 ?_
                          refine pT (i := 7) (N := some 112) zA22x15 ?_
                          refine pT (i := 8) (N := some 113) zA23x15 ?_
                          refine pT (i := 9) (N := some 114) zA24x15 ?_
                          refine pT (i := 10) (N := some 115) zA25x15 ?_
                          refine pT (i := 11) (N := some 116) zA26x15 ?_
                          refine pT (i := 15) (N := some 120) zA27x15 ?_
                          refine pT (i := 16) (N := some 121) zA28x15 ?_
                          refine pT (i := 17) (N := some 122) zA29x15 ?_
                          refine pT (i := 18) (N := some 123) zA30x15 ?_
                          refine take_ (i := 12) (N := some 117) (v := ?_) (a' := ?_) zA31x15 rfl rfl (take_ofW HT_.out HW_.out (by kernel_rfl)) (fun _ _ _ h => h) (Or.inl ⟨by rfl, ?_⟩) hHeld ?_ ?_
                          rotate_left
                          ·rintro w' ⟨s0, s1, s2, s3, s4, s5, s6, s7, s8, s9, s10, s11, s12, s13, s14, s15, s16, s17, s18, s19⟩
                           go_simp
                           with_reducible rfl
                          rotate_left
                          ·simp only [Act.put, List.setIfInBounds_toArray, List.set_cons_zero, List.set_cons_succ, i64_w, i32_w]
                           rfl
                          refine pT (i := 13) (N := some 118) zA32x15 ?_
                          refine take_ (i := 14) (N := some 119) (v := ?_) (a' := ?_) zA33x15 rfl rfl (take_ofW HT_.out HW_.out (by kernel_rfl)) (fun _ _ _ h => h) (Or.inl ⟨by rfl, ?_⟩) hHeld ?_ ?_
                          rotate_left
                          ·rintro w' ⟨s0, s1, s2, s3, s4, s5, s6, s7, s8, s9, s10, s11, s12, s13, s14, s15, s16, s17, s18, s19⟩
                           go_simp
                           with_reducible rfl
                          rotate_left
                          ·simp only [Act.put, List.setIfInBounds_toArray, List.set_cons_zero, List.set_cons_succ, i64_w, i32_w]
                           rfl
                          refine take_ (i := 19) (N := some 124) (v := ?_) (a' := ?_) zA34x15 rfl rfl (take_ofW HT_.out HW_.out (by kernel_rfl)) (fun _ _ _ h => h) (Or.inl ⟨by rfl, ?_⟩) hHeld ?_ ?_
                          rotate_left
                          ·rintro w' ⟨s0, s1, s2, s3, s4, s5, s6, s7, s8, s9, s10, s11, s12, s13, s14, s15, s16, s17, s18, s19⟩
                           go_simp
                           with_reducible rfl
                          rotate_left
                          ·simp only [Act.put, List.setIfInBounds_toArray, List.set_cons_zero, List.set_cons_succ, i64_w, i32_w]
                           rfl
                          refine pT (i := 20) (N := some 125) zA35x15 ?_
                          refine pT (i := 21) (N := some 126) zA36x15 ?_
                          refine pT (i := 22) (N := some 127) zA37x15 ?_
                          refine pT (i := 23) (N := some 128) zA38x15 ?_
                          refine pT (i := 24) (N := some 129) zA39x15 ?_
                          refine pT (i := 25) (N := some 130) zA40x15 ?_
                          refine take_ (i := 26) (N := some 131) (v := ?_) (a' := ?_) zA41x15 rfl rfl (take_ofW HT_.out HW_.out (by kernel_rfl)) (fun _ _ _ h => h) (Or.inl ⟨by rfl, ?_⟩) hHeld ?_ ?_
                          rotate_left
                          ·rintro w' ⟨s0, s1, s2, s3, s4, s5, s6, s7, s8, s9, s10, s11, s12, s13, s14, s15, s16, s17, s18, s19⟩
                           go_simp
                           with_reducible rfl
                          rotate_left
                          ·simp only [Act.put, List.setIfInBounds_toArray, List.set_cons_zero, List.set_cons_succ, i64_w, i32_w]
                           rfl
                          refine pT (i := 27) (N := some 132) zA42x15 ?_
                          refine pure_ (i := 28) (N := some 133) (v := undef) (a' := ?_) zA43x15 rfl rfl (any_of HT_.out (by kernel_rfl)) (fun _ _ _ h => h) (Or.inr ⟨by rfl, rfl⟩) ?_ ?_
                          rotate_left
                          ·simp only [Act.put, List.setIfInBounds_toArray, List.set_cons_zero, List.set_cons_succ, i64_w, i32_w]
                           rfl
                          refine pure_ (i := 29) (N := some 134) (v := undef) (a' := ?_) zA44x15 rfl rfl (any_of HT_.out (by kernel_rfl)) (fun _ _ _ h => h) (Or.inr ⟨by rfl, rfl⟩) ?_ ?_
                          rotate_left
                          ·simp only [Act.put, List.setIfInBounds_toArray, List.set_cons_zero, List.set_cons_succ, i64_w, i32_w]
                           rfl
                          refine pure_ (i := 30) (N := some 135) (v := undef) (a' := ?_) zA45x15 rfl rfl (any_of HT_.out (by kernel_rfl)) (fun _ _ _ h => h) (Or.inr ⟨by rfl, rfl⟩) ?_ ?_
                          rotate_left
                          ·simp only [Act.put, List.setIfInBounds_toArray, List.set_cons_zero, List.set_cons_succ, i64_w, i32_w]
                           rfl
                          refine pure_ (i := 31) (N := some 136) (v := undef) (a' := ?_) zA46x15 rfl rfl (any_of HT_.out (by kernel_rfl)) (fun _ _ _ h => h) (Or.inr ⟨by rfl, rfl⟩) ?_ ?_
                          rotate_left
                          ·simp only [Act.put, List.setIfInBounds_toArray, List.set_cons_zero, List.set_cons_succ, i64_w, i32_w]
                           rfl
                          refine pure_ (i := 32) (N := some 137) (v := undef) (a' := ?_) zA47x15 rfl rfl (any_of HT_.out (by kernel_rfl)) (fun _ _ _ h => h) (Or.inr ⟨by rfl, rfl⟩) ?_ ?_
                          rotate_left
                          ·simp only [Act.put, List.setIfInBounds_toArray, List.set_cons_zero, List.set_cons_succ, i64_w, i32_w]
                           rfl
                          refine pure_ (i := 33) (N := some 138) (v := undef) (a' := ?_) zA48x15 rfl rfl (any_of HT_.out (by kernel_rfl)) (fun _ _ _ h => h) (Or.inr ⟨by rfl, rfl⟩) ?_ ?_
                          rotate_left
                          ·simp only [Act.put, List.setIfInBounds_toArray, List.set_cons_zero, List.set_cons_succ, i64_w, i32_w]
                           rfl
                          refine pure_ (i := 34) (N := some 139) (v := undef) (a' := ?_) zA49x15 rfl rfl (any_of HT_.out (by kernel_rfl)) (fun _ _ _ h => h) (Or.inr ⟨by rfl, rfl⟩) ?_ ?_
                          rotate_left
                          ·simp only [Act.put, List.setIfInBounds_toArray, List.set_cons_zero, List.set_cons_succ, i64_w, i32_w]
                           rfl
                          refine pT (i := 35) (N := some 140) zA50x15 ?_
                          refine pT (i := 36) (N := some 141) zA51x15 ?_
                          refine done_ (done_of HT_.out (by kernel_rfl)) ?_
                          try go_wp2
                          go_meet
                          case rel => exact ⟨_, (false), (by rfl), H', ⟨by have := HJ1.out; have := HK2.out; have := HK3.out; have := HK4.out; have := HK5.out; omega⟩, ⟨by exact sR <| HO_3.out⟩, ⟨by exact sR <| HO_4.out⟩, ⟨by exact sR <| HO_5.out⟩, ⟨by exact sR <| HO_8.out⟩, ⟨by exact sW HB.out⟩⟩
                        ·rw [if_neg c61] at H
                         exact absurd H (by simp)
                       ·rw [if_neg c60] at H
                        have c60b0 : ((rd x5_3 ((rd_T39 l0 x10_5).f2)) == ((rd_T39 l0 x10_5).f1)) = false := beq_eq_false_iff_ne.mpr c60
                        have c60b1 : ((rd x5_3 ((rd_T39 l0 x10_5).f2)) != ((rd_T39 l0 x10_5).f1)) = true := bne_iff_ne.mpr c60
                        have H' := am H
                        clear H
                        try go_wp2
                        have n0_ := am (Kd.R_drew HO_3.out)
                        have n1_ := am (Kd.R_drew HO_4.out)
                        have n2_ := am (Kd.R_drew HO_5.out)
                        have n3_ := am (Kd.R_drew HO_8.out)
                        have n4_ := am (below_drew1 HB.out)
                        clear HO_3
                        clear HO_4
                        clear HO_5
                        clear HO_8
                        clear HB
                        have HO_3 := n0_
                        have HO_4 := n1_
                        have HO_5 := n2_
                        have HO_8 := n3_
                        have HB := n4_
                        clear n0_ n1_ n2_ n3_ n4_
                        have p553 : 0 ≤ (x10_5 : Int) := oD (by assumption)
                        have q553 : x10_5 < (l0.length : Int) := oD (by assumption)
                        obtain ⟨ad553, e553, hx553_0, hx553_1, hx553_2, hx553_3, hx553_4, hx553_5⟩ := at_T39 HR0.out x10_5 p553 q553
                        have hw553_5 := hx553_5
                        have hw553_4 := hx553_4
                        have hw553_3 := hx553_3
                        have hw553_2 := hx553_2
                        have hw553_1 := hx553_1
                        have hw553_0 := hx553_0
                        cases e553
                        replace hx553_0 := pw_cell_below HB.out hx553_0
                        replace hx553_1 := pw_cell_below HB.out hx553_1
                        replace hx553_2 := pw_cell_below HB.out hx553_2
                        replace hx553_3 := pw_cell_below HB.out hx553_3
                        replace hx553_4 := pw_cell_below HB.out hx553_4
                        replace hx553_5 := pw_cell_below HB.out hx553_5
                        replace p553 := eq_true p553
                        replace q553 := eq_true q553
                        have p554 : 0 ≤ (x10_5 : Int) := oD (by assumption)
                        have q554 : x10_5 < (l0.length : Int) := oD (by assumption)
                        obtain ⟨ad554, e554, hx554_0, hx554_1, hx554_2, hx554_3, hx554_4, hx554_5⟩ := at_T39 HR0.out x10_5 p554 q554
                        have hw554_5 := hx554_5
                        have hw554_4 := hx554_4
                        have hw554_3 := hx554_3
                        have hw554_2 := hx554_2
                        have hw554_1 := hx554_1
                        have hw554_0 := hx554_0
                        obtain rfl : ad553 = ad554 := (by injection e554)
                        replace hx554_0 := pw_cell_below HB.out hx554_0
                        replace hx554_1 := pw_cell_below HB.out hx554_1
                        replace hx554_2 := pw_cell_below HB.out hx554_2
                        replace hx554_3 := pw_cell_below HB.out hx554_3
                        replace hx554_4 := pw_cell_below HB.out hx554_4
                        replace hx554_5 := pw_cell_below HB.out hx554_5
                        replace p554 := eq_true p554
                        replace q554 := eq_true q554
                        obtain ⟨Ao72, co72, eo72⟩ := Kd.R_slice HO_5.out
                        (subst eo72)
                        have p555 : 0 ≤ (((rd_T39 l0 x10_5).f2) : Int) := oD (by assumption)
                        have q555 : ((rd_T39 l0 x10_5).f2) < (x5_3.length : Int) := oD (by assumption)
                        obtain ⟨ad555, e555, hx555_0⟩ := Kd.at_int (Kd.R_reads' HO_5.out).2.2 ((rd_T39 l0 x10_5).f2) p555 q555
                        cases e555
                        replace p555 := eq_true p555
                        replace q555 := eq_true q555
                        have p556 : 0 ≤ (x10_5 : Int) := oD (by assumption)
                        have q556 : x10_5 < (l0.length : Int) := oD (by assumption)
                        obtain ⟨ad556, e556, hx556_0, hx556_1, hx556_2, hx556_3, hx556_4, hx556_5⟩ := at_T39 HR0.out x10_5 p556 q556
                        have hw556_5 := hx556_5
                        have hw556_4 := hx556_4
                        have hw556_3 := hx556_3
                        have hw556_2 := hx556_2
                        have hw556_1 := hx556_1
                        have hw556_0 := hx556_0
                        obtain rfl : ad553 = ad556 := (by injection e556)
                        replace hx556_0 := pw_cell_below HB.out hx556_0
                        replace hx556_1 := pw_cell_below HB.out hx556_1
                        replace hx556_2 := pw_cell_below HB.out hx556_2
                        replace hx556_3 := pw_cell_below HB.out hx556_3
                        replace hx556_4 := pw_cell_below HB.out hx556_4
                        replace hx556_5 := pw_cell_below HB.out hx556_5
                        replace p556 := eq_true p556
                        replace q556 := eq_true q556
                        refine start_ (n := 37) (S := fun w' => w'.cell? (ad553.add ((x10_5).toNat * 6)) = some (.int .i64 ((rd_T39 l0 x10_5).f0)) ∧ w'.cell? ⟨(ad553.add ((x10_5).toNat * 6)).block, (ad553.add ((x10_5).toNat * 6)).off + 1, none⟩ = some (.int .i64 ((rd_T39 l0 x10_5).f1)) ∧ w'.cell? ⟨(ad553.add ((x10_5).toNat * 6)).block, (ad553.add ((x10_5).toNat * 6)).off + 2, none⟩ = some (.int .i64 ((rd_T39 l0 x10_5).f2)) ∧ w'.cell? ⟨(ad553.add ((x10_5).toNat * 6)).block, (ad553.add ((x10_5).toNat * 6)).off + 3, none⟩ = some (.int .i64 ((rd_T39 l0 x10_5).f3)) ∧ w'.cell? ⟨(ad553.add ((x10_5).toNat * 6)).block, (ad553.add ((x10_5).toNat * 6)).off + 4, none⟩ = some (.int .i64 ((rd_T39 l0 x10_5).f4)) ∧ w'.cell? ⟨(ad553.add ((x10_5).toNat * 6)).block, (ad553.add ((x10_5).toNat * 6)).off + 5, none⟩ = some (.int .i64 ((rd_T39 l0 x10_5).f5)) ∧ w'.cell? (ad553.add ((x10_5).toNat * 6)) = some (.int .i64 ((rd_T39 l0 x10_5).f0)) ∧ w'.cell? ⟨(ad553.add ((x10_5).toNat * 6)).block, (ad553.add ((x10_5).toNat * 6)).off + 1, none⟩ = some (.int .i64 ((rd_T39 l0 x10_5).f1)) ∧ w'.cell? ⟨(ad553.add ((x10_5).toNat * 6)).block, (ad553.add ((x10_5).toNat * 6)).off + 2, none⟩ = some (.int .i64 ((rd_T39 l0 x10_5).f2)) ∧ w'.cell? ⟨(ad553.add ((x10_5).toNat * 6)).block, (ad553.add ((x10_5).toNat * 6)).off + 3, none⟩ = some (.int .i64 ((rd_T39 l0 x10_5).f3)) ∧ w'.cell? ⟨(ad553.add ((x10_5).toNat * 6)).block, (ad553.add ((x10_5).toNat * 6)).off + 4, none⟩ = some (.int .i64 ((rd_T39 l0 x10_5).f4)) ∧ w'.cell? ⟨(ad553.add ((x10_5).toNat * 6)).block, (ad553.add ((x10_5).toNat * 6)).off + 5, none⟩ = some (.int .i64 ((rd_T39 l0 x10_5).f5)) ∧ w'.cell? (ad555.add (((rd_T39 l0 x10_5).f2)).toNat) = some (.int .i64 (rd x5_3 ((rd_T39 l0 x10_5).f2))) ∧ w'.cell? (ad553.add ((x10_5).toNat * 6)) = some (.int .i64 ((rd_T39 l0 x10_5).f0)) ∧ w'.cell? ⟨(ad553.add ((x10_5).toNat * 6)).block, (ad553.add ((x10_5).toNat * 6)).off + 1, none⟩ = some (.int .i64 ((rd_T39 l0 x10_5).f1)) ∧ w'.cell? ⟨(ad553.add ((x10_5).toNat * 6)).block, (ad553.add ((x10_5).toNat * 6)).off + 2, none⟩ = some (.int .i64 ((rd_T39 l0 x10_5).f2)) ∧ w'.cell? ⟨(ad553.add ((x10_5).toNat * 6)).block, (ad553.add ((x10_5).toNat * 6)).off + 3, none⟩ = some (.int .i64 ((rd_T39 l0 x10_5).f3)) ∧ w'.cell? ⟨(ad553.add ((x10_5).toNat * 6)).block, (ad553.add ((x10_5).toNat * 6)).off + 4, none⟩ = some (.int .i64 ((rd_T39 l0 x10_5).f4)) ∧ w'.cell? ⟨(ad553.add ((x10_5).toNat * 6)).block, (ad553.add ((x10_5).toNat * 6)).off + 5, none⟩ = some (.int .i64 ((rd_T39 l0 x10_5).f5))) (ds := []) zA14x15 (by kernel_rfl) rfl rfl ⟨(pw_cell_below HB.out hw553_0), (pw_cell_below HB.out hw553_1), (pw_cell_below HB.out hw553_2), (pw_cell_below HB.out hw553_3), (pw_cell_below HB.out hw553_4), (pw_cell_below HB.out hw553_5), (pw_cell_below HB.out hw554_0), (pw_cell_below HB.out hw554_1), (pw_cell_below HB.out hw554_2), (pw_cell_below HB.out hw554_3), (pw_cell_below HB.out hw554_4), (pw_cell_below HB.out hw554_5), hx555_0, (pw_cell_below HB.out hw556_0), (pw_cell_below HB.out hw556_1), (pw_cell_below HB.out hw556_2), (pw_cell_below HB.out hw556_3), (pw_cell_below HB.out hw556_4), (pw_cell_below HB.out hw556_5)⟩ (fun hHeld => ?_); refine with_tabW spec_Sentence.tab25 spec_Sentence.bits25 (fun HT_ HW_ => ?_)
                        generalize wr.drew = w71 at HO_3 HO_4 HO_5 HO_8 HB hx553_0 hx553_1 hx553_2 hx553_3 hx553_4 hx553_5 hx554_0 hx554_1 hx554_2 hx554_3 hx554_4 hx554_5 hx555_0 hx556_0 hx556_1 hx556_2 hx556_3 hx556_4 hx556_5 hHeld ⊢
                        refine pT (i := 0) (N := some 105) zA15x15 ?_
                        refine pT (i := 1) (N := some 106) zA16x15 ?_
                        refine pT (i := 2) (N := some 107) zA17x15 ?_
                        refine pT (i := 3) (N := some 108) zA18x15 ?_
                        refine take_ (i := 4) (N := some 109) (v := ?_) (a' := ?_) zA19x15 rfl rfl (take_ofW HT_.out HW_.out (by kernel_rfl)) (fun _ _ _ h => h) (Or.inl ⟨by rfl, ?_⟩) hHeld ?_ ?_
                        rotate_left
                        ·rintro w' ⟨s0, s1, s2, s3, s4, s5, s6, s7, s8, s9, s10, s11, s12, s13, s14, s15, s16, s17, s18⟩
                         go_simp
                         with_reducible rfl
                        rotate_left
                        ·simp only [Act.put, List.setIfInBounds_toArray, List.set_cons_zero, List.set_cons_succ, i64_w, i32_w]
                         rfl
                        refine pT (i := 5) (N := some 110) zA20x15 ?_
                        refine pT (i := 6) (N := some 111) zA21x15 ?_
                        refine pT (i := 7) (N := some 112) zA22x15 ?_
                        refine pT (i := 8) (N := some 113) zA23x15 ?_
                        refine pT (i := 9) (N := some 114) zA24x15 ?_
                        refine pT (i := 10) (N := some 115) zA25x15 ?_
                        refine pT (i := 11) (N := some 116) zA26x15 ?_
                        refine pT (i := 15) (N := some 120) zA27x15 ?_
                        refine pT (i := 16) (N := some 121) zA28x15 ?_
                        refine pT (i := 17) (N := some 122) zA29x15 ?_
                        refine pT (i := 18) (N := some 123) zA30x15 ?_
                        refine take_ (i := 12) (N := some 117) (v := ?_) (a' := ?_) zA31x15 rfl rfl (take_ofW HT_.out HW_.out (by kernel_rfl)) (fun _ _ _ h => h) (Or.inl ⟨by rfl, ?_⟩) hHeld ?_ ?_
                        rotate_left
                        ·rintro w' ⟨s0, s1, s2, s3, s4, s5, s6, s7, s8, s9, s10, s11, s12, s13, s14, s15, s16, s17, s18⟩
                         go_simp
                         with_reducible rfl
                        rotate_left
                        ·simp only [Act.put, List.setIfInBounds_toArray, List.set_cons_zero, List.set_cons_succ, i64_w, i32_w]
                         rfl
                        refine pT (i := 13) (N := some 118) zA32x15 ?_
                        refine take_ (i := 14) (N := some 119) (v := ?_) (a' := ?_) zA33x15 rfl rfl (take_ofW HT_.out HW_.out (by kernel_rfl)) (fun _ _ _ h => h) (Or.inl ⟨by rfl, ?_⟩) hHeld ?_ ?_
                        rotate_left
                        ·rintro w' ⟨s0, s1, s2, s3, s4, s5, s6, s7, s8, s9, s10, s11, s12, s13, s14, s15, s16, s17, s18⟩
                         go_simp
                         with_reducible rfl
                        rotate_left
                        ·simp only [Act.put, List.setIfInBounds_toArray, List.set_cons_zero, List.set_cons_succ, i64_w, i32_w]
                         rfl
                        refine take_ (i := 19) (N := some 124) (v := ?_) (a' := ?_) zA34x15 rfl rfl (take_ofW HT_.out HW_.out (by kernel_rfl)) (fun _ _ _ h => h) (Or.inl ⟨by rfl, ?_⟩) hHeld ?_ ?_
                        rotate_left
                        ·rintro w' ⟨s0, s1, s2, s3, s4, s5, s6, s7, s8, s9, s10, s11, s12, s13, s14, s15, s16, s17, s18⟩
                         go_simp
                         with_reducible rfl
                        rotate_left
                        ·simp only [Act.put, List.setIfInBounds_toArray, List.set_cons_zero, List.set_cons_succ, i64_w, i32_w]
                         rfl
                        refine pT (i := 20) (N := some 125) zA35x15 ?_
                        refine pT (i := 21) (N := some 126) zA36x15 ?_
                        refine pT (i := 22) (N := some 127) zA37x15 ?_
                        refine pure_ (i := 23) (N := some 128) (v := undef) (a' := ?_) zA38x15 rfl rfl (any_of HT_.out (by kernel_rfl)) (fun _ _ _ h => h) (Or.inr ⟨by rfl, rfl⟩) ?_ ?_
                        rotate_left
                        ·simp only [Act.put, List.setIfInBounds_toArray, List.set_cons_zero, List.set_cons_succ, i64_w, i32_w]
                         rfl
                        refine pure_ (i := 24) (N := some 129) (v := undef) (a' := ?_) zA39x15 rfl rfl (any_of HT_.out (by kernel_rfl)) (fun _ _ _ h => h) (Or.inr ⟨by rfl, rfl⟩) ?_ ?_
                        rotate_left
                        ·simp only [Act.put, List.setIfInBounds_toArray, List.set_cons_zero, List.set_cons_succ, i64_w, i32_w]
                         rfl
                        refine pure_ (i := 25) (N := some 130) (v := undef) (a' := ?_) zA40x15 rfl rfl (any_of HT_.out (by kernel_rfl)) (fun _ _ _ h => h) (Or.inr ⟨by rfl, rfl⟩) ?_ ?_
                        rotate_left
                        ·simp only [Act.put, List.setIfInBounds_toArray, List.set_cons_zero, List.set_cons_succ, i64_w, i32_w]
                         rfl
                        refine pure_ (i := 26) (N := some 131) (v := undef) (a' := ?_) zA41x15 rfl rfl (any_of HT_.out (by kernel_rfl)) (fun _ _ _ h => h) (Or.inr ⟨by rfl, rfl⟩) ?_ ?_
                        rotate_left
                        ·simp only [Act.put, List.setIfInBounds_toArray, List.set_cons_zero, List.set_cons_succ, i64_w, i32_w]
                         rfl
                        refine pure_ (i := 27) (N := some 132) (v := undef) (a' := ?_) zA42x15 rfl rfl (any_of HT_.out (by kernel_rfl)) (fun _ _ _ h => h) (Or.inr ⟨by rfl, rfl⟩) ?_ ?_
                        rotate_left
                        ·simp only [Act.put, List.setIfInBounds_toArray, List.set_cons_zero, List.set_cons_succ, i64_w, i32_w]
                         rfl
                        refine pure_ (i := 28) (N := some 133) (v := undef) (a' := ?_) zA43x15 rfl rfl (any_of HT_.out (by kernel_rfl)) (fun _ _ _ h => h) (Or.inr ⟨by rfl, rfl⟩) ?_ ?_
                        rotate_left
                        ·simp only [Act.put, List.setIfInBounds_toArray, List.set_cons_zero, List.set_cons_succ, i64_w, i32_w]
                         rfl
                        refine pure_ (i := 29) (N := some 134) (v := undef) (a' := ?_) zA44x15 rfl rfl (any_of HT_.out (by kernel_rfl)) (fun _ _ _ h => h) (Or.inr ⟨by rfl, rfl⟩) ?_ ?_
                        rotate_left
                        ·simp only [Act.put, List.setIfInBounds_toArray, List.set_cons_zero, List.set_cons_succ, i64_w, i32_w]
                         rfl
                        refine pure_ (i := 30) (N := some 135) (v := undef) (a' := ?_) zA45x15 rfl rfl (any_of HT_.out (by kernel_rfl)) (fun _ _ _ h => h) (Or.inr ⟨by rfl, rfl⟩) ?_ ?_
                        rotate_left
                        ·simp only [Act.put, List.setIfInBounds_toArray, List.set_cons_zero, List.set_cons_succ, i64_w, i32_w]
                         rfl
                        refine pure_ (i := 31) (N := some 136) (v := undef) (a' := ?_) zA46x15 rfl rfl (any_of HT_.out (by kernel_rfl)) (fun _ _ _ h => h) (Or.inr ⟨by rfl, rfl⟩) ?_ ?_
                        rotate_left
                        ·simp only [Act.put, List.setIfInBounds_toArray, List.set_cons_zero, List.set_cons_succ, i64_w, i32_w]
                         rfl
                        refine pure_ (i := 32) (N := some 137) (v := undef) (a' := ?_) zA47x15 rfl rfl (any_of HT_.out (by kernel_rfl)) (fun _ _ _ h => h) (Or.inr ⟨by rfl, rfl⟩) ?_ ?_
                        rotate_left
                        ·simp only [Act.put, List.setIfInBounds_toArray, List.set_cons_zero, List.set_cons_succ, i64_w, i32_w]
                         rfl
                        refine pure_ (i := 33) (N := some 138) (v := undef) (a' := ?_) zA48x15 rfl rfl (any_of HT_.out (by kernel_rfl)) (fun _ _ _ h => h) (Or.inr ⟨by rfl, rfl⟩) ?_ ?_
                        rotate_left
                        ·simp only [Act.put, List.setIfInBounds_toArray, List.set_cons_zero, List.set_cons_succ, i64_w, i32_w]
                         rfl
                        refine pure_ (i := 34) (N := some 139) (v := undef) (a' := ?_) zA49x15 rfl rfl (any_of HT_.out (by kernel_rfl)) (fun _ _ _ h => h) (Or.inr ⟨by rfl, rfl⟩) ?_ ?_
                        rotate_left
                        ·simp only [Act.put, List.setIfInBounds_toArray, List.set_cons_zero, List.set_cons_succ, i64_w, i32_w]
                         rfl
                        refine pure_ (i := 35) (N := some 140) (v := undef) (a' := ?_) zA50x15 rfl rfl (any_of HT_.out (by kernel_rfl)) (fun _ _ _ h => h) (Or.inr ⟨by rfl, rfl⟩) ?_ ?_
                        rotate_left
                        ·simp only [Act.put, List.setIfInBounds_toArray, List.set_cons_zero, List.set_cons_succ, i64_w, i32_w]
                         rfl
                        refine pT (i := 36) (N := some 141) zA51x15 ?_
                        refine done_ (done_of HT_.out (by kernel_rfl)) ?_
                        try go_wp2
                        go_meet
                        case rel => exact ⟨_, (true), (by rfl), H', ⟨by have := HJ1.out; have := HK2.out; have := HK3.out; have := HK4.out; have := HK5.out; omega⟩, ⟨by exact sR <| HO_3.out⟩, ⟨by exact sR <| HO_4.out⟩, ⟨by exact sR <| HO_5.out⟩, ⟨by exact sR <| HO_8.out⟩, ⟨by exact sW HB.out⟩⟩
                      ·rw [if_neg c59] at H
                       exact absurd H (by simp)
                     ·rw [if_neg c58] at H
                      exact absurd H (by simp)
                    ·rw [if_neg c57] at H
                     have c57b0 : (((rd_T39 l0 x10_5).f0) == 1) = false := beq_eq_false_iff_ne.mpr c57
                     have c57b1 : (((rd_T39 l0 x10_5).f0) != 1) = true := bne_iff_ne.mpr c57
                     (skip)
                     by_cases c73 : x10_5 < (t529.length : Int)
                     ·rw [if_pos c73] at H
                      have c73b0 : decide (x10_5 < (t529.length : Int)) = true := decide_eq_true c73
                      clear c73
                      obtain ⟨bq74, hbq74⟩ : ∃ b_ : Bool, b_ = (rdOf false t529 x10_5) := ⟨_, rfl⟩
                      replace H : (if bq74 = true then ((spec_l02Outer.f ((rd_T39 l0 x10_5).f0)).bind fun t562 => (spec_Sentence.j6 k5 l0 t526 t529 x5_3 x8_5 x10_5 (!t562))) else (spec_Sentence.j6 k5 l0 t526 t529 x5_3 x8_5 x10_5 false)) = some r := by rw [← hbq74] at H; exact H
                      have Nbq74 := am hbq74
                      clear hbq74
                      by_cases c75 : bq74 = true
                      ·subst c75
                       rw [if_pos rfl] at H
                       replace H := oB H
                       obtain ⟨t562, A760, H⟩ := H
                       have A76 := am A760
                       clear A760
                       have H' := am H
                       clear H
                       try go_wp2
                       have n0_ := am (Kd.R_drew HO_3.out)
                       have n1_ := am (Kd.R_drew HO_4.out)
                       have n2_ := am (Kd.R_drew HO_5.out)
                       have n3_ := am (Kd.R_drew HO_8.out)
                       have n4_ := am (below_drew1 HB.out)
                       clear HO_3
                       clear HO_4
                       clear HO_5
                       clear HO_8
                       clear HB
                       have HO_3 := n0_
                       have HO_4 := n1_
                       have HO_5 := n2_
                       have HO_8 := n3_
                       have HB := n4_
                       clear n0_ n1_ n2_ n3_ n4_
                       have p553 : 0 ≤ (x10_5 : Int) := oD (by assumption)
                       have q553 : x10_5 < (l0.length : Int) := oD (by assumption)
                       obtain ⟨ad553, e553, hx553_0, hx553_1, hx553_2, hx553_3, hx553_4, hx553_5⟩ := at_T39 HR0.out x10_5 p553 q553
                       have hw553_5 := hx553_5
                       have hw553_4 := hx553_4
                       have hw553_3 := hx553_3
                       have hw553_2 := hx553_2
                       have hw553_1 := hx553_1
                       have hw553_0 := hx553_0
                       cases e553
                       replace hx553_0 := pw_cell_below HB.out hx553_0
                       replace hx553_1 := pw_cell_below HB.out hx553_1
                       replace hx553_2 := pw_cell_below HB.out hx553_2
                       replace hx553_3 := pw_cell_below HB.out hx553_3
                       replace hx553_4 := pw_cell_below HB.out hx553_4
                       replace hx553_5 := pw_cell_below HB.out hx553_5
                       replace p553 := eq_true p553
                       replace q553 := eq_true q553
                       obtain ⟨Ao78, co78, eo78⟩ := Kd.R_slice HO_4.out
                       (subst eo78)
                       have p560 : 0 ≤ (x10_5 : Int) := oD (by assumption)
                       have q560 : x10_5 < (t529.length : Int) := oD (by assumption)
                       obtain ⟨ad560, e560, hx560_0⟩ := Kd.at_bool (Kd.R_reads' HO_4.out).2.2 x10_5 p560 q560
                       (try rw [← Nbq53.out] at hx560_0)
                       (try rw [← Nbq74.out] at hx560_0)
                       cases e560
                       replace p560 := eq_true p560
                       replace q560 := eq_true q560
                       have p561 : 0 ≤ (x10_5 : Int) := oD (by assumption)
                       have q561 : x10_5 < (l0.length : Int) := oD (by assumption)
                       obtain ⟨ad561, e561, hx561_0, hx561_1, hx561_2, hx561_3, hx561_4, hx561_5⟩ := at_T39 HR0.out x10_5 p561 q561
                       have hw561_5 := hx561_5
                       have hw561_4 := hx561_4
                       have hw561_3 := hx561_3
                       have hw561_2 := hx561_2
                       have hw561_1 := hx561_1
                       have hw561_0 := hx561_0
                       obtain rfl : ad553 = ad561 := (by injection e561)
                       replace hx561_0 := pw_cell_below HB.out hx561_0
                       replace hx561_1 := pw_cell_below HB.out hx561_1
                       replace hx561_2 := pw_cell_below HB.out hx561_2
                       replace hx561_3 := pw_cell_below HB.out hx561_3
                       replace hx561_4 := pw_cell_below HB.out hx561_4
                       replace hx561_5 := pw_cell_below HB.out hx561_5
                       replace p561 := eq_true p561
                       replace q561 := eq_true q561
                       refine start_ (n := 37) (S := fun w' => w'.cell? (ad553.add ((x10_5).toNat * 6)) = some (.int .i64 ((rd_T39 l0 x10_5).f0)) ∧ w'.cell? ⟨(ad553.add ((x10_5).toNat * 6)).block, (ad553.add ((x10_5).toNat * 6)).off + 1, none⟩ = some (.int .i64 ((rd_T39 l0 x10_5).f1)) ∧ w'.cell? ⟨(ad553.add ((x10_5).toNat * 6)).block, (ad553.add ((x10_5).toNat * 6)).off + 2, none⟩ = some (.int .i64 ((rd_T39 l0 x10_5).f2)) ∧ w'.cell? ⟨(ad553.add ((x10_5).toNat * 6)).block, (ad553.add ((x10_5).toNat * 6)).off + 3, none⟩ = some (.int .i64 ((rd_T39 l0 x10_5).f3)) ∧ w'.cell? ⟨(ad553.add ((x10_5).toNat * 6)).block, (ad553.add ((x10_5).toNat * 6)).off + 4, none⟩ = some (.int .i64 ((rd_T39 l0 x10_5).f4)) ∧ w'.cell? ⟨(ad553.add ((x10_5).toNat * 6)).block, (ad553.add ((x10_5).toNat * 6)).off + 5, none⟩ = some (.int .i64 ((rd_T39 l0 x10_5).f5)) ∧ w'.cell? (ad560.add (x10_5).toNat) = some (.bool true) ∧ w'.cell? (ad553.add ((x10_5).toNat * 6)) = some (.int .i64 ((rd_T39 l0 x10_5).f0)) ∧ w'.cell? ⟨(ad553.add ((x10_5).toNat * 6)).block, (ad553.add ((x10_5).toNat * 6)).off + 1, none⟩ = some (.int .i64 ((rd_T39 l0 x10_5).f1)) ∧ w'.cell? ⟨(ad553.add ((x10_5).toNat * 6)).block, (ad553.add ((x10_5).toNat * 6)).off + 2, none⟩ = some (.int .i64 ((rd_T39 l0 x10_5).f2)) ∧ w'.cell? ⟨(ad553.add ((x10_5).toNat * 6)).block, (ad553.add ((x10_5).toNat * 6)).off + 3, none⟩ = some (.int .i64 ((rd_T39 l0 x10_5).f3)) ∧ w'.cell? ⟨(ad553.add ((x10_5).toNat * 6)).block, (ad553.add ((x10_5).toNat * 6)).off + 4, none⟩ = some (.int .i64 ((rd_T39 l0 x10_5).f4)) ∧ w'.cell? ⟨(ad553.add ((x10_5).toNat * 6)).block, (ad553.add ((x10_5).toNat * 6)).off + 5, none⟩ = some (.int .i64 ((rd_T39 l0 x10_5).f5))) (ds := []) zA14x15 (by kernel_rfl) rfl rfl ⟨(pw_cell_below HB.out hw553_0), (pw_cell_below HB.out hw553_1), (pw_cell_below HB.out hw553_2), (pw_cell_below HB.out hw553_3), (pw_cell_below HB.out hw553_4), (pw_cell_below HB.out hw553_5), hx560_0, (pw_cell_below HB.out hw561_0), (pw_cell_below HB.out hw561_1), (pw_cell_below HB.out hw561_2), (pw_cell_below HB.out hw561_3), (pw_cell_below HB.out hw561_4), (pw_cell_below HB.out hw561_5)⟩ (fun hHeld => ?_); refine with_tabW spec_Sentence.tab25 spec_Sentence.bits25 (fun HT_ HW_ => ?_)
                       generalize wr.drew = w77 at HO_3 HO_4 HO_5 HO_8 HB hx553_0 hx553_1 hx553_2 hx553_3 hx553_4 hx553_5 hx560_0 hx561_0 hx561_1 hx561_2 hx561_3 hx561_4 hx561_5 hHeld ⊢
                       refine pT (i := 0) (N := some 105) zA15x15 ?_
                       refine pT (i := 1) (N := some 106) zA16x15 ?_
                       refine pT (i := 2) (N := some 107) zA17x15 ?_
                       refine pT (i := 3) (N := some 108) zA18x15 ?_
                       refine take_ (i := 4) (N := some 109) (v := ?_) (a' := ?_) zA19x15 rfl rfl (take_ofW HT_.out HW_.out (by kernel_rfl)) (fun _ _ _ h => h) (Or.inl ⟨by rfl, ?_⟩) hHeld ?_ ?_
                       rotate_left
                       ·rintro w' ⟨s0, s1, s2, s3, s4, s5, s6, s7, s8, s9, s10, s11, s12⟩
                        go_simp
                        with_reducible rfl
                       rotate_left
                       ·simp only [Act.put, List.setIfInBounds_toArray, List.set_cons_zero, List.set_cons_succ, i64_w, i32_w]
                        rfl
                       refine pT (i := 5) (N := some 110) zA20x15 ?_
                       refine pT (i := 6) (N := some 111) zA21x15 ?_
                       refine pure_ (i := 7) (N := some 112) (v := undef) (a' := ?_) zA22x15 rfl rfl (any_of HT_.out (by kernel_rfl)) (fun _ _ _ h => h) (Or.inr ⟨by rfl, rfl⟩) ?_ ?_
                       rotate_left
                       ·simp only [Act.put, List.setIfInBounds_toArray, List.set_cons_zero, List.set_cons_succ, i64_w, i32_w]
                        rfl
                       refine pure_ (i := 8) (N := some 113) (v := undef) (a' := ?_) zA23x15 rfl rfl (any_of HT_.out (by kernel_rfl)) (fun _ _ _ h => h) (Or.inr ⟨by rfl, rfl⟩) ?_ ?_
                       rotate_left
                       ·simp only [Act.put, List.setIfInBounds_toArray, List.set_cons_zero, List.set_cons_succ, i64_w, i32_w]
                        rfl
                       refine pure_ (i := 9) (N := some 114) (v := undef) (a' := ?_) zA24x15 rfl rfl (any_of HT_.out (by kernel_rfl)) (fun _ _ _ h => h) (Or.inr ⟨by rfl, rfl⟩) ?_ ?_
                       rotate_left
                       ·simp only [Act.put, List.setIfInBounds_toArray, List.set_cons_zero, List.set_cons_succ, i64_w, i32_w]
                        rfl
                       refine pure_ (i := 10) (N := some 115) (v := undef) (a' := ?_) zA25x15 rfl rfl (any_of HT_.out (by kernel_rfl)) (fun _ _ _ h => h) (Or.inr ⟨by rfl, rfl⟩) ?_ ?_
                       rotate_left
                       ·simp only [Act.put, List.setIfInBounds_toArray, List.set_cons_zero, List.set_cons_succ, i64_w, i32_w]
                        rfl
                       refine pure_ (i := 11) (N := some 116) (v := undef) (a' := ?_) zA26x15 rfl rfl (any_of HT_.out (by kernel_rfl)) (fun _ _ _ h => h) (Or.inr ⟨by rfl, rfl⟩) ?_ ?_
                       rotate_left
                       ·simp only [Act.put, List.setIfInBounds_toArray, List.set_cons_zero, List.set_cons_succ, i64_w, i32_w]
                        rfl
                       refine pure_ (i := 12) (N := some 117) (v := undef) (a' := ?_) zA52x15 rfl rfl (any_of HT_.out (by kernel_rfl)) (fun _ _ _ h => h) (Or.inr ⟨by rfl, rfl⟩) ?_ ?_
                       rotate_left
                       ·simp only [Act.put, List.setIfInBounds_toArray, List.set_cons_zero, List.set_cons_succ, i64_w, i32_w]
                        rfl
                       refine pure_ (i := 13) (N := some 118) (v := undef) (a' := ?_) zA53x15 rfl rfl (any_of HT_.out (by kernel_rfl)) (fun _ _ _ h => h) (Or.inr ⟨by rfl, rfl⟩) ?_ ?_
                       rotate_left
                       ·simp only [Act.put, List.setIfInBounds_toArray, List.set_cons_zero, List.set_cons_succ, i64_w, i32_w]
                        rfl
                       refine pure_ (i := 14) (N := some 119) (v := undef) (a' := ?_) zA54x15 rfl rfl (any_of HT_.out (by kernel_rfl)) (fun _ _ _ h => h) (Or.inr ⟨by rfl, rfl⟩) ?_ ?_
                       rotate_left
                       ·simp only [Act.put, List.setIfInBounds_toArray, List.set_cons_zero, List.set_cons_succ, i64_w, i32_w]
                        rfl
                       refine pure_ (i := 15) (N := some 120) (v := undef) (a' := ?_) zA55x15 rfl rfl (any_of HT_.out (by kernel_rfl)) (fun _ _ _ h => h) (Or.inr ⟨by rfl, rfl⟩) ?_ ?_
                       rotate_left
                       ·simp only [Act.put, List.setIfInBounds_toArray, List.set_cons_zero, List.set_cons_succ, i64_w, i32_w]
                        rfl
                       refine pure_ (i := 16) (N := some 121) (v := undef) (a' := ?_) zA56x15 rfl rfl (any_of HT_.out (by kernel_rfl)) (fun _ _ _ h => h) (Or.inr ⟨by rfl, rfl⟩) ?_ ?_
                       rotate_left
                       ·simp only [Act.put, List.setIfInBounds_toArray, List.set_cons_zero, List.set_cons_succ, i64_w, i32_w]
                        rfl
                       refine pure_ (i := 17) (N := some 122) (v := undef) (a' := ?_) zA57x15 rfl rfl (any_of HT_.out (by kernel_rfl)) (fun _ _ _ h => h) (Or.inr ⟨by rfl, rfl⟩) ?_ ?_
                       rotate_left
                       ·simp only [Act.put, List.setIfInBounds_toArray, List.set_cons_zero, List.set_cons_succ, i64_w, i32_w]
                        rfl
                       refine pure_ (i := 18) (N := some 123) (v := undef) (a' := ?_) zA33x15 rfl rfl (any_of HT_.out (by kernel_rfl)) (fun _ _ _ h => h) (Or.inr ⟨by rfl, rfl⟩) ?_ ?_
                       rotate_left
                       ·simp only [Act.put, List.setIfInBounds_toArray, List.set_cons_zero, List.set_cons_succ, i64_w, i32_w]
                        rfl
                       refine pure_ (i := 19) (N := some 124) (v := undef) (a' := ?_) zA34x15 rfl rfl (any_of HT_.out (by kernel_rfl)) (fun _ _ _ h => h) (Or.inr ⟨by rfl, rfl⟩) ?_ ?_
                       rotate_left
                       ·simp only [Act.put, List.setIfInBounds_toArray, List.set_cons_zero, List.set_cons_succ, i64_w, i32_w]
                        rfl
                       refine pure_ (i := 20) (N := some 125) (v := undef) (a' := ?_) zA35x15 rfl rfl (any_of HT_.out (by kernel_rfl)) (fun _ _ _ h => h) (Or.inr ⟨by rfl, rfl⟩) ?_ ?_
                       rotate_left
                       ·simp only [Act.put, List.setIfInBounds_toArray, List.set_cons_zero, List.set_cons_succ, i64_w, i32_w]
                        rfl
                       refine pT (i := 21) (N := some 126) zA36x15 ?_
                       refine pT (i := 22) (N := some 127) zA37x15 ?_
                       refine pT (i := 23) (N := some 128) zA38x15 ?_
                       refine pT (i := 24) (N := some 129) zA39x15 ?_
                       refine pT (i := 25) (N := some 130) zA40x15 ?_
                       refine take_ (i := 26) (N := some 131) (v := ?_) (a' := ?_) zA41x15 rfl rfl (take_ofW HT_.out HW_.out (by kernel_rfl)) (fun _ _ _ h => h) (Or.inl ⟨by rfl, ?_⟩) hHeld ?_ ?_
                       rotate_left
                       ·rintro w' ⟨s0, s1, s2, s3, s4, s5, s6, s7, s8, s9, s10, s11, s12⟩
                        go_simp
                        with_reducible rfl
                       rotate_left
                       ·simp only [Act.put, List.setIfInBounds_toArray, List.set_cons_zero, List.set_cons_succ, i64_w, i32_w]
                        rfl
                       refine pT (i := 27) (N := some 132) zA42x15 ?_
                       refine pT (i := 28) (N := some 133) zA43x15 ?_
                       refine pT (i := 29) (N := some 134) zA44x15 ?_
                       refine pT (i := 30) (N := some 135) zA45x15 ?_
                       refine pT (i := 31) (N := some 136) zA46x15 ?_
                       refine take_ (i := 32) (N := some 137) (v := ?_) (a' := ?_) zA47x15 rfl rfl (take_ofW HT_.out HW_.out (by kernel_rfl)) (fun _ _ _ h => h) (Or.inl ⟨by rfl, ?_⟩) hHeld ?_ ?_
                       rotate_left
                       ·rintro w' ⟨s0, s1, s2, s3, s4, s5, s6, s7, s8, s9, s10, s11, s12⟩
                        go_simp
                        with_reducible rfl
                       rotate_left
                       ·simp only [Act.put, List.setIfInBounds_toArray, List.set_cons_zero, List.set_cons_succ, i64_w, i32_w]
                        rfl
                       refine one_ (i := 33) (N := some 138) zA48x15 rfl rfl (one_of HT_.out (by kernel_rfl)) (by decide) (fun K hK => ?_)
                       refine goes_ Try.func61 (by kernel_rfl) rfl #[.int .i64 ((rd_T39 l0 x10_5).f0)] (by rfl) rfl rfl tm ?_
                       with_reducible refine (spec_l02Outer.calls ((rd_T39 l0 x10_5).f0) t562 _ A76.out).mono ?_
                       rintro e w' ⟨rfl, ⟨nd, rfl⟩⟩
                       refine ⟨_, rfl, ?_⟩
                       refine hK.out _ _ ⟨(pw_cell_below HB.out hw553_0), (pw_cell_below HB.out hw553_1), (pw_cell_below HB.out hw553_2), (pw_cell_below HB.out hw553_3), (pw_cell_below HB.out hw553_4), (pw_cell_below HB.out hw553_5), hHeld.2.2.2.2.2.2.1, (pw_cell_below HB.out hw561_0), (pw_cell_below HB.out hw561_1), (pw_cell_below HB.out hw561_2), (pw_cell_below HB.out hw561_3), (pw_cell_below HB.out hw561_4), (pw_cell_below HB.out hw561_5)⟩ (fun hHeld => ?_)
                       clear hK K
                       refine norm_ (a' := ?_) ?_ ?_
                       rotate_left
                       ·show Act.put _ (some 138) _ = _
                        simp only [Act.put, List.setIfInBounds_toArray, List.set_cons_zero, List.set_cons_succ, i64_w, i32_w]
                        rfl
                       refine pT (i := 34) (N := some 139) zA49x15 ?_
                       refine pT (i := 35) (N := some 140) zA50x15 ?_
                       refine pT (i := 36) (N := some 141) zA51x15 ?_
                       refine done_ (done_of HT_.out (by kernel_rfl)) ?_
                       try go_wp2
                       go_meet
                       case rel => exact ⟨_, (!t562), (by rfl), H', ⟨by have := HJ1.out; have := HK2.out; have := HK3.out; have := HK4.out; have := HK5.out; omega⟩, ⟨by exact sR <| HO_3.out⟩, ⟨by exact sR <| HO_4.out⟩, ⟨by exact sR <| HO_5.out⟩, ⟨by exact sR <| HO_8.out⟩, ⟨by exact sW HB.out⟩⟩
                      ·replace c75 := Bool.eq_false_iff.mpr c75
                       subst c75
                       rw [if_neg (show ¬ (false = true) by decide)] at H
                       have H' := am H
                       clear H
                       try go_wp2
                       have n0_ := am (Kd.R_drew HO_3.out)
                       have n1_ := am (Kd.R_drew HO_4.out)
                       have n2_ := am (Kd.R_drew HO_5.out)
                       have n3_ := am (Kd.R_drew HO_8.out)
                       have n4_ := am (below_drew1 HB.out)
                       clear HO_3
                       clear HO_4
                       clear HO_5
                       clear HO_8
                       clear HB
                       have HO_3 := n0_
                       have HO_4 := n1_
                       have HO_5 := n2_
                       have HO_8 := n3_
                       have HB := n4_
                       clear n0_ n1_ n2_ n3_ n4_
                       have p553 : 0 ≤ (x10_5 : Int) := oD (by assumption)
                       have q553 : x10_5 < (l0.length : Int) := oD (by assumption)
                       obtain ⟨ad553, e553, hx553_0, hx553_1, hx553_2, hx553_3, hx553_4, hx553_5⟩ := at_T39 HR0.out x10_5 p553 q553
                       have hw553_5 := hx553_5
                       have hw553_4 := hx553_4
                       have hw553_3 := hx553_3
                       have hw553_2 := hx553_2
                       have hw553_1 := hx553_1
                       have hw553_0 := hx553_0
                       cases e553
                       replace hx553_0 := pw_cell_below HB.out hx553_0
                       replace hx553_1 := pw_cell_below HB.out hx553_1
                       replace hx553_2 := pw_cell_below HB.out hx553_2
                       replace hx553_3 := pw_cell_below HB.out hx553_3
                       replace hx553_4 := pw_cell_below HB.out hx553_4
                       replace hx553_5 := pw_cell_below HB.out hx553_5
                       replace p553 := eq_true p553
                       replace q553 := eq_true q553
                       obtain ⟨Ao80, co80, eo80⟩ := Kd.R_slice HO_4.out
                       (subst eo80)
                       have p560 : 0 ≤ (x10_5 : Int) := oD (by assumption)
                       have q560 : x10_5 < (t529.length : Int) := oD (by assumption)
                       obtain ⟨ad560, e560, hx560_0⟩ := Kd.at_bool (Kd.R_reads' HO_4.out).2.2 x10_5 p560 q560
                       (try rw [← Nbq53.out] at hx560_0)
                       (try rw [← Nbq74.out] at hx560_0)
                       cases e560
                       replace p560 := eq_true p560
                       replace q560 := eq_true q560
                       refine start_ (n := 37) (S := fun w' => w'.cell? (ad553.add ((x10_5).toNat * 6)) = some (.int .i64 ((rd_T39 l0 x10_5).f0)) ∧ w'.cell? ⟨(ad553.add ((x10_5).toNat * 6)).block, (ad553.add ((x10_5).toNat * 6)).off + 1, none⟩ = some (.int .i64 ((rd_T39 l0 x10_5).f1)) ∧ w'.cell? ⟨(ad553.add ((x10_5).toNat * 6)).block, (ad553.add ((x10_5).toNat * 6)).off + 2, none⟩ = some (.int .i64 ((rd_T39 l0 x10_5).f2)) ∧ w'.cell? ⟨(ad553.add ((x10_5).toNat * 6)).block, (ad553.add ((x10_5).toNat * 6)).off + 3, none⟩ = some (.int .i64 ((rd_T39 l0 x10_5).f3)) ∧ w'.cell? ⟨(ad553.add ((x10_5).toNat * 6)).block, (ad553.add ((x10_5).toNat * 6)).off + 4, none⟩ = some (.int .i64 ((rd_T39 l0 x10_5).f4)) ∧ w'.cell? ⟨(ad553.add ((x10_5).toNat * 6)).block, (ad553.add ((x10_5).toNat * 6)).off + 5, none⟩ = some (.int .i64 ((rd_T39 l0 x10_5).f5)) ∧ w'.cell? (ad560.add (x10_5).toNat) = some (.bool false)) (ds := []) zA14x15 (by kernel_rfl) rfl rfl ⟨(pw_cell_below HB.out hw553_0), (pw_cell_below HB.out hw553_1), (pw_cell_below HB.out hw553_2), (pw_cell_below HB.out hw553_3), (pw_cell_below HB.out hw553_4), (pw_cell_below HB.out hw553_5), hx560_0⟩ (fun hHeld => ?_); refine with_tabW spec_Sentence.tab25 spec_Sentence.bits25 (fun HT_ HW_ => ?_)
                       generalize wr.drew = w79 at HO_3 HO_4 HO_5 HO_8 HB hx553_0 hx553_1 hx553_2 hx553_3 hx553_4 hx553_5 hx560_0 hHeld ⊢
                       refine pT (i := 0) (N := some 105) zA15x15 ?_
                       refine pT (i := 1) (N := some 106) zA16x15 ?_
                       refine pT (i := 2) (N := some 107) zA17x15 ?_
                       refine pT (i := 3) (N := some 108) zA18x15 ?_
                       refine take_ (i := 4) (N := some 109) (v := ?_) (a' := ?_) zA19x15 rfl rfl (take_ofW HT_.out HW_.out (by kernel_rfl)) (fun _ _ _ h => h) (Or.inl ⟨by rfl, ?_⟩) hHeld ?_ ?_
                       rotate_left
                       ·rintro w' ⟨s0, s1, s2, s3, s4, s5, s6⟩
                        go_simp
                        with_reducible rfl
                       rotate_left
                       ·simp only [Act.put, List.setIfInBounds_toArray, List.set_cons_zero, List.set_cons_succ, i64_w, i32_w]
                        rfl
                       refine pT (i := 5) (N := some 110) zA20x15 ?_
                       refine pT (i := 6) (N := some 111) zA21x15 ?_
                       refine pure_ (i := 7) (N := some 112) (v := undef) (a' := ?_) zA22x15 rfl rfl (any_of HT_.out (by kernel_rfl)) (fun _ _ _ h => h) (Or.inr ⟨by rfl, rfl⟩) ?_ ?_
                       rotate_left
                       ·simp only [Act.put, List.setIfInBounds_toArray, List.set_cons_zero, List.set_cons_succ, i64_w, i32_w]
                        rfl
                       refine pure_ (i := 8) (N := some 113) (v := undef) (a' := ?_) zA23x15 rfl rfl (any_of HT_.out (by kernel_rfl)) (fun _ _ _ h => h) (Or.inr ⟨by rfl, rfl⟩) ?_ ?_
                       rotate_left
                       ·simp only [Act.put, List.setIfInBounds_toArray, List.set_cons_zero, List.set_cons_succ, i64_w, i32_w]
                        rfl
                       refine pure_ (i := 9) (N := some 114) (v := undef) (a' := ?_) zA24x15 rfl rfl (any_of HT_.out (by kernel_rfl)) (fun _ _ _ h => h) (Or.inr ⟨by rfl, rfl⟩) ?_ ?_
                       rotate_left
                       ·simp only [Act.put, List.setIfInBounds_toArray, List.set_cons_zero, List.set_cons_succ, i64_w, i32_w]
                        rfl
                       refine pure_ (i := 10) (N := some 115) (v := undef) (a' := ?_) zA25x15 rfl rfl (any_of HT_.out (by kernel_rfl)) (fun _ _ _ h => h) (Or.inr ⟨by rfl, rfl⟩) ?_ ?_
                       rotate_left
                       ·simp only [Act.put, List.setIfInBounds_toArray, List.set_cons_zero, List.set_cons_succ, i64_w, i32_w]
                        rfl
                       refine pure_ (i := 11) (N := some 116) (v := undef) (a' := ?_) zA26x15 rfl rfl (any_of HT_.out (by kernel_rfl)) (fun _ _ _ h => h) (Or.inr ⟨by rfl, rfl⟩) ?_ ?_
                       rotate_left
                       ·simp only [Act.put, List.setIfInBounds_toArray, List.set_cons_zero, List.set_cons_succ, i64_w, i32_w]
                        rfl
                       refine pure_ (i := 12) (N := some 117) (v := undef) (a' := ?_) zA52x15 rfl rfl (any_of HT_.out (by kernel_rfl)) (fun _ _ _ h => h) (Or.inr ⟨by rfl, rfl⟩) ?_ ?_
                       rotate_left
                       ·simp only [Act.put, List.setIfInBounds_toArray, List.set_cons_zero, List.set_cons_succ, i64_w, i32_w]
                        rfl
                       refine pure_ (i := 13) (N := some 118) (v := undef) (a' := ?_) zA53x15 rfl rfl (any_of HT_.out (by kernel_rfl)) (fun _ _ _ h => h) (Or.inr ⟨by rfl, rfl⟩) ?_ ?_
                       rotate_left
                       ·simp only [Act.put, List.setIfInBounds_toArray, List.set_cons_zero, List.set_cons_succ, i64_w, i32_w]
                        rfl
                       refine pure_ (i := 14) (N := some 119) (v := undef) (a' := ?_) zA54x15 rfl rfl (any_of HT_.out (by kernel_rfl)) (fun _ _ _ h => h) (Or.inr ⟨by rfl, rfl⟩) ?_ ?_
                       rotate_left
                       ·simp only [Act.put, List.setIfInBounds_toArray, List.set_cons_zero, List.set_cons_succ, i64_w, i32_w]
                        rfl
                       refine pure_ (i := 15) (N := some 120) (v := undef) (a' := ?_) zA55x15 rfl rfl (any_of HT_.out (by kernel_rfl)) (fun _ _ _ h => h) (Or.inr ⟨by rfl, rfl⟩) ?_ ?_
                       rotate_left
                       ·simp only [Act.put, List.setIfInBounds_toArray, List.set_cons_zero, List.set_cons_succ, i64_w, i32_w]
                        rfl
                       refine pure_ (i := 16) (N := some 121) (v := undef) (a' := ?_) zA56x15 rfl rfl (any_of HT_.out (by kernel_rfl)) (fun _ _ _ h => h) (Or.inr ⟨by rfl, rfl⟩) ?_ ?_
                       rotate_left
                       ·simp only [Act.put, List.setIfInBounds_toArray, List.set_cons_zero, List.set_cons_succ, i64_w, i32_w]
                        rfl
                       refine pure_ (i := 17) (N := some 122) (v := undef) (a' := ?_) zA57x15 rfl rfl (any_of HT_.out (by kernel_rfl)) (fun _ _ _ h => h) (Or.inr ⟨by rfl, rfl⟩) ?_ ?_
                       rotate_left
                       ·simp only [Act.put, List.setIfInBounds_toArray, List.set_cons_zero, List.set_cons_succ, i64_w, i32_w]
                        rfl
                       refine pure_ (i := 18) (N := some 123) (v := undef) (a' := ?_) zA33x15 rfl rfl (any_of HT_.out (by kernel_rfl)) (fun _ _ _ h => h) (Or.inr ⟨by rfl, rfl⟩) ?_ ?_
                       rotate_left
                       ·simp only [Act.put, List.setIfInBounds_toArray, List.set_cons_zero, List.set_cons_succ, i64_w, i32_w]
                        rfl
                       refine pure_ (i := 19) (N := some 124) (v := undef) (a' := ?_) zA34x15 rfl rfl (any_of HT_.out (by kernel_rfl)) (fun _ _ _ h => h) (Or.inr ⟨by rfl, rfl⟩) ?_ ?_
                       rotate_left
                       ·simp only [Act.put, List.setIfInBounds_toArray, List.set_cons_zero, List.set_cons_succ, i64_w, i32_w]
                        rfl
                       refine pure_ (i := 20) (N := some 125) (v := undef) (a' := ?_) zA35x15 rfl rfl (any_of HT_.out (by kernel_rfl)) (fun _ _ _ h => h) (Or.inr ⟨by rfl, rfl⟩) ?_ ?_
                       rotate_left
                       ·simp only [Act.put, List.setIfInBounds_toArray, List.set_cons_zero, List.set_cons_succ, i64_w, i32_w]
                        rfl
                       refine pT (i := 21) (N := some 126) zA36x15 ?_
                       refine pT (i := 22) (N := some 127) zA37x15 ?_
                       refine pT (i := 23) (N := some 128) zA38x15 ?_
                       refine pT (i := 24) (N := some 129) zA39x15 ?_
                       refine pT (i := 25) (N := some 130) zA40x15 ?_
                       refine take_ (i := 26) (N := some 131) (v := ?_) (a' := ?_) zA41x15 rfl rfl (take_ofW HT_.out HW_.out (by kernel_rfl)) (fun _ _ _ h => h) (Or.inl ⟨by rfl, ?_⟩) hHeld ?_ ?_
                       rotate_left
                       ·rintro w' ⟨s0, s1, s2, s3, s4, s5, s6⟩
                        go_simp
                        with_reducible rfl
                       rotate_left
                       ·simp only [Act.put, List.setIfInBounds_toArray, List.set_cons_zero, List.set_cons_succ, i64_w, i32_w]
                        rfl
                       refine pT (i := 27) (N := some 132) zA42x15 ?_
                       refine pure_ (i := 28) (N := some 133) (v := undef) (a' := ?_) zA43x15 rfl rfl (any_of HT_.out (by kernel_rfl)) (fun _ _ _ h => h) (Or.inr ⟨by rfl, rfl⟩) ?_ ?_
                       rotate_left
                       ·simp only [Act.put, List.setIfInBounds_toArray, List.set_cons_zero, List.set_cons_succ, i64_w, i32_w]
                        rfl
                       refine pure_ (i := 29) (N := some 134) (v := undef) (a' := ?_) zA44x15 rfl rfl (any_of HT_.out (by kernel_rfl)) (fun _ _ _ h => h) (Or.inr ⟨by rfl, rfl⟩) ?_ ?_
                       rotate_left
                       ·simp only [Act.put, List.setIfInBounds_toArray, List.set_cons_zero, List.set_cons_succ, i64_w, i32_w]
                        rfl
                       refine pure_ (i := 30) (N := some 135) (v := undef) (a' := ?_) zA45x15 rfl rfl (any_of HT_.out (by kernel_rfl)) (fun _ _ _ h => h) (Or.inr ⟨by rfl, rfl⟩) ?_ ?_
                       rotate_left
                       ·simp only [Act.put, List.setIfInBounds_toArray, List.set_cons_zero, List.set_cons_succ, i64_w, i32_w]
                        rfl
                       refine pure_ (i := 31) (N := some 136) (v := undef) (a' := ?_) zA46x15 rfl rfl (any_of HT_.out (by kernel_rfl)) (fun _ _ _ h => h) (Or.inr ⟨by rfl, rfl⟩) ?_ ?_
                       rotate_left
                       ·simp only [Act.put, List.setIfInBounds_toArray, List.set_cons_zero, List.set_cons_succ, i64_w, i32_w]
                        rfl
                       refine pure_ (i := 32) (N := some 137) (v := undef) (a' := ?_) zA47x15 rfl rfl (any_of HT_.out (by kernel_rfl)) (fun _ _ _ h => h) (Or.inr ⟨by rfl, rfl⟩) ?_ ?_
                       rotate_left
                       ·simp only [Act.put, List.setIfInBounds_toArray, List.set_cons_zero, List.set_cons_succ, i64_w, i32_w]
                        rfl
                       refine pure_ (i := 33) (N := some 138) (v := undef) (a' := ?_) zA48x15 rfl rfl (any_of HT_.out (by kernel_rfl)) (fun _ _ _ h => h) (Or.inr ⟨by rfl, rfl⟩) ?_ ?_
                       rotate_left
                       ·simp only [Act.put, List.setIfInBounds_toArray, List.set_cons_zero, List.set_cons_succ, i64_w, i32_w]
                        rfl
                       refine pure_ (i := 34) (N := some 139) (v := undef) (a' := ?_) zA49x15 rfl rfl (any_of HT_.out (by kernel_rfl)) (fun _ _ _ h => h) (Or.inr ⟨by rfl, rfl⟩) ?_ ?_
                       rotate_left
                       ·simp only [Act.put, List.setIfInBounds_toArray, List.set_cons_zero, List.set_cons_succ, i64_w, i32_w]
                        rfl
                       refine pT (i := 35) (N := some 140) zA50x15 ?_
                       refine pT (i := 36) (N := some 141) zA51x15 ?_
                       refine done_ (done_of HT_.out (by kernel_rfl)) ?_
                       try go_wp2
                       go_meet
                       case rel => exact ⟨_, (false), (by rfl), H', ⟨by have := HJ1.out; have := HK2.out; have := HK3.out; have := HK4.out; have := HK5.out; omega⟩, ⟨by exact sR <| HO_3.out⟩, ⟨by exact sR <| HO_4.out⟩, ⟨by exact sR <| HO_5.out⟩, ⟨by exact sR <| HO_8.out⟩, ⟨by exact sW HB.out⟩⟩
                     ·rw [if_neg c73] at H
                      exact absurd H (by simp)
                   case rest => as_aux_lemma =>
                    clear HC55
                    obtain ⟨kq, x141_54, rfl, HA, HJ54, HO_3, HO_4, HO_5, HO_8, HB⟩ := hcut
                    cases kq with
                    | zero => exact absurd HA.out (by simp [spec_Sentence.j6])
                    | succ kj54 =>
                     have H := HA.out
                     clear HA
                     simp only [spec_Sentence.j6] at H
                     by_cases c81 : x141_54 = true
                     ·subst c81
                      rw [if_pos rfl] at H
                      obtain rfl := oI H
                      go_wp2
                      go_ret
                      exact ⟨by rfl, by exact sW HB.out⟩
                     ·replace c81 := Bool.eq_false_iff.mpr c81
                      subst c81
                      rw [if_neg (show ¬ (false = true) by decide)] at H
                      by_cases c82 : 0 ≤ x10_5
                      ·rw [if_pos c82] at H
                       have c82b0 : decide (0 ≤ x10_5) = true := decide_eq_true c82
                       clear c82
                       by_cases c83 : x10_5 < (l0.length : Int)
                       ·rw [if_pos c83] at H
                        have c83b0 : decide (x10_5 < (l0.length : Int)) = true := decide_eq_true c83
                        clear c83
                        replace H := oB H
                        obtain ⟨t564, A840, H⟩ := H
                        have A84 := am A840
                        clear A840
                        have H' := am H
                        clear H
                        have p563 : 0 ≤ (x10_5 : Int) := oD (by assumption)
                        have q563 : x10_5 < (l0.length : Int) := oD (by assumption)
                        obtain ⟨ad563, e563, hx563_0, hx563_1, hx563_2, hx563_3, hx563_4, hx563_5⟩ := at_T39 HR0.out x10_5 p563 q563
                        cases e563
                        replace hx563_0 := pw_cell_below HB.out hx563_0
                        replace hx563_1 := pw_cell_below HB.out hx563_1
                        replace hx563_2 := pw_cell_below HB.out hx563_2
                        replace hx563_3 := pw_cell_below HB.out hx563_3
                        replace hx563_4 := pw_cell_below HB.out hx563_4
                        replace hx563_5 := pw_cell_below HB.out hx563_5
                        replace p563 := eq_true p563
                        replace q563 := eq_true q563
                        go_wp2_with (first | ((with_reducible refine gate_callee (f := 37) rfl ?_); refine goesL_ (some 146) rfl rfl Try.func37 (by kernel_rfl) rfl #[.agg #[.int .i64 ((rd_T39 l0 x10_5).f0), .int .i64 ((rd_T39 l0 x10_5).f1), .int .i64 ((rd_T39 l0 x10_5).f2), .int .i64 ((rd_T39 l0 x10_5).f3), .int .i64 ((rd_T39 l0 x10_5).f4), .int .i64 ((rd_T39 l0 x10_5).f5)]] rfl tm ?_; (with_reducible refine (spec_Parts.calls kj54 ((rd_T39 l0 x10_5).f0) ((rd_T39 l0 x10_5).f1) ((rd_T39 l0 x10_5).f2) ((rd_T39 l0 x10_5).f3) ((rd_T39 l0 x10_5).f4) ((rd_T39 l0 x10_5).f5) t564 _ A84.out).mono ?_); rintro e w85 ⟨v565, rfl, ho0, hb⟩; refine ⟨_, rfl, ?_⟩; have n0_ := am (Kd.R_below (by exact sR <| HO_3.out) hb); have n1_ := am (Kd.R_below (by exact sR <| HO_4.out) hb); have n2_ := am (Kd.R_elder' (by exact sR <| HO_5.out) (Kd.R_base ho0) hb); have n3_ := am (Kd.R_elder' (by exact sR <| HO_8.out) (Kd.R_base ho0) hb); have n4_ := am (Kd.R_lower (Kd.R_new' (Kd.R_new' ho0 (Kd.R_lt (by exact sR <| HO_5.out))) (Kd.R_lt (by exact sR <| HO_8.out))) (below_size (by exact sW HB.out))); have n5_ := am (below_step (by exact sW HB.out) hb); clear HO_3; clear HO_4; clear HO_5; clear HO_8; clear HB; have HO_3 := n0_; have HO_4 := n1_; have HO_5 := n2_; have HO_8 := n3_; have HO566 := n4_; have HB := n5_; clear n0_ n1_ n2_ n3_ n4_ n5_; (try clear hb); (try clear hb2); (try clear hk); (try clear hi); (try clear ho0)))
                        go_loopg [12] kj54 (fun kq v12 w' => ∃ (x8_7 : List Int) (x12_7 : Int), v12 = .int .i64 x12_7 ∧ Aside0 (spec_Sentence.l4 kq l0 t526 t529 x5_3 x8_7 x10_5 t564 x12_7 = some r) ∧ Aside0 (kq ≤ kj54) ∧ Aside0 (Kd.R Kd.bool 4 w' w.heap.size (fun k_ => some k_ ≠ (v530 : Value).ownBlock) (.slice (some ad552) t526.length co56) t526) ∧ Aside0 (Kd.R Kd.bool 4 w' w.heap.size (fun k_ => some k_ ≠ ((.slice (some ad552) t526.length co56) : Value).ownBlock) v530 t529) ∧ Aside0 (Kd.R (Kd.int .i64) 3 w' w.heap.size (fun k_ => some k_ ≠ (u8 : Value).ownBlock ∧ some k_ ≠ (v565 : Value).ownBlock) u5 x5_3) ∧ Aside0 (Kd.R (Kd.int .i64) 3 w' w.heap.size (fun k_ => some k_ ≠ (u5 : Value).ownBlock ∧ some k_ ≠ (v565 : Value).ownBlock) u8 x8_7) ∧ Aside0 (Kd.R (Kd.int .i64) 3 w' w.heap.size (fun k_ => some k_ ≠ (u5 : Value).ownBlock ∧ some k_ ≠ (u8 : Value).ownBlock) v565 t564) ∧ Aside0 (Below w.heap.size w w'))
                        case atStart => exact ⟨(x8_5), (0), (by rfl), H', ⟨Nat.le_refl _⟩, ⟨by exact sR <| HO_3.out⟩, ⟨by exact sR <| HO_4.out⟩, ⟨by exact sR <| HO_5.out⟩, ⟨by exact sR <| HO_8.out⟩, ⟨by exact sR <| Kd.R_mono HO566.out (fun _ hk => ⟨hk.1.2, hk.2⟩)⟩, ⟨by exact sW HB.out⟩⟩
                        case round => as_aux_lemma =>
                         clear H'
                         clear c82b0 c83b0 hx563_0 hx563_1 hx563_2 hx563_3 hx563_4 hx563_5 p563 q563
                         obtain ⟨x8_7, x12_7, rfl, HA, HK7, HO_3, HO_4, HO_5, HO_8, HO_11, HB⟩ := hrel
                         cases gk with
                         | zero => exact absurd HA.out (by simp [spec_Sentence.l4])
                         | succ k7 =>
                          have H := HA.out
                          clear HA
                          simp only [spec_Sentence.l4] at H
                          by_cases c86 : x12_7 < (t564.length : Int)
                          ·rw [if_pos c86] at H
                           have c86b0 : decide (x12_7 < (t564.length : Int)) = true := decide_eq_true c86
                           clear c86
                           by_cases c87 : 0 ≤ x12_7
                           ·rw [if_pos c87] at H
                            have c87b0 : decide (0 ≤ x12_7) = true := decide_eq_true c87
                            clear c87
                            by_cases c88 : 0 ≤ (rd t564 x12_7)
                            ·rw [if_pos c88] at H
                             have c88b0 : decide (0 ≤ (rd t564 x12_7)) = true := decide_eq_true c88
                             clear c88
                             by_cases c89 : (rd t564 x12_7) < (x8_7.length : Int)
                             ·rw [if_pos c89] at H
                              have c89b0 : decide ((rd t564 x12_7) < (x8_7.length : Int)) = true := decide_eq_true c89
                              clear c89
                              obtain ⟨y570, hy570⟩ : ∃ y_ : List Int, y_ = (x8_7.set ((rd t564 x12_7) : Int).toNat (wrap64 ((rd x8_7 (rd t564 x12_7)) + 1))) := ⟨_, rfl⟩
                              replace H : (spec_Sentence.l4 k7 l0 t526 t529 x5_3 y570 x10_5 t564 (wrap64 (x12_7 + 1))) = some r := by (rw [hy570]; with_reducible exact H)
                              have Ny570 := am hy570
                              clear hy570
                              have H' := am H
                              clear H
                              obtain ⟨Ao91, co91, eo91⟩ := Kd.R_slice HO_11.out
                              subst eo91
                              try go_wp2
                              have n0_ := am (Kd.R_drew HO_3.out)
                              have n1_ := am (Kd.R_drew HO_4.out)
                              have n2_ := am (Kd.R_drew HO_5.out)
                              have n3_ := am (Kd.R_drew HO_8.out)
                              have n4_ := am (Kd.R_drew HO_11.out)
                              have n5_ := am (below_drew1 HB.out)
                              clear HO_3
                              clear HO_4
                              clear HO_5
                              clear HO_8
                              clear HO_11
                              clear HB
                              have HO_3 := n0_
                              have HO_4 := n1_
                              have HO_5 := n2_
                              have HO_8 := n3_
                              have HO_11 := n4_
                              have HB := n5_
                              clear n0_ n1_ n2_ n3_ n4_ n5_
                              have p567 : 0 ≤ (x12_7 : Int) := oD (by assumption)
                              have q567 : x12_7 < (t564.length : Int) := oD (by assumption)
                              obtain ⟨ad567, e567, hx567_0⟩ := Kd.at_int (Kd.R_reads' HO_11.out).2.2 x12_7 p567 q567
                              cases e567
                              replace p567 := eq_true p567
                              replace q567 := eq_true q567
                              have p568 : 0 ≤ (x12_7 : Int) := oD (by assumption)
                              have q568 : x12_7 < (t564.length : Int) := oD (by assumption)
                              obtain ⟨ad568, e568, hx568_0⟩ := Kd.at_int (Kd.R_reads' HO_11.out).2.2 x12_7 p568 q568
                              obtain rfl : ad567 = ad568 := (by injection e568)
                              replace p568 := eq_true p568
                              replace q568 := eq_true q568
                              obtain ⟨Ao93, co93, eo93⟩ := Kd.R_slice HO_8.out
                              (subst eo93)
                              have p569 : 0 ≤ ((rd t564 x12_7) : Int) := oD (by assumption)
                              have q569 : (rd t564 x12_7) < (x8_7.length : Int) := oD (by assumption)
                              obtain ⟨ad569, e569, hx569_0⟩ := Kd.at_int (Kd.R_reads' HO_8.out).2.2 (rd t564 x12_7) p569 q569
                              cases e569
                              replace p569 := eq_true p569
                              replace q569 := eq_true q569
                              have p90 : 0 ≤ ((rd t564 x12_7) : Int) := oD (by assumption)
                              have q90 : ((rd t564 x12_7) : Int) < ((x8_7.length : Int) : Int) := oD (by assumption)
                              obtain ⟨go90, co90, eo90, gb90, gl90, cl90, HG90⟩ := Kd.R_form HO_8.out (by omega)
                              (cases eo90)
                              have GB90 := am gb90
                              have GG90 := am HG90
                              clear gb90 gl90 HG90
                              (simp only [add_plain] at hx569_0)
                              obtain ⟨hx90_0, hf90_0⟩ := Kd.R_celln 0 HO_8.out ((rd t564 x12_7) : Int) p90 q90
                              replace p90 := eq_true p90
                              replace q90 := eq_true q90
                              have HP94 := Kd.R_putn HO_8.out ((rd t564 x12_7) : Int) (wrap64 ((rd x8_7 (rd t564 x12_7)) + 1))
                              rw [← Ny570.out] at HP94
                              have HQ94 := am HP94
                              clear HP94
                              refine start_ (n := 15) (S := fun w' => w'.cell? (ad567.add (x12_7).toNat) = some (.int .i64 (rd t564 x12_7)) ∧ w'.cell? (ad567.add (x12_7).toNat) = some (.int .i64 (rd t564 x12_7)) ∧ w'.cell? ⟨go90, ((rd t564 x12_7)).toNat, none⟩ = some (.int .i64 (rd x8_7 (rd t564 x12_7)))) (ds := [14]) zA58x15 (by kernel_rfl) rfl rfl ⟨hx567_0, hx568_0, hx569_0⟩ (fun hHeld => ?_); refine with_tabW spec_Sentence.tab31 spec_Sentence.bits31 (fun HT_ HW_ => ?_)
                              generalize wr.drew = w92 at HO_3 HO_4 HO_5 HO_8 HO_11 HB GG90 HQ94 hf90_0 hx567_0 hx568_0 hx569_0 hx90_0 hHeld ⊢
                              refine pT (i := 0) (N := some 153) zA59x15 ?_
                              refine pT (i := 1) (N := some 154) zA60x15 ?_
                              refine pT (i := 2) (N := some 155) zA61x15 ?_
                              refine pT (i := 3) (N := some 156) zA62x15 ?_
                              refine pT (i := 5) (N := some 158) zA63x15 ?_
                              refine pT (i := 6) (N := some 159) zA64x15 ?_
                              refine pT (i := 7) (N := some 160) zA65x15 ?_
                              refine pT (i := 8) (N := some 161) zA66x15 ?_
                              refine take_ (i := 4) (N := some 157) (v := ?_) (a' := ?_) zA67x15 rfl rfl (take_ofW HT_.out HW_.out (by kernel_rfl)) (fun _ _ _ h => h) (Or.inl ⟨by rfl, ?_⟩) hHeld ?_ ?_
                              rotate_left
                              ·rintro w' ⟨s0, s1, s2⟩
                               go_simp
                               with_reducible rfl
                              rotate_left
                              ·simp only [Act.put, List.setIfInBounds_toArray, List.set_cons_zero, List.set_cons_succ, i64_w, i32_w]
                               rfl
                              refine take_ (i := 9) (N := some 162) (v := ?_) (a' := ?_) zA68x15 rfl rfl (take_ofW HT_.out HW_.out (by kernel_rfl)) (fun _ _ _ h => h) (Or.inl ⟨by rfl, ?_⟩) hHeld ?_ ?_
                              rotate_left
                              ·rintro w' ⟨s0, s1, s2⟩
                               go_simp
                               with_reducible rfl
                              rotate_left
                              ·simp only [Act.put, List.setIfInBounds_toArray, List.set_cons_zero, List.set_cons_succ, i64_w, i32_w]
                               rfl
                              refine pT (i := 10) (N := some 163) zA69x15 ?_
                              refine take_ (i := 11) (N := some 164) (v := ?_) (a' := ?_) zA70x15 rfl rfl (take_ofW HT_.out HW_.out (by kernel_rfl)) (fun _ _ _ h => h) (Or.inl ⟨by rfl, ?_⟩) hHeld ?_ ?_
                              rotate_left
                              ·rintro w' ⟨s0, s1, s2⟩
                               go_simp
                               with_reducible rfl
                              rotate_left
                              ·simp only [Act.put, List.setIfInBounds_toArray, List.set_cons_zero, List.set_cons_succ, i64_w, i32_w]
                               rfl
                              refine pT (i := 12) (N := some 165) zA71x15 ?_
                              refine pT (i := 13) (N := some 166) zA72x15 ?_
                              refine last_ (i := 14) (N := none) zA73x15 rfl rfl (one_of HT_.out (by kernel_rfl)) (by decide) (fun K hK => ?_)
                              refine skip_ (w1 := ?_) (by rfl) rfl ?_ ?_
                              rotate_left
                              ·go_simp
                               rfl
                              refine hK.out _ _ ?_
                              clear hK K
                              refine done_ (done_of HT_.out (by kernel_rfl)) ?_
                              try go_wp2
                              go_roundg k7
                              case measure => have := HJ1.out; have := HK2.out; have := HK3.out; have := HK4.out; have := HK5.out; have := HJ54.out; have := HK7.out; omega
                              case rel => exact ⟨(y570), (wrap64 (x12_7 + 1)), (by rfl), H', ⟨by have := HJ1.out; have := HK2.out; have := HK3.out; have := HK4.out; have := HK5.out; have := HJ54.out; have := HK7.out; omega⟩, ⟨by exact sR <| Kd.R_mono (Kd.R_far (p := ⟨go90, ((rd t564 x12_7) : Int).toNat, none⟩) (Kd.R_types HO_3.out GG90.out (by decide)) (fun _ hk => hk.2) (.int .i64 (wrap64 ((rd x8_7 (rd t564 x12_7)) + 1)))) (fun _ hk => hk.1)⟩, ⟨by exact sR <| Kd.R_mono (Kd.R_far (p := ⟨go90, ((rd t564 x12_7) : Int).toNat, none⟩) (Kd.R_types HO_4.out GG90.out (by decide)) (fun _ hk => hk.2) (.int .i64 (wrap64 ((rd x8_7 (rd t564 x12_7)) + 1)))) (fun _ hk => hk.1)⟩, ⟨by exact sR <| Kd.R_mono (Kd.R_far (p := ⟨go90, ((rd t564 x12_7) : Int).toNat, none⟩) (Kd.R_mono HO_5.out (fun k_ hk => (⟨hk, fun e_ => hk.1 (by rw [e_]; rfl)⟩ : _ ∧ k_ ≠ go90))) (fun _ hk => hk.2) (.int .i64 (wrap64 ((rd x8_7 (rd t564 x12_7)) + 1)))) (fun _ hk => ⟨hk.1.1, hk.1.2⟩)⟩, ⟨by exact sR <| HQ94.out⟩, ⟨by exact sR <| Kd.R_mono (Kd.R_far (p := ⟨go90, ((rd t564 x12_7) : Int).toNat, none⟩) (Kd.R_mono HO_11.out (fun k_ hk => (⟨hk, fun e_ => hk.2 (by rw [e_]; rfl)⟩ : _ ∧ k_ ≠ go90))) (fun _ hk => hk.2) (.int .i64 (wrap64 ((rd x8_7 (rd t564 x12_7)) + 1)))) (fun _ hk => ⟨hk.1.1, hk.1.2⟩)⟩, ⟨by exact bW⟩⟩
                             ·rw [if_neg c89] at H
                              exact absurd H (by simp)
                            ·rw [if_neg c88] at H
                             exact absurd H (by simp)
                           ·rw [if_neg c87] at H
                            exact absurd H (by simp)
                          ·rw [if_neg c86] at H
                           have c86b0 : decide (x12_7 < (t564.length : Int)) = false := decide_eq_false c86
                           clear c86
                           have H' := am H
                           clear H
                           obtain ⟨Ao95, co95, eo95⟩ := Kd.R_slice HO_11.out
                           subst eo95
                           go_wp2
                           go_roundg k7
                           case measure => have := HJ1.out; have := HK2.out; have := HK3.out; have := HK4.out; have := HK5.out; have := HJ54.out; have := HK7.out; omega
                           case rel => exact ⟨(x8_7), (wrap64 (x10_5 + 1)), (by rfl), H', ⟨by have := HJ1.out; have := HK2.out; have := HK3.out; have := HK4.out; have := HK5.out; have := HJ54.out; have := HK7.out; omega⟩, ⟨by exact sR <| HO_3.out⟩, ⟨by exact sR <| HO_4.out⟩, ⟨by exact sR <| Kd.R_mono HO_5.out (fun _ hk => hk.1)⟩, ⟨by exact sR <| Kd.R_mono HO_8.out (fun _ hk => hk.1)⟩, ⟨by exact sW HB.out⟩⟩
                       ·rw [if_neg c83] at H
                        exact absurd H (by simp)
                      ·rw [if_neg c82] at H
                       exact absurd H (by simp)
                  ·replace c54 := Bool.eq_false_iff.mpr c54
                   subst c54
                   rw [if_neg (show ¬ (false = true) by decide)] at H
                   have H' := am H
                   clear H
                   obtain ⟨Ao96, co96, eo96⟩ := Kd.R_slice HO_3.out
                   subst eo96
                   have p552 : 0 ≤ (x10_5 : Int) := oD (by assumption)
                   have q552 : x10_5 < (t526.length : Int) := oD (by assumption)
                   obtain ⟨ad552, e552, hx552_0⟩ := Kd.at_bool (Kd.R_reads' HO_3.out).2.2 x10_5 p552 q552
                   (try rw [← Nbq53.out] at hx552_0)
                   cases e552
                   replace p552 := eq_true p552
                   replace q552 := eq_true q552
                   go_wp2
                   go_roundg k5
                   case measure => have := HJ1.out; have := HK2.out; have := HK3.out; have := HK4.out; have := HK5.out; omega
                   case rel => exact ⟨(x8_5), (wrap64 (x10_5 + 1)), (by rfl), H', ⟨by have := HJ1.out; have := HK2.out; have := HK3.out; have := HK4.out; have := HK5.out; omega⟩, ⟨by exact sR <| HO_3.out⟩, ⟨by exact sR <| HO_4.out⟩, ⟨by exact sR <| HO_5.out⟩, ⟨by exact sR <| HO_8.out⟩, ⟨by exact sW HB.out⟩⟩
                 ·rw [if_neg c52] at H
                  exact absurd H (by simp)
                ·rw [if_neg c51] at H
                 exact absurd H (by simp)
               ·rw [if_neg c50] at H
                have c50b0 : decide (x10_5 < (l0.length : Int)) = false := decide_eq_false c50
                clear c50
                have H' := am H
                clear H
                go_wp2
                go_loopg [13] k5 (fun kq v13 w' => ∃ (x13_6 : Int), v13 = .int .i64 x13_6 ∧ Aside0 (spec_Sentence.l5 kq l0 t526 t529 x8_5 x13_6 = some r) ∧ Aside0 (kq ≤ k5) ∧ Aside0 (Kd.R Kd.bool 4 w' w.heap.size (fun k_ => some k_ ≠ (v530 : Value).ownBlock) v527 t526) ∧ Aside0 (Kd.R Kd.bool 4 w' w.heap.size (fun k_ => some k_ ≠ (v527 : Value).ownBlock) v530 t529) ∧ Aside0 (Kd.R (Kd.int .i64) 3 w' w.heap.size (fun _ => True) u8 x8_5) ∧ Aside0 (Below w.heap.size w w'))
                case atStart => exact ⟨(0), (by rfl), H', ⟨Nat.le_refl _⟩, ⟨by exact sR <| HO_3.out⟩, ⟨by exact sR <| HO_4.out⟩, ⟨by exact sR <| Kd.R_mono HO_8.out (fun _ hk => trivial)⟩, ⟨by exact sW HB.out⟩⟩
                case round => as_aux_lemma =>
                 clear H'
                 clear c50b0
                 obtain ⟨x13_6, rfl, HA, HK6, HO_3, HO_4, HO_8, HB⟩ := hrel
                 cases gk with
                 | zero => exact absurd HA.out (by simp [spec_Sentence.l5])
                 | succ k6 =>
                  have H := HA.out
                  clear HA
                  simp only [spec_Sentence.l5] at H
                  by_cases c97 : x13_6 < (l0.length : Int)
                  ·rw [if_pos c97] at H
                   have c97b0 : decide (x13_6 < (l0.length : Int)) = true := decide_eq_true c97
                   clear c97
                   by_cases c98 : 0 ≤ x13_6
                   ·rw [if_pos c98] at H
                    have c98b0 : decide (0 ≤ x13_6) = true := decide_eq_true c98
                    clear c98
                    by_cases c99 : x13_6 < (t526.length : Int)
                    ·rw [if_pos c99] at H
                     have c99b0 : decide (x13_6 < (t526.length : Int)) = true := decide_eq_true c99
                     clear c99
                     obtain ⟨bq100, hbq100⟩ : ∃ b_ : Bool, b_ = (rdOf false t526 x13_6) := ⟨_, rfl⟩
                     replace H : (if bq100 = true then (if x13_6 < (t529.length : Int) then (if rdOf false t529 x13_6 = true then (if x13_6 < (x8_5.length : Int) then (if (rd x8_5 x13_6) > 1 then (some false) else (spec_Sentence.l5 k6 l0 t526 t529 x8_5 (wrap64 (x13_6 + 1)))) else (none)) else (spec_Sentence.l5 k6 l0 t526 t529 x8_5 (wrap64 (x13_6 + 1)))) else (none)) else (spec_Sentence.l5 k6 l0 t526 t529 x8_5 (wrap64 (x13_6 + 1)))) = some r := by rw [← hbq100] at H; exact H
                     have Nbq100 := am hbq100
                     clear hbq100
                     by_cases c101 : bq100 = true
                     ·subst c101
                      rw [if_pos rfl] at H
                      by_cases c102 : x13_6 < (t529.length : Int)
                      ·rw [if_pos c102] at H
                       have c102b0 : decide (x13_6 < (t529.length : Int)) = true := decide_eq_true c102
                       clear c102
                       obtain ⟨bq103, hbq103⟩ : ∃ b_ : Bool, b_ = (rdOf false t529 x13_6) := ⟨_, rfl⟩
                       replace H : (if bq103 = true then (if x13_6 < (x8_5.length : Int) then (if (rd x8_5 x13_6) > 1 then (some false) else (spec_Sentence.l5 k6 l0 t526 t529 x8_5 (wrap64 (x13_6 + 1)))) else (none)) else (spec_Sentence.l5 k6 l0 t526 t529 x8_5 (wrap64 (x13_6 + 1)))) = some r := by rw [← hbq103] at H; exact H
                       have Nbq103 := am hbq103
                       clear hbq103
                       by_cases c104 : bq103 = true
                       ·subst c104
                        rw [if_pos rfl] at H
                        by_cases c105 : x13_6 < (x8_5.length : Int)
                        ·rw [if_pos c105] at H
                         have c105b0 : decide (x13_6 < (x8_5.length : Int)) = true := decide_eq_true c105
                         clear c105
                         by_cases c106 : (rd x8_5 x13_6) > 1
                         ·rw [if_pos c106] at H
                          have c106b0 : decide (1 < (rd x8_5 x13_6)) = true := decide_eq_true c106
                          clear c106
                          obtain rfl := oI H
                          obtain ⟨Ao107, co107, eo107⟩ := Kd.R_slice HO_3.out
                          subst eo107
                          have p571 : 0 ≤ (x13_6 : Int) := oD (by assumption)
                          have q571 : x13_6 < (t526.length : Int) := oD (by assumption)
                          obtain ⟨ad571, e571, hx571_0⟩ := Kd.at_bool (Kd.R_reads' HO_3.out).2.2 x13_6 p571 q571
                          (try rw [← Nbq100.out] at hx571_0)
                          (try rw [← Nbq103.out] at hx571_0)
                          cases e571
                          replace p571 := eq_true p571
                          replace q571 := eq_true q571
                          obtain ⟨Ao108, co108, eo108⟩ := Kd.R_slice HO_4.out
                          subst eo108
                          have p572 : 0 ≤ (x13_6 : Int) := oD (by assumption)
                          have q572 : x13_6 < (t529.length : Int) := oD (by assumption)
                          obtain ⟨ad572, e572, hx572_0⟩ := Kd.at_bool (Kd.R_reads' HO_4.out).2.2 x13_6 p572 q572
                          (try rw [← Nbq100.out] at hx572_0)
                          (try rw [← Nbq103.out] at hx572_0)
                          cases e572
                          replace p572 := eq_true p572
                          replace q572 := eq_true q572
                          obtain ⟨Ao109, co109, eo109⟩ := Kd.R_slice HO_8.out
                          subst eo109
                          have p573 : 0 ≤ (x13_6 : Int) := oD (by assumption)
                          have q573 : x13_6 < (x8_5.length : Int) := oD (by assumption)
                          obtain ⟨ad573, e573, hx573_0⟩ := Kd.at_int (Kd.R_reads' HO_8.out).2.2 x13_6 p573 q573
                          cases e573
                          replace p573 := eq_true p573
                          replace q573 := eq_true q573
                          go_wp2
                          go_ret
                          exact ⟨by rfl, by exact sW HB.out⟩
                         ·rw [if_neg c106] at H
                          have c106b0 : decide (1 < (rd x8_5 x13_6)) = false := decide_eq_false c106
                          clear c106
                          have H' := am H
                          clear H
                          obtain ⟨Ao110, co110, eo110⟩ := Kd.R_slice HO_3.out
                          subst eo110
                          have p571 : 0 ≤ (x13_6 : Int) := oD (by assumption)
                          have q571 : x13_6 < (t526.length : Int) := oD (by assumption)
                          obtain ⟨ad571, e571, hx571_0⟩ := Kd.at_bool (Kd.R_reads' HO_3.out).2.2 x13_6 p571 q571
                          (try rw [← Nbq100.out] at hx571_0)
                          (try rw [← Nbq103.out] at hx571_0)
                          cases e571
                          replace p571 := eq_true p571
                          replace q571 := eq_true q571
                          obtain ⟨Ao111, co111, eo111⟩ := Kd.R_slice HO_4.out
                          subst eo111
                          have p572 : 0 ≤ (x13_6 : Int) := oD (by assumption)
                          have q572 : x13_6 < (t529.length : Int) := oD (by assumption)
                          obtain ⟨ad572, e572, hx572_0⟩ := Kd.at_bool (Kd.R_reads' HO_4.out).2.2 x13_6 p572 q572
                          (try rw [← Nbq100.out] at hx572_0)
                          (try rw [← Nbq103.out] at hx572_0)
                          cases e572
                          replace p572 := eq_true p572
                          replace q572 := eq_true q572
                          obtain ⟨Ao112, co112, eo112⟩ := Kd.R_slice HO_8.out
                          subst eo112
                          have p573 : 0 ≤ (x13_6 : Int) := oD (by assumption)
                          have q573 : x13_6 < (x8_5.length : Int) := oD (by assumption)
                          obtain ⟨ad573, e573, hx573_0⟩ := Kd.at_int (Kd.R_reads' HO_8.out).2.2 x13_6 p573 q573
                          cases e573
                          replace p573 := eq_true p573
                          replace q573 := eq_true q573
                          go_wp2
                          go_roundg k6
                          case measure => have := HJ1.out; have := HK2.out; have := HK3.out; have := HK4.out; have := HK5.out; have := HK6.out; omega
                          case rel => exact ⟨(wrap64 (x13_6 + 1)), (by rfl), H', ⟨by have := HJ1.out; have := HK2.out; have := HK3.out; have := HK4.out; have := HK5.out; have := HK6.out; omega⟩, ⟨by exact sR <| HO_3.out⟩, ⟨by exact sR <| HO_4.out⟩, ⟨by exact sR <| HO_8.out⟩, ⟨by exact sW HB.out⟩⟩
                        ·rw [if_neg c105] at H
                         exact absurd H (by simp)
                       ·replace c104 := Bool.eq_false_iff.mpr c104
                        subst c104
                        rw [if_neg (show ¬ (false = true) by decide)] at H
                        have H' := am H
                        clear H
                        obtain ⟨Ao113, co113, eo113⟩ := Kd.R_slice HO_3.out
                        subst eo113
                        have p571 : 0 ≤ (x13_6 : Int) := oD (by assumption)
                        have q571 : x13_6 < (t526.length : Int) := oD (by assumption)
                        obtain ⟨ad571, e571, hx571_0⟩ := Kd.at_bool (Kd.R_reads' HO_3.out).2.2 x13_6 p571 q571
                        (try rw [← Nbq100.out] at hx571_0)
                        (try rw [← Nbq103.out] at hx571_0)
                        cases e571
                        replace p571 := eq_true p571
                        replace q571 := eq_true q571
                        obtain ⟨Ao114, co114, eo114⟩ := Kd.R_slice HO_4.out
                        subst eo114
                        have p572 : 0 ≤ (x13_6 : Int) := oD (by assumption)
                        have q572 : x13_6 < (t529.length : Int) := oD (by assumption)
                        obtain ⟨ad572, e572, hx572_0⟩ := Kd.at_bool (Kd.R_reads' HO_4.out).2.2 x13_6 p572 q572
                        (try rw [← Nbq100.out] at hx572_0)
                        (try rw [← Nbq103.out] at hx572_0)
                        cases e572
                        replace p572 := eq_true p572
                        replace q572 := eq_true q572
                        go_wp2
                        go_roundg k6
                        case measure => have := HJ1.out; have := HK2.out; have := HK3.out; have := HK4.out; have := HK5.out; have := HK6.out; omega
                        case rel => exact ⟨(wrap64 (x13_6 + 1)), (by rfl), H', ⟨by have := HJ1.out; have := HK2.out; have := HK3.out; have := HK4.out; have := HK5.out; have := HK6.out; omega⟩, ⟨by exact sR <| HO_3.out⟩, ⟨by exact sR <| HO_4.out⟩, ⟨by exact sR <| HO_8.out⟩, ⟨by exact sW HB.out⟩⟩
                      ·rw [if_neg c102] at H
                       exact absurd H (by simp)
                     ·replace c101 := Bool.eq_false_iff.mpr c101
                      subst c101
                      rw [if_neg (show ¬ (false = true) by decide)] at H
                      have H' := am H
                      clear H
                      obtain ⟨Ao115, co115, eo115⟩ := Kd.R_slice HO_3.out
                      subst eo115
                      have p571 : 0 ≤ (x13_6 : Int) := oD (by assumption)
                      have q571 : x13_6 < (t526.length : Int) := oD (by assumption)
                      obtain ⟨ad571, e571, hx571_0⟩ := Kd.at_bool (Kd.R_reads' HO_3.out).2.2 x13_6 p571 q571
                      (try rw [← Nbq100.out] at hx571_0)
                      cases e571
                      replace p571 := eq_true p571
                      replace q571 := eq_true q571
                      go_wp2
                      go_roundg k6
                      case measure => have := HJ1.out; have := HK2.out; have := HK3.out; have := HK4.out; have := HK5.out; have := HK6.out; omega
                      case rel => exact ⟨(wrap64 (x13_6 + 1)), (by rfl), H', ⟨by have := HJ1.out; have := HK2.out; have := HK3.out; have := HK4.out; have := HK5.out; have := HK6.out; omega⟩, ⟨by exact sR <| HO_3.out⟩, ⟨by exact sR <| HO_4.out⟩, ⟨by exact sR <| HO_8.out⟩, ⟨by exact sW HB.out⟩⟩
                    ·rw [if_neg c99] at H
                     exact absurd H (by simp)
                   ·rw [if_neg c98] at H
                    exact absurd H (by simp)
                  ·rw [if_neg c97] at H
                   have c97b0 : decide (x13_6 < (l0.length : Int)) = false := decide_eq_false c97
                   clear c97
                   obtain rfl := oI H
                   go_wp2
                   go_ret
                   exact ⟨by rfl, by exact sW HB.out⟩
end Go.Proofs.Ytjjjbifbibabgaa.PAll
