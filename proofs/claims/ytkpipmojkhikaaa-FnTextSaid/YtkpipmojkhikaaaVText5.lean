/- Written by a program of this session over the loaded program, and by hand: Go functions as plain Lean functions, and that a call comes to what they say. -/
import Derived.Test.YtkpipmojkhikaaaVText0
import Derived.Test.YtkpipmojkhikaaaVText1
import Derived.Test.YtkpipmojkhikaaaVText3
import Derived.Test.YtkpipmojkhikaaaVText4
import Derived.Test.YtkpipmojkhikaaaBase
import Derived.Test.YtkpipmojkhikaaaSq
namespace Go.Proofs.Ytkpipmojkhikaaa.PAll
open Go.RowKit Go.Proofs.YtkpipmojkhikaaaW.PrintWords Go.Proofs.YtkpipmojkhikaaaW.PrintLast Go.Proofs.YtkpipmojkhikaaaW.PrintMore Go.Proofs.YtkpipmojkhikaaaW.Sq
attribute [local go_sem] sD rZ uM uL qV qU sA rY
set_option linter.unusedVariables false
set_option maxHeartbeats 8000000
set_option maxRecDepth 100000
set_option linter.unusedSimpArgs false
@[reducible] def c9u : Array Bool := #[false, false, false, false, false, false, false, false, false, false, false, false, false]
@[reducible] def c9s : Array Bool := #[true, false, false, false, false, false, false, false, false, false, false, false, false]
@[reducible] def c9q : Array Bool := #[true, true, false, false, false, false, false, false, false, false, false, false, false]
@[reducible] def c9o : Array Bool := #[true, true, true, false, false, false, false, false, false, false, false, false, false]
@[reducible] def c9m : Array Bool := #[true, true, true, true, false, false, false, false, false, false, false, false, false]
@[reducible] def c9k : Array Bool := #[true, true, true, true, true, false, false, false, false, false, false, false, false]
@[reducible] def c9i : Array Bool := #[true, true, true, true, true, false, true, false, false, false, false, false, false]
@[reducible] def c9g : Array Bool := #[true, true, true, true, true, false, true, true, false, false, false, false, false]
@[reducible] def c9e : Array Bool := #[true, true, true, true, true, false, true, true, true, false, false, false, false]
@[reducible] def c9c : Array Bool := #[true, true, true, true, true, false, true, true, true, true, false, false, false]
@[reducible] def c4z : Array Bool := #[true, true, true, true, true, true, true, true, true, true, false, false, false]
@[reducible] def c4x : Array Bool := #[true, true, true, true, true, true, true, true, true, true, true, false, false]
@[reducible] def c4v : Array Bool := #[true, true, true, true, true, true, true, true, true, true, true, true, false]
@[reducible] def c4t : Array Bool := #[true, true, true, true, true, true, true, true, true, true, true, true, true]
@[reducible] def a5c : Array Bool := #[false, false, false, false, false, false, false, false, false, false, false, false, false, false, false, false, false, false, false, false, false, false, false, false, false, false, false, false, false, false, false, false, false, false, false, false, false]
@[reducible] def a5b : Array Bool := #[true, false, false, false, false, false, false, false, false, false, false, false, false, false, false, false, false, false, false, false, false, false, false, false, false, false, false, false, false, false, false, false, false, false, false, false, false]
@[reducible] def a5a : Array Bool := #[true, true, false, false, false, false, false, false, false, false, false, false, false, false, false, false, false, false, false, false, false, false, false, false, false, false, false, false, false, false, false, false, false, false, false, false, false]
@[reducible] def a4z : Array Bool := #[true, true, true, false, false, false, false, false, false, false, false, false, false, false, false, false, false, false, false, false, false, false, false, false, false, false, false, false, false, false, false, false, false, false, false, false, false]
@[reducible] def a4y : Array Bool := #[true, true, true, true, false, false, false, false, false, false, false, false, false, false, false, false, false, false, false, false, false, false, false, false, false, false, false, false, false, false, false, false, false, false, false, false, false]
@[reducible] def a4x : Array Bool := #[true, true, true, true, true, false, false, false, false, false, false, false, false, false, false, false, false, false, false, false, false, false, false, false, false, false, false, false, false, false, false, false, false, false, false, false, false]
@[reducible] def a4w : Array Bool := #[true, true, true, true, true, true, false, false, false, false, false, false, false, false, false, false, false, false, false, false, false, false, false, false, false, false, false, false, false, false, false, false, false, false, false, false, false]
@[reducible] def a4v : Array Bool := #[true, true, true, true, true, true, true, false, false, false, false, false, false, false, false, false, false, false, false, false, false, false, false, false, false, false, false, false, false, false, false, false, false, false, false, false, false]
@[reducible] def a4u : Array Bool := #[true, true, true, true, true, true, true, true, false, false, false, false, false, false, false, false, false, false, false, false, false, false, false, false, false, false, false, false, false, false, false, false, false, false, false, false, false]
@[reducible] def a4t : Array Bool := #[true, true, true, true, true, true, true, true, true, false, false, false, false, false, false, false, false, false, false, false, false, false, false, false, false, false, false, false, false, false, false, false, false, false, false, false, false]
@[reducible] def a4s : Array Bool := #[true, true, true, true, true, true, true, true, true, true, false, false, false, false, false, false, false, false, false, false, false, false, false, false, false, false, false, false, false, false, false, false, false, false, false, false, false]
@[reducible] def a4r : Array Bool := #[true, true, true, true, true, true, true, true, true, true, true, false, false, false, false, false, false, false, false, false, false, false, false, false, false, false, false, false, false, false, false, false, false, false, false, false, false]
@[reducible] def a4q : Array Bool := #[true, true, true, true, true, true, true, true, true, true, true, true, false, false, false, false, false, false, false, false, false, false, false, false, false, false, false, false, false, false, false, false, false, false, false, false, false]
@[reducible] def b1g : Array Bool := #[true, true, true, true, true, true, true, true, true, true, true, true, false, false, false, true, false, false, false, false, false, false, false, false, false, false, false, false, false, false, false, false, false, false, false, false, false]
@[reducible] def b1f : Array Bool := #[true, true, true, true, true, true, true, true, true, true, true, true, false, false, false, true, true, false, false, false, false, false, false, false, false, false, false, false, false, false, false, false, false, false, false, false, false]
@[reducible] def b1e : Array Bool := #[true, true, true, true, true, true, true, true, true, true, true, true, false, false, false, true, true, true, false, false, false, false, false, false, false, false, false, false, false, false, false, false, false, false, false, false, false]
@[reducible] def b1d : Array Bool := #[true, true, true, true, true, true, true, true, true, true, true, true, false, false, false, true, true, true, true, false, false, false, false, false, false, false, false, false, false, false, false, false, false, false, false, false, false]
@[reducible] def b1c : Array Bool := #[true, true, true, true, true, true, true, true, true, true, true, true, true, false, false, true, true, true, true, false, false, false, false, false, false, false, false, false, false, false, false, false, false, false, false, false, false]
@[reducible] def b1b : Array Bool := #[true, true, true, true, true, true, true, true, true, true, true, true, true, true, false, true, true, true, true, false, false, false, false, false, false, false, false, false, false, false, false, false, false, false, false, false, false]
@[reducible] def a4p : Array Bool := #[true, true, true, true, true, true, true, true, true, true, true, true, true, true, true, true, true, true, true, false, false, false, false, false, false, false, false, false, false, false, false, false, false, false, false, false, false]
@[reducible] def a4o : Array Bool := #[true, true, true, true, true, true, true, true, true, true, true, true, true, true, true, true, true, true, true, true, false, false, false, false, false, false, false, false, false, false, false, false, false, false, false, false, false]
@[reducible] def a4n : Array Bool := #[true, true, true, true, true, true, true, true, true, true, true, true, true, true, true, true, true, true, true, true, true, false, false, false, false, false, false, false, false, false, false, false, false, false, false, false, false]
@[reducible] def a4m : Array Bool := #[true, true, true, true, true, true, true, true, true, true, true, true, true, true, true, true, true, true, true, true, true, true, false, false, false, false, false, false, false, false, false, false, false, false, false, false, false]
@[reducible] def a4l : Array Bool := #[true, true, true, true, true, true, true, true, true, true, true, true, true, true, true, true, true, true, true, true, true, true, true, false, false, false, false, false, false, false, false, false, false, false, false, false, false]
@[reducible] def a4k : Array Bool := #[true, true, true, true, true, true, true, true, true, true, true, true, true, true, true, true, true, true, true, true, true, true, true, true, false, false, false, false, false, false, false, false, false, false, false, false, false]
@[reducible] def a4j : Array Bool := #[true, true, true, true, true, true, true, true, true, true, true, true, true, true, true, true, true, true, true, true, true, true, true, true, true, false, false, false, false, false, false, false, false, false, false, false, false]
@[reducible] def a4i : Array Bool := #[true, true, true, true, true, true, true, true, true, true, true, true, true, true, true, true, true, true, true, true, true, true, true, true, true, true, false, false, false, false, false, false, false, false, false, false, false]
@[reducible] def a4h : Array Bool := #[true, true, true, true, true, true, true, true, true, true, true, true, true, true, true, true, true, true, true, true, true, true, true, true, true, true, true, false, false, false, false, false, false, false, false, false, false]
@[reducible] def a8a : Array Bool := #[true, true, true, true, true, true, true, true, true, true, true, true, true, true, true, true, true, true, true, true, true, true, true, true, true, true, true, true, false, false, false, false, false, false, false, false, false]
@[reducible] def a7z : Array Bool := #[true, true, true, true, true, true, true, true, true, true, true, true, true, true, true, true, true, true, true, true, true, true, true, true, true, true, true, true, true, false, false, false, false, false, false, false, false]
@[reducible] def a7y : Array Bool := #[true, true, true, true, true, true, true, true, true, true, true, true, true, true, true, true, true, true, true, true, true, true, true, true, true, true, true, true, true, true, false, false, false, false, false, false, false]
@[reducible] def a7x : Array Bool := #[true, true, true, true, true, true, true, true, true, true, true, true, true, true, true, true, true, true, true, true, true, true, true, true, true, true, true, true, true, true, true, false, false, false, false, false, false]
@[reducible] def a7w : Array Bool := #[true, true, true, true, true, true, true, true, true, true, true, true, true, true, true, true, true, true, true, true, true, true, true, true, true, true, true, true, true, true, true, true, false, false, false, false, false]
@[reducible] def a7v : Array Bool := #[true, true, true, true, true, true, true, true, true, true, true, true, true, true, true, true, true, true, true, true, true, true, true, true, true, true, true, true, true, true, true, true, true, false, false, false, false]
@[reducible] def a7u : Array Bool := #[true, true, true, true, true, true, true, true, true, true, true, true, true, true, true, true, true, true, true, true, true, true, true, true, true, true, true, true, true, true, true, true, true, true, false, false, false]
@[reducible] def a7t : Array Bool := #[true, true, true, true, true, true, true, true, true, true, true, true, true, true, true, true, true, true, true, true, true, true, true, true, true, true, true, true, true, true, true, true, true, true, true, false, false]
@[reducible] def a7s : Array Bool := #[true, true, true, true, true, true, true, true, true, true, true, true, true, true, true, true, true, true, true, true, true, true, true, true, true, true, true, true, true, true, true, true, true, true, true, true, false]
@[reducible] def a7r : Array Bool := #[true, true, true, true, true, true, true, true, true, true, true, true, true, true, true, true, true, true, true, true, true, true, true, true, true, true, true, true, true, true, true, true, true, true, true, true, true]
@[reducible] def b5y : Array Bool := #[true, true, true, true, true, true, true, true, true, true, true, true, true, false, false, false, false, false, false, false, false, false, false, false, false, false, false, false, false, false, false, false, false, false, false, false, false]
@[reducible] def b5x : Array Bool := #[true, true, true, true, true, true, true, true, true, true, true, true, true, true, false, false, false, false, false, false, false, false, false, false, false, false, false, false, false, false, false, false, false, false, false, false, false]
@[reducible] def b5w : Array Bool := #[true, true, true, true, true, true, true, true, true, true, true, true, true, true, true, false, false, false, false, false, false, false, false, false, false, false, false, false, false, false, false, false, false, false, false, false, false]
@[reducible] def b5v : Array Bool := #[true, true, true, true, true, true, true, true, true, true, true, true, true, true, true, true, false, false, false, false, false, false, false, false, false, false, false, false, false, false, false, false, false, false, false, false, false]
@[reducible] def b5u : Array Bool := #[true, true, true, true, true, true, true, true, true, true, true, true, true, true, true, true, true, false, false, false, false, false, false, false, false, false, false, false, false, false, false, false, false, false, false, false, false]
@[reducible] def b5t : Array Bool := #[true, true, true, true, true, true, true, true, true, true, true, true, true, true, true, true, true, true, false, false, false, false, false, false, false, false, false, false, false, false, false, false, false, false, false, false, false]
@[reducible] def c4j : Array Bool := #[false, false, false, false, false, false, false, false, false, false, false, false, false, false, false]
@[reducible] def c4i : Array Bool := #[true, false, false, false, false, false, false, false, false, false, false, false, false, false, false]
@[reducible] def c4h : Array Bool := #[true, true, false, false, false, false, false, false, false, false, false, false, false, false, false]
@[reducible] def c4g : Array Bool := #[true, true, true, false, false, false, false, false, false, false, false, false, false, false, false]
@[reducible] def c4f : Array Bool := #[true, true, true, true, false, false, false, false, false, false, false, false, false, false, false]
@[reducible] def c4e : Array Bool := #[true, true, true, true, false, true, false, false, false, false, false, false, false, false, false]
@[reducible] def c4d : Array Bool := #[true, true, true, true, false, true, true, false, false, false, false, false, false, false, false]
@[reducible] def c4c : Array Bool := #[true, true, true, true, false, true, true, true, false, false, false, false, false, false, false]
@[reducible] def c4b : Array Bool := #[true, true, true, true, false, true, true, true, true, false, false, false, false, false, false]
@[reducible] def c4a : Array Bool := #[true, true, true, true, true, true, true, true, true, false, false, false, false, false, false]
@[reducible] def c3z : Array Bool := #[true, true, true, true, true, true, true, true, true, true, false, false, false, false, false]
@[reducible] def c3y : Array Bool := #[true, true, true, true, true, true, true, true, true, true, true, false, false, false, false]
@[reducible] def c3x : Array Bool := #[true, true, true, true, true, true, true, true, true, true, true, true, false, false, false]
@[reducible] def c3w : Array Bool := #[true, true, true, true, true, true, true, true, true, true, true, true, true, false, false]
@[reducible] def c3v : Array Bool := #[true, true, true, true, true, true, true, true, true, true, true, true, true, true, false]
@[reducible] def c3u : Array Bool := #[true, true, true, true, true, true, true, true, true, true, true, true, true, true, true]
mutual
def sL : Nat → List (S31) → Bool → Option (Bool)
 | 0, _, _ => none
 | k + 1, x0, aC => if aC = true then (some false) else ((wC k x0).bind fun aA => ((yM k x0).bind fun a9 => (tR k x0 aA a9 (([] : List Int)) 0)))
def tR : Nat → List (S31) → List Bool → List Bool → List Int → Int → Option (Bool)
 | 0, _, _, _, _, _ => none
 | k + 1, x0, x3, x4, x5, x6 => if x6 < 8 then (if x5.length < 17592186044416 then (tR k x0 x3 x4 (x5 ++ [0]) (wrap64 (x6 + 1))) else (none)) else (sJ k x0 x3 x4 x5 0)
def sJ : Nat → List (S31) → List Bool → List Bool → List Int → Int → Option (Bool)
 | 0, _, _, _, _, _ => none
 | k + 1, x0, x3, x4, x5, x7 => if x7 < (x0.length : Int) then (if 0 ≤ x7 then (if x7 < (x3.length : Int) then (if vD false x3 x7 = true then ((rF ((kA x0 x7).f0)).bind fun a8 => (uO k x0 x3 x4 x5 x7 a8)) else (uO k x0 x3 x4 x5 x7 false)) else (none)) else (none)) else (tQ k x0 x3 x4 x5 (([] : List Int)) 0)
def uO : Nat → List (S31) → List Bool → List Bool → List Int → Int → Bool → Option (Bool)
 | 0, _, _, _, _, _, _ => none
 | k + 1, x0, x3, x4, x5, x7, aB => if aB = true then (if 0 ≤ x7 then (if x7 < (x0.length : Int) then (if 0 ≤ ((kA x0 x7).f2) then (if ((kA x0 x7).f2) < (x5.length : Int) then (if (rd x5 ((kA x0 x7).f2)) = 0 then (sJ k x0 x3 x4 (x5.set (((kA x0 x7).f2) : Int).toNat ((kA x0 x7).f4)) (wrap64 (x7 + 1))) else (some false)) else (none)) else (none)) else (none)) else (none)) else (sJ k x0 x3 x4 x5 (wrap64 (x7 + 1)))
def tQ : Nat → List (S31) → List Bool → List Bool → List Int → List Int → Int → Option (Bool)
 | 0, _, _, _, _, _, _ => none
 | k + 1, x0, x3, x4, x5, x8, x9 => if x9 < (x0.length : Int) then (if x8.length < 17592186044416 then (tQ k x0 x3 x4 x5 (x8 ++ [0]) (wrap64 (x9 + 1))) else (none)) else (sI k x0 x3 x4 x5 x8 0)
def sI : Nat → List (S31) → List Bool → List Bool → List Int → List Int → Int → Option (Bool)
 | 0, _, _, _, _, _, _ => none
 | k + 1, x0, x3, x4, x5, x8, a0 => if a0 < (x0.length : Int) then (if 0 ≤ a0 then (if a0 < (x3.length : Int) then (if vD false x3 a0 = true then (if ((kA x0 a0).f0) = 1 then (if 0 ≤ ((kA x0 a0).f2) then (if ((kA x0 a0).f2) < (x5.length : Int) then (if (rd x5 ((kA x0 a0).f2)) = ((kA x0 a0).f1) then (if a0 < (x4.length : Int) then (if vD false x4 a0 = true then ((uF ((kA x0 a0).f0)).bind fun a7 => (qJ k x0 x3 x4 x5 x8 a0 (!a7))) else (qJ k x0 x3 x4 x5 x8 a0 false)) else (none)) else (qJ k x0 x3 x4 x5 x8 a0 true)) else (none)) else (none)) else (if a0 < (x4.length : Int) then (if vD false x4 a0 = true then ((uF ((kA x0 a0).f0)).bind fun a6 => (qJ k x0 x3 x4 x5 x8 a0 (!a6))) else (qJ k x0 x3 x4 x5 x8 a0 false)) else (none))) else (sI k x0 x3 x4 x5 x8 (wrap64 (a0 + 1)))) else (none)) else (none)) else (rI k x0 x3 x4 x8 0)
def qJ : Nat → List (S31) → List Bool → List Bool → List Int → List Int → Int → Bool → Option (Bool)
 | 0, _, _, _, _, _, _, _ => none
 | k + 1, x0, x3, x4, x5, x8, a0, a4 => if a4 = true then (some false) else (if 0 ≤ a0 then (if a0 < (x0.length : Int) then ((tY k ((kA x0 a0).f0) ((kA x0 a0).f1) ((kA x0 a0).f2) ((kA x0 a0).f3) ((kA x0 a0).f4) ((kA x0 a0).f5)).bind fun a5 => (tP k x0 x3 x4 x5 x8 a0 a5 0)) else (none)) else (none))
def tP : Nat → List (S31) → List Bool → List Bool → List Int → List Int → Int → List Int → Int → Option (Bool)
 | 0, _, _, _, _, _, _, _, _ => none
 | k + 1, x0, x3, x4, x5, x8, a0, a3, a2 => if a2 < (a3.length : Int) then (if 0 ≤ a2 then (if 0 ≤ (rd a3 a2) then (if (rd a3 a2) < (x8.length : Int) then (tP k x0 x3 x4 x5 (x8.set ((rd a3 a2) : Int).toNat (wrap64 ((rd x8 (rd a3 a2)) + 1))) a0 a3 (wrap64 (a2 + 1))) else (none)) else (none)) else (none)) else (sI k x0 x3 x4 x5 x8 (wrap64 (a0 + 1)))
def rI : Nat → List (S31) → List Bool → List Bool → List Int → Int → Option (Bool)
 | 0, _, _, _, _, _ => none
 | k + 1, x0, x3, x4, x8, a1 => if a1 < (x0.length : Int) then (if 0 ≤ a1 then (if a1 < (x3.length : Int) then (if vD false x3 a1 = true then (if a1 < (x4.length : Int) then (if vD false x4 a1 = true then (if a1 < (x8.length : Int) then (if (rd x8 a1) > 1 then (some false) else (rI k x0 x3 x4 x8 (wrap64 (a1 + 1)))) else (none)) else (rI k x0 x3 x4 x8 (wrap64 (a1 + 1)))) else (none)) else (rI k x0 x3 x4 x8 (wrap64 (a1 + 1)))) else (none)) else (none)) else (some true)
end
def uJ (k : Nat) (l0 : List (S31)) : Option (Bool) := (uU k l0).bind fun a1 => (if a1 = true then (if 0 ≤ (wrap64 ((l0.length : Int) - 1)) then (if (wrap64 ((l0.length : Int) - 1)) < (l0.length : Int) then (if ((kA l0 (wrap64 ((l0.length : Int) - 1))).f1) = 1 then ((xZ k l0).bind fun a0 => (sL k l0 (decide ((a0.length : Int) > 0)))) else (sL k l0 true)) else (none)) else (none)) else (sL k l0 true))
def zQ : Bool × List (List Nat × List Nat) := (true, [([], []), ([], []), ([], []), ([1, 2], [1, 2]), ([3], [3]), ([4], [4]), ([], []), ([], []), ([6, 7], [6, 7]), ([8], [8]), ([9], [9]), ([0, 5, 0, 1, 2, 3, 4, 5, 6, 7, 8, 9, 10], [0, 5]), ([11, 10, 0, 1, 2, 3, 4, 5, 6, 7, 8, 9, 10], [10, 11])])
def a3e : List Nat := [0, 0, 0, 6, 14, 30, 0, 0, 192, 448, 960, 2047, 4095]
theorem a1t : a0r .any (a1u Try.f66 15) = zQ := by kernel_rfl
theorem a1h : vL zQ.2 a3e = true := by kernel_rfl
def zP : Bool × List (List Nat × List Nat) := (true, [([], []), ([], []), ([0, 1], [0, 1]), ([2], [2]), ([3], [3]), ([4], [4]), ([5], [5]), ([6], [6]), ([6], [6]), ([6], [6]), ([8, 9, 6], [6, 8, 9]), ([10, 6], [6, 10]), ([11, 6], [6, 11]), ([7, 12, 6], [6, 7, 12]), ([13, 6], [6, 13]), ([6], [6]), ([6], [6]), ([15, 16, 6], [6, 15, 16]), ([17, 6], [6, 17]), ([18, 6], [6, 18]), ([14, 19, 6], [6, 14, 19]), ([6, 20], [6, 20]), ([21, 6], [21]), ([22], [22]), ([22], [22]), ([23, 24, 22], [22, 23, 24]), ([25, 22], [22, 25]), ([26, 22, 22], [22, 26]), ([27], [27]), ([27], [27]), ([28, 29, 27], [27, 28, 29]), ([30, 27], [27, 30]), ([31, 27], [27, 31]), ([32, 27, 27], [27, 32]), ([33, 27], [27, 33]), ([27, 34, 22], [22, 27, 34]), ([22, 35], [22, 35])])
def a3d : List Nat := [0, 0, 3, 7, 15, 31, 63, 127, 127, 127, 895, 1919, 3967, 8191, 16383, 127, 127, 98431, 229503, 491647, 1048575, 2097151, 4194303, 8388607, 8388607, 33554431, 67108863, 134217727, 268435455, 268435455, 1073741823, 2147483647, 4294967295, 8589934591, 17179869183, 34359738367, 68719476735]
theorem uI : a0r .any (a1u Try.f66 25) = zP := by kernel_rfl
theorem tT : vL zP.2 a3d = true := by kernel_rfl
def zO : Bool × List (List Nat × List Nat) := (true, [([], []), ([], []), ([], []), ([1, 2], [1, 2]), ([3], [3]), ([], []), ([], []), ([], []), ([6, 7], [6, 7]), ([8], [8]), ([5, 9], [5, 9]), ([10], [10]), ([11], [11]), ([0, 4, 0, 1, 2, 3, 4, 5, 6, 7, 8, 9, 10, 11, 12], [0, 4]), ([13, 12, 0, 1, 2, 3, 4, 5, 6, 7, 8, 9, 10, 11, 12], [12, 13])])
def a3c : List Nat := [0, 0, 0, 6, 14, 0, 0, 0, 192, 448, 992, 2016, 4064, 8191, 16383]
theorem a1s : a0r .any (a1u Try.f66 31) = zO := by kernel_rfl
theorem a1g : vL zO.2 a3c = true := by kernel_rfl
theorem pH {P : Prop} (h : P := by
 simp only [Act.put, List.setIfInBounds_toArray, List.set_cons_zero, List.set_cons_succ, xW, a1l]
 rfl) : P := h
theorem c1v {P : Prop} (h : P := by
 refine pT (i := 27) (N := some 132) a8a ?_
 refine pN (i := 28) (N := some 133) (v := undef) (a' := ?_) a7z rfl rfl (qO HT_.out (by kernel_rfl)) (fun _ _ _ h => h) (Or.inr ⟨by rfl, rfl⟩) ?_ ?_
 rotate_left
 ·exact pH
 refine pN (i := 29) (N := some 134) (v := undef) (a' := ?_) a7y rfl rfl (qO HT_.out (by kernel_rfl)) (fun _ _ _ h => h) (Or.inr ⟨by rfl, rfl⟩) ?_ ?_
 rotate_left
 ·exact pH
 refine pN (i := 30) (N := some 135) (v := undef) (a' := ?_) a7x rfl rfl (qO HT_.out (by kernel_rfl)) (fun _ _ _ h => h) (Or.inr ⟨by rfl, rfl⟩) ?_ ?_
 rotate_left
 ·exact pH
 refine pN (i := 31) (N := some 136) (v := undef) (a' := ?_) a7w rfl rfl (qO HT_.out (by kernel_rfl)) (fun _ _ _ h => h) (Or.inr ⟨by rfl, rfl⟩) ?_ ?_
 rotate_left
 ·exact pH
 refine pN (i := 32) (N := some 137) (v := undef) (a' := ?_) a7v rfl rfl (qO HT_.out (by kernel_rfl)) (fun _ _ _ h => h) (Or.inr ⟨by rfl, rfl⟩) ?_ ?_
 rotate_left
 ·exact pH
 refine pN (i := 33) (N := some 138) (v := undef) (a' := ?_) a7u rfl rfl (qO HT_.out (by kernel_rfl)) (fun _ _ _ h => h) (Or.inr ⟨by rfl, rfl⟩) ?_ ?_
 rotate_left
 ·exact pH
 refine pN (i := 34) (N := some 139) (v := undef) (a' := ?_) a7t rfl rfl (qO HT_.out (by kernel_rfl)) (fun _ _ _ h => h) (Or.inr ⟨by rfl, rfl⟩) ?_ ?_
 rotate_left
 ·exact pH
 refine pT (i := 35) (N := some 140) a7s ?_
 refine pT (i := 36) (N := some 141) a7r ?_
 refine yK (yP HT_.out (by kernel_rfl)) ?_
 try go_wp2
 go_meet
 case rel => exact ⟨_, false, rfl, H, ⟨by have := bE.out; have := bD.out; have := bK.out; have := cM.out; have := cV.out; omega⟩, ⟨sR <| a2.out⟩, ⟨sR <| a4.out⟩, ⟨sR <| a5.out⟩, ⟨sR <| a6.out⟩, ⟨sW HB.out⟩⟩) : P := h
theorem a6z {P : Prop} (h : P := by
 rintro w' ⟨s0, s1, s2, s3, s4, s5, s6, s7, s8, s9, fA, f9, h2, iU, iS, iR, iQ, iO, iM, lN, oX, oW, oU, oT, oR, oP⟩
 go_simp
 with_reducible rfl) : P := h
theorem b4n {P : Prop} (h : P := by
 go_wp2
 go_roundg k6
 case measure => have := bE.out; have := bD.out; have := bK.out; have := cM.out; have := cV.out; have := iY.out; omega
 case rel => exact ⟨(wrap64 (aE + 1)), rfl, H, ⟨by have := bE.out; have := bD.out; have := bK.out; have := cM.out; have := cV.out; have := iY.out; omega⟩, ⟨sR <| a2.out⟩, ⟨sR <| a4.out⟩, ⟨sR <| a6.out⟩, ⟨sW HB.out⟩⟩) : P := h
theorem a9a {P : Prop} (h : P := by
 rintro w' ⟨s0, s1, s2, s3, s4, s5, s6, s7, s8, s9, fA, f9, h2, iU, iS, iR, iQ, iO, iM, lN⟩
 go_simp
 with_reducible rfl) : P := h
theorem b2g {P : Prop} (h : P := by
 rintro w' ⟨s0, s1, s2, s3, s4, s5, s6, s7, s8, s9, fA, f9, h2, iU, iS, iR, iQ, iO, iM⟩
 go_simp
 with_reducible rfl) : P := h
theorem b4i {P : Prop} (h : P := by
 rintro w' ⟨s0, s1, s2, s3, s4, s5, s6, s7, s8, s9, fA, f9, h2⟩
 go_simp
 with_reducible rfl) : P := h
theorem spec_Sentence.calls {k : Nat} {A0 : Option Addr} {c0 : Nat} {l0 : List (S31)} {r : Bool} {w : World} (hr0 : Kd.C k31 w A0 l0.length l0) (hc0 : l0.length ≤ c0) (h : uJ k l0 = some r) :
  Calls Try.prog 66 #[.slice A0 l0.length c0] w fun e w' => e = .returned (.bool r) ∧ Below w.heap.size w w' := by
 have hu31 := Try.underlying31
 have b6 := am hr0
 have eP := am hc0
 clear hr0 hc0
 have HB := am (Below.refl w.heap.size w)
 have H := h
 clear h
 unfold uJ at H
 have hL := am H; clear H
 go_enter Try.func66, Try.ntmps66
 go_upto_region 1 with (fail)
 go_cut [32] (fun lJ wc => ∃ (kq : Nat) (eS : Bool), lJ = .bool eS ∧ Aside0 (sL kq l0 eS = some r) ∧ Aside0 (kq ≤ k) ∧ Aside0 (Below w.heap.size w wc))
 case first => as_aux_lemma =>
  have H := hL.out
  clear hL
  replace H := oA H; obtain ⟨n5, A3, H⟩ := H
  replace H := iB H; rcases H with ⟨rfl, H⟩ | ⟨rfl, H⟩
  ·generalize hF : wrap64 ((l0.length : Int) - 1) = hC at H
   (try rw [hF] at A3)
   have lW : (IntKind.i64.wrap ((l0.length : Int) - 1)) = hC := (xW _).trans hF
   replace H := iN H; obtain ⟨nX, H⟩ := H
   replace H := iN H; obtain ⟨nW, H⟩ := H
   replace H := iE H; rcases H with ⟨lA, l9, H⟩ | ⟨lA, l9, H⟩
   ·replace H := oA H; obtain ⟨jE, A9, H⟩ := H
    replace H := am H
    go_wp2_with (first | (go_at_call 105; refine (spec_Free.calls (sC (Kd.C_below b6.out HB.out)) eP.out A9.out).mono ?_; rintro e w11 ⟨n4, rfl, cK, hb⟩; have iL := rL cK HB; replace HB := hB HB hb; (try clear hb); (try clear cK); obtain ⟨oO, nV, rfl⟩ := Kd.R_slice iL.out) | ((with_reducible refine gW ?_); first | (refine gF 13 (some 15) rfl ?_; refine gS Try.func13 (spec_TermOk.calls (sC (Kd.C_below b6.out HB.out)) eP.out A3.out) ?_; rintro w10 hb; replace HB := hB HB hb; (try clear hb); obtain ⟨jO, jJ, i4, rfl, cS, cR, cQ, cP, cO, cN⟩ := ix (pL b6.out (hC)); replace cS := kC HB.out cS; replace cR := kC HB.out cR; replace cQ := kC HB.out cQ; replace cP := kC HB.out cP; replace cO := kC HB.out cO; replace cN := kC HB.out cN)))
    go_meet
    case rel => exact ⟨_, (decide ((jE.length : Int) > 0)), (by (simp; done)), H, ⟨oM⟩, ⟨sW HB.out⟩⟩
   replace H := am H
   go_wp2_with (first | ((with_reducible refine gW ?_); first | (refine gF 13 (some 15) rfl ?_; refine gS Try.func13 (spec_TermOk.calls (sC (Kd.C_below b6.out HB.out)) eP.out A3.out) ?_; rintro w13 hb; replace HB := hB HB hb; (try clear hb); obtain ⟨jO, jJ, i4, rfl, cS, cR, cQ, cP, cO, cN⟩ := ix (pL b6.out (hC)); replace cS := kC HB.out cS; replace cR := kC HB.out cR; replace cQ := kC HB.out cQ; replace cP := kC HB.out cP; replace cO := kC HB.out cO; replace cN := kC HB.out cN)))
   go_meet
   case rel => exact ⟨_, true, rfl, H, ⟨oM⟩, ⟨sW HB.out⟩⟩
  replace H := am H
  go_wp2_with (first | ((with_reducible refine gW ?_); first | (refine gF 13 (some 15) rfl ?_; refine gS Try.func13 (spec_TermOk.calls (sC (Kd.C_below b6.out HB.out)) eP.out A3.out) ?_; rintro w14 hb; replace HB := hB HB hb; (try clear hb))))
  go_meet
  case rel => exact ⟨_, true, rfl, H, ⟨oM⟩, ⟨sW HB.out⟩⟩
 case rest => as_aux_lemma =>
  clear hL
  obtain ⟨kq, eS, rfl, HA, bE, HB⟩ := hcut
  cases kq with
  | zero => cases HA.out
  | succ iV =>
   obtain ⟨H⟩ := HA
   simp only [sL] at H
   replace H := iB H; rcases H with ⟨rfl, H⟩ | ⟨rfl, H⟩
   ·obtain rfl := oI H
    go_wp2
    go_ret
    exact ⟨rfl, sW HB.out⟩
   replace H := oA H; obtain ⟨aI, lV, H⟩ := H
   replace H := oA H; obtain ⟨aJ, lU, H⟩ := H
   generalize fY : ([] : List Int) = j9 at H
   have iA := am fY.symm; clear fY
   replace H := am H
   go_wp2_with (first | ((with_reducible refine gW ?_); first | (refine gF 80 (some 34) rfl ?_; refine gT Try.func80 (spec_l02Reach.calls (sC (Kd.C_below b6.out HB.out)) eP.out lV.out) ?_; rintro bN w18 ⟨cK, hb⟩; have dK := rL cK HB; replace HB := hB HB hb; (try clear hb); (try clear cK)) | (refine gF 106 (some 36) rfl ?_; refine gT Try.func106 (spec_l02Holder.calls (sC (Kd.C_below b6.out HB.out)) eP.out lU.out) ?_; rintro bF w19 ⟨cK, hb⟩; have f6 := am (Kd.R_lower (Kd.R_new' cK (Kd.R_lt (by exact sR <| dK.out))) (kJ (by exact sW HB.out))); replace dK := rE dK cK hb; replace HB := hB HB hb; (try clear hb); (try clear cK)) | ((with_reducible refine qC (N := 37) rfl ?_); (try (refine wQ (by rfl) ?_; dsimp only)); refine Kd.R_lit (Kd.int .i64) _ 3 ?hg (N := 37) ?hd (xs := ([] : List Int)) (inner := []) (ok := fun _ => True) (okp := fun _ => True) ?hr ?hp (fun _ hk => hk) trivial (Below.refl _ _) (Nat.le_refl _) (by simp) ?_; (case hd => rfl); (case hg => rfl); (case hr => (go_simp; done)); (case hp => exact (Reps.none _ _)); intro n3 w20 fK hb hg_ hnew_; clear hg_ hnew_; (rw [← iA.out] at fK); replace dK := rB dK hb; replace f6 := rB f6 hb; have iK := rL fK HB; replace HB := hB HB hb; clear hb fK)))
   go_loopg [5, 6] iV (fun kq v5 v6 w' => ∃ (e0 : List Int) (eR : Int), v6 = .int .i64 eR ∧ Aside0 (tR kq l0 aI aJ e0 eR = some r) ∧ Aside0 (kq ≤ iV) ∧ Aside0 (Kd.R Kd.bool 4 w' w.heap.size (fun k_ => some k_ ≠ (bF : Value).ownBlock) bN aI) ∧ Aside0 (Kd.R Kd.bool 4 w' w.heap.size (fun k_ => some k_ ≠ (bN : Value).ownBlock) bF aJ) ∧ Aside0 (Kd.R (Kd.int .i64) 3 w' w.heap.size (fun _ => True) v5 e0) ∧ Aside0 (Below w.heap.size w w'))
   case atStart => exact ⟨j9, 0, rfl, H, ⟨Nat.le_refl _⟩, ⟨sR <| Kd.R_mono dK.out (fun _ hk => hk.2)⟩, ⟨sR <| Kd.R_mono f6.out (fun _ hk => hk.2)⟩, ⟨sR <| iK.out⟩, ⟨sW HB.out⟩⟩
   case round => as_aux_lemma =>
    clear H
    obtain ⟨e0, eR, rfl, HA, bD, a2, a4, a5, HB⟩ := hrel
    cases gk with
    | zero => cases HA.out
    | succ k2 =>
     obtain ⟨H⟩ := HA
     simp only [tR] at H
     replace H := iD H; rcases H with ⟨g0, H⟩ | ⟨g0, H⟩
     ·replace H := iP H; obtain ⟨iX, H⟩ := H
      have iF := am iX
      clear iX
      generalize fX : e0 ++ [0] = j8 at H
      have i9 := am fX.symm; clear fX
      replace H := am H
      go_wp2_with (first | ((with_reducible refine qG (b := .append) (xs := #[.tmp 42, .tmp 43]) rfl ?_); (try (refine wQ (by rfl) ?_; dsimp only)); at_builtin; refine Kd.R_append (Kd.int .i64) (w0 := w) w.heap.size rfl (.tmp 42) (.tmp 43) 25 3 (.int .i64 0) 8 rfl Try.underlying25 b4a rfl (by decide) oM u5 e0 0 [.int .i64 0] (fun _ => True) (fun _ => False) rfl rfl ?aP (fun _ hk => hk.elim) ?aF ?aO ?aB ?aS ?aL ?_; (case aP => exact rfl); (case aB => exact (by exact sW HB.out)); (case aF => exact (fun _ _ => trivial)); (case aO => exact (by exact sR <| a5.out)); (case aS => exact (kJ (by exact sW HB.out))); (case aL => have := iF.out; omega); intro n2 w24 ho hb hg hat; rw [← i9.out] at ho; replace a2 := oV a2 a5 hg; replace a4 := oV a4 a5 hg; replace HB := am hb; have iJ := am ho; clear a5; clear ho hb hg hat))
      go_roundg k2
      case measure => have := bE.out; have := bD.out; omega
      case rel => exact ⟨j8, (wrap64 (eR + 1)), rfl, H, ⟨by have := bE.out; have := bD.out; omega⟩, ⟨sR <| a2.out⟩, ⟨sR <| a4.out⟩, ⟨sR <| iJ.out⟩, ⟨sW HB.out⟩⟩
     replace H := am H
     go_wp2
     go_loopg [7] k2 (fun kq v7 w' => ∃ (b7 : List Int) (a3 : Int), v7 = .int .i64 a3 ∧ Aside0 (sJ kq l0 aI aJ b7 a3 = some r) ∧ Aside0 (kq ≤ k2) ∧ Aside0 (Kd.R Kd.bool 4 w' w.heap.size (fun k_ => some k_ ≠ (bF : Value).ownBlock) bN aI) ∧ Aside0 (Kd.R Kd.bool 4 w' w.heap.size (fun k_ => some k_ ≠ (bN : Value).ownBlock) bF aJ) ∧ Aside0 (Kd.R (Kd.int .i64) 3 w' w.heap.size (fun _ => True) u5 b7) ∧ Aside0 (Below w.heap.size w w'))
     case atStart => exact ⟨e0, 0, rfl, H, ⟨Nat.le_refl _⟩, ⟨sR <| a2.out⟩, ⟨sR <| a4.out⟩, ⟨sR <| a5.out⟩, ⟨sW HB.out⟩⟩
     case round => as_aux_lemma =>
      clear H
      clear g0
      obtain ⟨b7, a3, rfl, HA, bK, a2, a4, a5, HB⟩ := hrel
      cases gk with
      | zero => cases HA.out
      | succ k3 =>
       obtain ⟨H⟩ := HA
       simp only [sJ] at H
       replace H := iD H; rcases H with ⟨eV, H⟩ | ⟨eV, H⟩
       ·have fS := am H; clear H
        go_upto_region 12 with (fail)
        go_cut [62] (fun lI wc => ∃ (kq : Nat) (e7 : Bool), lI = .bool e7 ∧ Aside0 (uO kq l0 aI aJ b7 a3 e7 = some r) ∧ Aside0 (kq ≤ k3) ∧ Aside0 (Kd.R Kd.bool 4 wc w.heap.size (fun k_ => some k_ ≠ (bF : Value).ownBlock) bN aI) ∧ Aside0 (Kd.R Kd.bool 4 wc w.heap.size (fun k_ => some k_ ≠ (bN : Value).ownBlock) bF aJ) ∧ Aside0 (Kd.R (Kd.int .i64) 3 wc w.heap.size (fun _ => True) u5 b7) ∧ Aside0 (Below w.heap.size w wc))
        case first => as_aux_lemma =>
         have H := fS.out
         clear fS
         replace H := iN H; obtain ⟨mM, H⟩ := H
         replace H := iN H; obtain ⟨mL, H⟩ := H
         generalize hbq29 : vD false aI a3 = o0 at H
         have g4 := am hbq29.symm; clear hbq29
         replace H := iB H; rcases H with ⟨rfl, H⟩ | ⟨rfl, H⟩
         ·replace H := oA H; obtain ⟨jD, lT, H⟩ := H
          replace H := am H
          obtain ⟨oN, nU, rfl⟩ := Kd.R_slice a2.out
          have dT : 0 ≤ (a3 : Int) := oD (by assumption)
          have dO : a3 < (aI.length : Int) := oD (by assumption)
          obtain ⟨i3, fO, e5⟩ := Kd.at_bool (Kd.R_reads' a2.out).2.2 a3 dT dO
          (try rw [← g4.out] at e5)
          cases fO
          replace dT := eq_true dT
          replace dO := eq_true dO
          obtain ⟨nD, n9, mR, rfl, lH, lG, lF, lD, lC, lB⟩ := ix (pL (Kd.C_below b6.out HB.out) a3)
          go_wp2_with (first | (go_at_call 50; refine cD (spec_l02Quant.calls _ _ _ lT.out) fun nd => ?_))
          go_meet
          case rel => exact ⟨_, jD, rfl, H, ⟨by have := bE.out; have := bD.out; have := bK.out; omega⟩, ⟨sR <| a2.out⟩, ⟨sR <| a4.out⟩, ⟨sR <| a5.out⟩, ⟨sW HB.out⟩⟩
         replace H := am H
         obtain ⟨oL, nT, rfl⟩ := Kd.R_slice a2.out
         have dT : 0 ≤ (a3 : Int) := oD (by assumption)
         have dO : a3 < (aI.length : Int) := oD (by assumption)
         obtain ⟨i3, fO, e5⟩ := Kd.at_bool (Kd.R_reads' a2.out).2.2 a3 dT dO
         (try rw [← g4.out] at e5)
         cases fO
         replace dT := eq_true dT
         replace dO := eq_true dO
         go_wp2
         go_meet
         case rel => exact ⟨_, false, rfl, H, ⟨by have := bE.out; have := bD.out; have := bK.out; omega⟩, ⟨sR <| a2.out⟩, ⟨sR <| a4.out⟩, ⟨sR <| a5.out⟩, ⟨sW HB.out⟩⟩
        case rest => as_aux_lemma =>
         clear fS
         clear eV
         obtain ⟨kq, e7, rfl, HA, f8, a2, a4, a5, HB⟩ := hcut
         cases kq with
         | zero => cases HA.out
         | succ hA =>
          obtain ⟨H⟩ := HA
          simp only [uO] at H
          replace H := iB H; rcases H with ⟨rfl, H⟩ | ⟨rfl, H⟩
          rotate_left
          ·replace H := am H
           go_wp2
           go_roundg hA
           case measure => have := bE.out; have := bD.out; have := bK.out; have := f8.out; omega
           case rel => exact ⟨b7, (wrap64 (a3 + 1)), rfl, H, ⟨by have := bE.out; have := bD.out; have := bK.out; have := f8.out; omega⟩, ⟨sR <| a2.out⟩, ⟨sR <| a4.out⟩, ⟨sR <| a5.out⟩, ⟨sW HB.out⟩⟩
          replace H := iN H; obtain ⟨mK, H⟩ := H
          replace H := iN H; obtain ⟨mJ, H⟩ := H
          replace H := iN H; obtain ⟨mI, H⟩ := H
          replace H := iN H; obtain ⟨mH, H⟩ := H
          replace H := iE H; rcases H with ⟨hV, hU, H⟩ | ⟨hV, hU, H⟩
          rotate_left
          ·obtain rfl := oI H
           obtain ⟨jN, jI, aH, rfl, gN, gM, gL, gK, gJ, gI⟩ := ix (pL (Kd.C_below b6.out HB.out) a3)
           obtain ⟨oJ, nQ, rfl⟩ := Kd.R_slice a5.out
           obtain ⟨jM, jH, i2, rfl, e4⟩ := ix (Kd.at_int (Kd.R_reads' a5.out).2.2 ((kA l0 a3).f2))
           go_wp2
           go_ret
           exact ⟨rfl, sW HB.out⟩
          generalize fW : b7.set (((kA l0 a3).f2) : Int).toNat ((kA l0 a3).f4) = j7 at H
          have i8 := am fW.symm; clear fW
          replace H := am H
          obtain ⟨jN, jI, aH, rfl, gN, gM, gL, gK, gJ, gI⟩ := ix (pL (Kd.C_below b6.out HB.out) a3)
          obtain ⟨oK, nR, rfl⟩ := Kd.R_slice a5.out
          obtain ⟨jM, jH, i2, rfl, e4⟩ := ix (Kd.at_int (Kd.R_reads' a5.out).2.2 ((kA l0 a3).f2))
          try go_wp2
          replace a2 := am (Kd.R_drew a2.out)
          replace a4 := am (Kd.R_drew a4.out)
          replace a5 := am (Kd.R_drew a5.out)
          replace HB := am (kO HB.out)
          have fJ : 0 ≤ (a3 : Int) := oD (by assumption)
          have fF : a3 < (l0.length : Int) := oD (by assumption)
          obtain ⟨i1, l8, dI, dH, dG, dF, dE, dD⟩ := pL b6.out a3 fJ fF
          have gX := dD
          have gY := dE
          have gZ := dF
          have g_ := dG
          have h0 := dH
          have h1 := dI
          obtain rfl : aH = i1 := (by injection l8)
          replace dI := kC HB.out dI
          replace dH := kC HB.out dH
          replace dG := kC HB.out dG
          replace dF := kC HB.out dF
          replace dE := kC HB.out dE
          replace dD := kC HB.out dD
          replace fJ := eq_true fJ
          replace fF := eq_true fF
          have fI : 0 ≤ (a3 : Int) := oD (by assumption)
          have fE : a3 < (l0.length : Int) := oD (by assumption)
          obtain ⟨i0, l7, dC, dB, dA, d9, d8, d7⟩ := pL b6.out a3 fI fE
          have gO := d7
          have gP := d8
          have gQ := d9
          have gR := dA
          have gU := dB
          have gV := dC
          obtain rfl : aH = i0 := (by injection l7)
          replace dC := kC HB.out dC
          replace dB := kC HB.out dB
          replace dA := kC HB.out dA
          replace d9 := kC HB.out d9
          replace d8 := kC HB.out d8
          replace d7 := kC HB.out d7
          replace fI := eq_true fI
          replace fE := eq_true fE
          have h7 : 0 ≤ (((kA l0 a3).f2) : Int) := oD (by assumption)
          have h4 : (((kA l0 a3).f2) : Int) < ((b7.length : Int) : Int) := oD (by assumption)
          obtain ⟨hG, nS, jY, hI, gl40, cl40, HG40⟩ := Kd.R_form a5.out oM
          (cases jY)
          have o2 := am hI
          have GG40 := am HG40
          clear hI gl40 HG40
          (simp only [qP] at e4)
          obtain ⟨hE, hf40_0⟩ := Kd.R_celln 0 a5.out (((kA l0 a3).f2) : Int) h7 h4
          replace h7 := eq_true h7
          replace h4 := eq_true h4
          have fQ := Kd.R_putn a5.out (((kA l0 a3).f2) : Int) ((kA l0 a3).f4)
          rw [← i8.out] at fQ
          have HQ43 := am fQ
          clear fQ
          refine tM (n := 13) (S := fun w' => w'.cell? (aH.add ((a3).toNat * 6)) = some (.int .i64 ((kA l0 a3).f0)) ∧ w'.cell? ⟨(aH.add ((a3).toNat * 6)).block, (aH.add ((a3).toNat * 6)).off + 1, none⟩ = some (.int .i64 ((kA l0 a3).f1)) ∧ w'.cell? ⟨(aH.add ((a3).toNat * 6)).block, (aH.add ((a3).toNat * 6)).off + 2, none⟩ = some (.int .i64 ((kA l0 a3).f2)) ∧ w'.cell? ⟨(aH.add ((a3).toNat * 6)).block, (aH.add ((a3).toNat * 6)).off + 3, none⟩ = some (.int .i64 ((kA l0 a3).f3)) ∧ w'.cell? ⟨(aH.add ((a3).toNat * 6)).block, (aH.add ((a3).toNat * 6)).off + 4, none⟩ = some (.int .i64 ((kA l0 a3).f4)) ∧ w'.cell? ⟨(aH.add ((a3).toNat * 6)).block, (aH.add ((a3).toNat * 6)).off + 5, none⟩ = some (.int .i64 ((kA l0 a3).f5)) ∧ w'.cell? (aH.add ((a3).toNat * 6)) = some (.int .i64 ((kA l0 a3).f0)) ∧ w'.cell? ⟨(aH.add ((a3).toNat * 6)).block, (aH.add ((a3).toNat * 6)).off + 1, none⟩ = some (.int .i64 ((kA l0 a3).f1)) ∧ w'.cell? ⟨(aH.add ((a3).toNat * 6)).block, (aH.add ((a3).toNat * 6)).off + 2, none⟩ = some (.int .i64 ((kA l0 a3).f2)) ∧ w'.cell? ⟨(aH.add ((a3).toNat * 6)).block, (aH.add ((a3).toNat * 6)).off + 3, none⟩ = some (.int .i64 ((kA l0 a3).f3)) ∧ w'.cell? ⟨(aH.add ((a3).toNat * 6)).block, (aH.add ((a3).toNat * 6)).off + 4, none⟩ = some (.int .i64 ((kA l0 a3).f4)) ∧ w'.cell? ⟨(aH.add ((a3).toNat * 6)).block, (aH.add ((a3).toNat * 6)).off + 5, none⟩ = some (.int .i64 ((kA l0 a3).f5))) (ds := [12]) c9u (by kernel_rfl) rfl rfl ⟨(kC HB.out h1), (kC HB.out h0), (kC HB.out g_), (kC HB.out gZ), (kC HB.out gY), (kC HB.out gX), (kC HB.out gV), (kC HB.out gU), (kC HB.out gR), (kC HB.out gQ), (kC HB.out gP), (kC HB.out gO)⟩ (fun hHeld => ?_); refine rV a1t a1h (fun HT_ HW_ => ?_)
          generalize wc.drew = w42 at a2 a4 a5 HB GG40 HQ43 hf40_0 e4 dI dH dG dF dE dD dC dB dA d9 d8 d7 hE hHeld ⊢
          refine pT (i := 0) (N := some 72) c9s ?_
          refine pT (i := 1) (N := some 73) c9q ?_
          refine pT (i := 2) (N := some 74) c9o ?_
          refine pT (i := 3) (N := some 75) c9m ?_
          refine pT (i := 4) (N := some 76) c9k ?_
          refine pT (i := 6) (N := some 78) c9i ?_
          refine pT (i := 7) (N := some 79) c9g ?_
          refine pT (i := 8) (N := some 80) c9e ?_
          refine pT (i := 9) (N := some 81) c9c ?_
          refine qF (i := 5) (N := some 77) (v := ?_) (a' := ?_) c4z rfl rfl (pE HT_.out HW_.out (by kernel_rfl)) (fun _ _ _ h => h) (Or.inl ⟨by rfl, ?_⟩) hHeld ?_ ?_
          rotate_left
          ·rintro w' ⟨s0, s1, s2, s3, s4, s5, s6, s7, s8, s9, fA, f9⟩
           go_simp
           with_reducible rfl
          rotate_left
          ·exact pH
          refine qF (i := 10) (N := some 82) (v := ?_) (a' := ?_) c4x rfl rfl (pE HT_.out HW_.out (by kernel_rfl)) (fun _ _ _ h => h) (Or.inl ⟨by rfl, ?_⟩) hHeld ?_ ?_
          rotate_left
          ·rintro w' ⟨s0, s1, s2, s3, s4, s5, s6, s7, s8, s9, fA, f9⟩
           go_simp
           with_reducible rfl
          rotate_left
          ·exact pH
          refine pT (i := 11) (N := some 83) c4v ?_
          refine b3x (i := 12) (N := none) c4t rfl rfl (uW HT_.out (by kernel_rfl)) (by decide) (fun K hK => ?_)
          refine a3w (w1 := ?_) (by rfl) rfl ?_ ?_
          rotate_left
          ·go_simp
           rfl
          refine hK.out _ _ ?_
          clear hK K
          refine yK (yP HT_.out (by kernel_rfl)) ?_
          try go_wp2
          go_roundg hA
          case measure => have := bE.out; have := bD.out; have := bK.out; have := f8.out; omega
          case rel => exact ⟨j7, (wrap64 (a3 + 1)), rfl, H, ⟨by have := bE.out; have := bD.out; have := bK.out; have := f8.out; omega⟩, ⟨sR <| Kd.R_mono (Kd.R_far (p := ⟨hG, (((kA l0 a3).f2) : Int).toNat, none⟩) (Kd.R_types a2.out GG40.out (by decide)) (fun _ hk => hk.2) (.int .i64 ((kA l0 a3).f4))) (fun _ hk => hk.1)⟩, ⟨sR <| Kd.R_mono (Kd.R_far (p := ⟨hG, (((kA l0 a3).f2) : Int).toNat, none⟩) (Kd.R_types a4.out GG40.out (by decide)) (fun _ hk => hk.2) (.int .i64 ((kA l0 a3).f4))) (fun _ hk => hk.1)⟩, ⟨sR <| HQ43.out⟩, ⟨bW⟩⟩
       generalize fV : ([] : List Int) = j5 at H
       have i7 := am fV.symm; clear fV
       replace H := am H
       go_wp2_with (first | ((with_reducible refine qC (N := 84) rfl ?_); (try (refine wQ (by rfl) ?_; dsimp only)); refine Kd.R_lit (Kd.int .i64) _ 3 ?hg (N := 84) ?hd (xs := ([] : List Int)) (inner := []) (ok := fun _ => True) (okp := fun _ => True) ?hr ?hp (fun _ hk => hk) trivial (Below.refl _ _) (Nat.le_refl _) (by simp) ?_; (case hd => rfl); (case hg => rfl); (case hr => (go_simp; done)); (case hp => exact (Reps.none _ _)); intro n1 w45 eT hb hg_ hnew_; clear hg_ hnew_; (rw [← i7.out] at eT); replace a2 := rB a2 hb; replace a4 := rB a4 hb; have iI := am (Kd.R_lower (Kd.R_new' eT (Kd.R_lt (by exact sR <| a5.out))) (kJ (by exact sW HB.out))); replace a5 := rE a5 eT hb; replace HB := hB HB hb; clear hb eT))
       go_loopg [8, 9] k3 (fun kq v8 v9 w' => ∃ (d_ : List Int) (eQ : Int), v9 = .int .i64 eQ ∧ Aside0 (tQ kq l0 aI aJ b7 d_ eQ = some r) ∧ Aside0 (kq ≤ k3) ∧ Aside0 (Kd.R Kd.bool 4 w' w.heap.size (fun k_ => some k_ ≠ (bF : Value).ownBlock) bN aI) ∧ Aside0 (Kd.R Kd.bool 4 w' w.heap.size (fun k_ => some k_ ≠ (bN : Value).ownBlock) bF aJ) ∧ Aside0 (Kd.R (Kd.int .i64) 3 w' w.heap.size (fun k_ => some k_ ≠ (v8 : Value).ownBlock) u5 b7) ∧ Aside0 (Kd.R (Kd.int .i64) 3 w' w.heap.size (fun k_ => some k_ ≠ (u5 : Value).ownBlock) v8 d_) ∧ Aside0 (Below w.heap.size w w'))
       case atStart => exact ⟨j5, 0, rfl, H, ⟨Nat.le_refl _⟩, ⟨sR <| a2.out⟩, ⟨sR <| a4.out⟩, ⟨sR <| Kd.R_mono a5.out (fun _ hk => hk.2)⟩, ⟨sR <| Kd.R_mono iI.out (fun _ hk => hk.2)⟩, ⟨sW HB.out⟩⟩
       case round => as_aux_lemma =>
        clear H
        clear eV
        obtain ⟨d_, eQ, rfl, HA, cM, a2, a4, a5, a6, HB⟩ := hrel
        cases gk with
        | zero => cases HA.out
        | succ k4 =>
         obtain ⟨H⟩ := HA
         simp only [tQ] at H
         replace H := iD H; rcases H with ⟨f_, H⟩ | ⟨f_, H⟩
         ·replace H := iP H; obtain ⟨iW, H⟩ := H
          have iC := am iW
          clear iW
          generalize fU : d_ ++ [0] = i_ at H
          have i6 := am fU.symm; clear fU
          replace H := am H
          go_wp2_with (first | ((with_reducible refine qG (b := .append) (xs := #[.tmp 91, .tmp 92]) rfl ?_); (try (refine wQ (by rfl) ?_; dsimp only)); at_builtin; refine Kd.R_append (Kd.int .i64) (w0 := w) w.heap.size rfl (.tmp 91) (.tmp 92) 25 3 (.int .i64 0) 8 rfl Try.underlying25 b4a rfl (by decide) oM u8 d_ 0 [.int .i64 0] (fun k_ => some k_ ≠ (u5 : Value).ownBlock) (fun _ => False) rfl rfl ?aP (fun _ hk => hk.elim) ?aF ?aO ?aB ?aS ?aL ?_; (case aP => exact rfl); (case aB => exact (by exact sW HB.out)); (case aF => exact (fun k_ hk => Kd.fresh' (Kd.R_lt (by exact sR <| a5.out)) k_ hk)); (case aO => exact (by exact sR <| a6.out)); (case aS => exact (kJ (by exact sW HB.out))); (case aL => have := iC.out; omega); intro n0 w49 ho hb hg hat; rw [← i6.out] at ho; replace a2 := oV a2 a6 hg; replace a4 := oV a4 a6 hg; replace a5 := am (Kd.R_after (ok := (fun _ => True)) (by exact sR <| Kd.R_mono a5.out (fun _ hk => ⟨trivial, hk⟩)) hg hat); replace HB := am hb; have iH := am ho; clear a6; clear ho hb hg hat))
          go_roundg k4
          case measure => have := bE.out; have := bD.out; have := bK.out; have := cM.out; omega
          case rel => exact ⟨i_, (wrap64 (eQ + 1)), rfl, H, ⟨by have := bE.out; have := bD.out; have := bK.out; have := cM.out; omega⟩, ⟨sR <| a2.out⟩, ⟨sR <| a4.out⟩, ⟨sR <| Kd.R_mono a5.out (fun _ hk => hk.2)⟩, ⟨sR <| iH.out⟩, ⟨sW HB.out⟩⟩
         replace H := am H
         go_wp2
         go_loopg [10] k4 (fun kq lM w' => ∃ (bM : List Int) (a0 : Int), lM = .int .i64 a0 ∧ Aside0 (sI kq l0 aI aJ b7 bM a0 = some r) ∧ Aside0 (kq ≤ k4) ∧ Aside0 (Kd.R Kd.bool 4 w' w.heap.size (fun k_ => some k_ ≠ (bF : Value).ownBlock) bN aI) ∧ Aside0 (Kd.R Kd.bool 4 w' w.heap.size (fun k_ => some k_ ≠ (bN : Value).ownBlock) bF aJ) ∧ Aside0 (Kd.R (Kd.int .i64) 3 w' w.heap.size (fun k_ => some k_ ≠ (u8 : Value).ownBlock) u5 b7) ∧ Aside0 (Kd.R (Kd.int .i64) 3 w' w.heap.size (fun k_ => some k_ ≠ (u5 : Value).ownBlock) u8 bM) ∧ Aside0 (Below w.heap.size w w'))
         case atStart => exact ⟨d_, 0, rfl, H, ⟨Nat.le_refl _⟩, ⟨sR <| a2.out⟩, ⟨sR <| a4.out⟩, ⟨sR <| a5.out⟩, ⟨sR <| a6.out⟩, ⟨sW HB.out⟩⟩
         case round => as_aux_lemma =>
          clear H
          clear f_
          obtain ⟨bM, a0, rfl, HA, cV, a2, a4, a5, a6, HB⟩ := hrel
          cases gk with
          | zero => cases HA.out
          | succ k5 =>
           obtain ⟨H⟩ := HA
           simp only [sI] at H
           replace H := iD H; rcases H with ⟨fZ, H⟩ | ⟨fZ, H⟩
           rotate_left
           ·replace H := am H
            go_wp2
            go_loopg [13] k5 (fun kq lK w' => ∃ (aE : Int), lK = .int .i64 aE ∧ Aside0 (rI kq l0 aI aJ bM aE = some r) ∧ Aside0 (kq ≤ k5) ∧ Aside0 (Kd.R Kd.bool 4 w' w.heap.size (fun k_ => some k_ ≠ (bF : Value).ownBlock) bN aI) ∧ Aside0 (Kd.R Kd.bool 4 w' w.heap.size (fun k_ => some k_ ≠ (bN : Value).ownBlock) bF aJ) ∧ Aside0 (Kd.R (Kd.int .i64) 3 w' w.heap.size (fun _ => True) u8 bM) ∧ Aside0 (Below w.heap.size w w'))
            case atStart => exact ⟨0, rfl, H, ⟨Nat.le_refl _⟩, ⟨sR <| a2.out⟩, ⟨sR <| a4.out⟩, ⟨sR <| Kd.R_mono a6.out (fun _ hk => trivial)⟩, ⟨sW HB.out⟩⟩
            case round => as_aux_lemma =>
             clear H
             clear fZ
             obtain ⟨aE, rfl, HA, iY, a2, a4, a6, HB⟩ := hrel
             cases gk with
             | zero => cases HA.out
             | succ k6 =>
              obtain ⟨H⟩ := HA
              simp only [rI] at H
              replace H := iD H; rcases H with ⟨hM, H⟩ | ⟨hM, H⟩
              rotate_left
              ·obtain rfl := oI H
               go_wp2
               go_ret
               exact ⟨rfl, sW HB.out⟩
              replace H := iN H; obtain ⟨m6, H⟩ := H
              replace H := iN H; obtain ⟨m5, H⟩ := H
              generalize hbq100 : vD false aI aE = mO at H
              have cJ := am hbq100.symm; clear hbq100
              replace H := iB H; rcases H with ⟨rfl, H⟩ | ⟨rfl, H⟩
              rotate_left
              ·replace H := am H
               obtain ⟨mS, lX, rfl⟩ := Kd.R_slice a2.out
               have bH : 0 ≤ (aE : Int) := oD (by assumption)
               have bG : aE < (aI.length : Int) := oD (by assumption)
               obtain ⟨eW, dV, bA⟩ := Kd.at_bool (Kd.R_reads' a2.out).2.2 aE bH bG
               (try rw [← cJ.out] at bA)
               cases dV
               replace bH := eq_true bH
               replace bG := eq_true bG
               exact b4n
              replace H := iN H; obtain ⟨lP, H⟩ := H
              generalize hbq103 : vD false aJ aE = mN at H
              have cT := am hbq103.symm; clear hbq103
              replace H := iB H; rcases H with ⟨rfl, H⟩ | ⟨rfl, H⟩
              rotate_left
              ·replace H := am H
               obtain ⟨mU, lZ, rfl⟩ := Kd.R_slice a2.out
               have bH : 0 ≤ (aE : Int) := oD (by assumption)
               have bG : aE < (aI.length : Int) := oD (by assumption)
               obtain ⟨eW, dV, bA⟩ := Kd.at_bool (Kd.R_reads' a2.out).2.2 aE bH bG
               (try rw [← cJ.out] at bA)
               (try rw [← cT.out] at bA)
               cases dV
               replace bH := eq_true bH
               replace bG := eq_true bG
               obtain ⟨mT, lY, rfl⟩ := Kd.R_slice a4.out
               have cG : 0 ≤ (aE : Int) := oD (by assumption)
               have cC : aE < (aJ.length : Int) := oD (by assumption)
               obtain ⟨g1, e8, bI⟩ := Kd.at_bool (Kd.R_reads' a4.out).2.2 aE cG cC
               (try rw [← cJ.out] at bI)
               (try rw [← cT.out] at bI)
               cases e8
               replace cG := eq_true cG
               replace cC := eq_true cC
               exact b4n
              replace H := iN H; obtain ⟨lO, H⟩ := H
              by_cases e6 : (rd bM aE) > 1
              ·rw [if_pos e6] at H
               have hJ : decide (1 < (rd bM aE)) = true := decide_eq_true e6
               clear e6
               obtain rfl := oI H
               obtain ⟨m_, m4, rfl⟩ := Kd.R_slice a2.out
               have bH : 0 ≤ (aE : Int) := oD (by assumption)
               have bG : aE < (aI.length : Int) := oD (by assumption)
               obtain ⟨eW, dV, bA⟩ := Kd.at_bool (Kd.R_reads' a2.out).2.2 aE bH bG
               (try rw [← cJ.out] at bA)
               (try rw [← cT.out] at bA)
               cases dV
               replace bH := eq_true bH
               replace bG := eq_true bG
               obtain ⟨mZ, m3, rfl⟩ := Kd.R_slice a4.out
               have cG : 0 ≤ (aE : Int) := oD (by assumption)
               have cC : aE < (aJ.length : Int) := oD (by assumption)
               obtain ⟨g1, e8, bI⟩ := Kd.at_bool (Kd.R_reads' a4.out).2.2 aE cG cC
               (try rw [← cJ.out] at bI)
               (try rw [← cT.out] at bI)
               cases e8
               replace cG := eq_true cG
               replace cC := eq_true cC
               obtain ⟨mY, m2, rfl⟩ := Kd.R_slice a6.out
               obtain ⟨jK, jF, hW, rfl, g6⟩ := ix (Kd.at_int (Kd.R_reads' a6.out).2.2 aE)
               go_wp2
               go_ret
               exact ⟨rfl, sW HB.out⟩
              rw [if_neg e6] at H
              have hJ : decide (1 < (rd bM aE)) = false := decide_eq_false e6
              clear e6
              replace H := am H
              obtain ⟨mX, m1, rfl⟩ := Kd.R_slice a2.out
              have bH : 0 ≤ (aE : Int) := oD (by assumption)
              have bG : aE < (aI.length : Int) := oD (by assumption)
              obtain ⟨eW, dV, bA⟩ := Kd.at_bool (Kd.R_reads' a2.out).2.2 aE bH bG
              (try rw [← cJ.out] at bA)
              (try rw [← cT.out] at bA)
              cases dV
              replace bH := eq_true bH
              replace bG := eq_true bG
              obtain ⟨mW, m0, rfl⟩ := Kd.R_slice a4.out
              have cG : 0 ≤ (aE : Int) := oD (by assumption)
              have cC : aE < (aJ.length : Int) := oD (by assumption)
              obtain ⟨g1, e8, bI⟩ := Kd.at_bool (Kd.R_reads' a4.out).2.2 aE cG cC
              (try rw [← cJ.out] at bI)
              (try rw [← cT.out] at bI)
              cases e8
              replace cG := eq_true cG
              replace cC := eq_true cC
              obtain ⟨mV, l_, rfl⟩ := Kd.R_slice a6.out
              obtain ⟨jK, jF, hW, rfl, g6⟩ := ix (Kd.at_int (Kd.R_reads' a6.out).2.2 aE)
              exact b4n
           replace H := iN H; obtain ⟨mG, H⟩ := H
           replace H := iN H; obtain ⟨mF, H⟩ := H
           generalize hbq53 : vD false aI a0 = n_ at H
           have dJ := am hbq53.symm; clear hbq53
           replace H := iB H; rcases H with ⟨rfl, H⟩ | ⟨rfl, H⟩
           rotate_left
           ·replace H := am H
            obtain ⟨o3, nE, rfl⟩ := Kd.R_slice a2.out
            have dS : 0 ≤ (a0 : Int) := oD (by assumption)
            have dN : a0 < (aI.length : Int) := oD (by assumption)
            obtain ⟨dZ, fN, e3⟩ := Kd.at_bool (Kd.R_reads' a2.out).2.2 a0 dS dN
            (try rw [← dJ.out] at e3)
            cases fN
            replace dS := eq_true dS
            replace dN := eq_true dN
            go_wp2
            go_roundg k5
            case measure => have := bE.out; have := bD.out; have := bK.out; have := cM.out; have := cV.out; omega
            case rel => exact ⟨bM, (wrap64 (a0 + 1)), rfl, H, ⟨by have := bE.out; have := bD.out; have := bK.out; have := cM.out; have := cV.out; omega⟩, ⟨sR <| a2.out⟩, ⟨sR <| a4.out⟩, ⟨sR <| a5.out⟩, ⟨sR <| a6.out⟩, ⟨sW HB.out⟩⟩
           have fR := am H; clear H
           obtain ⟨oH, eU, rfl⟩ := Kd.R_slice a2.out
           have dS : 0 ≤ (a0 : Int) := oD (by assumption)
           have dN : a0 < (aI.length : Int) := oD (by assumption)
           obtain ⟨dZ, fN, e3⟩ := Kd.at_bool (Kd.R_reads' a2.out).2.2 a0 dS dN
           (try rw [← dJ.out] at e3)
           cases fN
           replace dS := eq_true dS
           replace dN := eq_true dN
           go_upto_region 25 with (fail)
           go_cut [141] (fun jA wc => ∃ (kq : Nat) (e1 : Bool), jA = .bool e1 ∧ Aside0 (qJ kq l0 aI aJ b7 bM a0 e1 = some r) ∧ Aside0 (kq ≤ k5) ∧ Aside0 (Kd.R Kd.bool 4 wc w.heap.size (fun k_ => some k_ ≠ (bF : Value).ownBlock) (.slice (some dZ) aI.length eU) aI) ∧ Aside0 (Kd.R Kd.bool 4 wc w.heap.size (fun k_ => some k_ ≠ ((.slice (some dZ) aI.length eU) : Value).ownBlock) bF aJ) ∧ Aside0 (Kd.R (Kd.int .i64) 3 wc w.heap.size (fun k_ => some k_ ≠ (u8 : Value).ownBlock) u5 b7) ∧ Aside0 (Kd.R (Kd.int .i64) 3 wc w.heap.size (fun k_ => some k_ ≠ (u5 : Value).ownBlock) u8 bM) ∧ Aside0 (Below w.heap.size w wc))
           case first => as_aux_lemma =>
            have H := fR.out
            clear fR
            replace H := iE H; rcases H with ⟨hT, hS, H⟩ | ⟨hT, hS, H⟩
            rotate_left
            ·replace H := iN H; obtain ⟨mB, H⟩ := H
             generalize hbq74 : vD false aJ a0 = nY at H
             have g2 := am hbq74.symm; clear hbq74
             replace H := iB H; rcases H with ⟨rfl, H⟩ | ⟨rfl, H⟩
             rotate_left
             ·replace H := am H
              try go_wp2
              replace a2 := am (Kd.R_drew a2.out)
              replace a4 := am (Kd.R_drew a4.out)
              replace a5 := am (Kd.R_drew a5.out)
              replace a6 := am (Kd.R_drew a6.out)
              replace HB := am (kO HB.out)
              have b9 : 0 ≤ (a0 : Int) := oD (by assumption)
              have b8 : a0 < (l0.length : Int) := oD (by assumption)
              obtain ⟨a1, cU, aD, aC, aA, a9, a8, a7⟩ := pL b6.out a0 b9 b8
              have b0 := a7
              have b1 := a8
              have b2 := a9
              have b3 := aA
              have b4 := aC
              have b5 := aD
              cases cU
              replace aD := kC HB.out aD
              replace aC := kC HB.out aC
              replace aA := kC HB.out aA
              replace a9 := kC HB.out a9
              replace a8 := kC HB.out a8
              replace a7 := kC HB.out a7
              replace b9 := eq_true b9
              replace b8 := eq_true b8
              obtain ⟨o7, nJ, jR⟩ := Kd.R_slice a4.out
              (subst jR)
              have dP : 0 ≤ (a0 : Int) := oD (by assumption)
              have dL : a0 < (aJ.length : Int) := oD (by assumption)
              obtain ⟨eY, fL, bB⟩ := Kd.at_bool (Kd.R_reads' a4.out).2.2 a0 dP dL
              (try rw [← dJ.out] at bB)
              (try rw [← g2.out] at bB)
              cases fL
              replace dP := eq_true dP
              replace dL := eq_true dL
              refine tM (n := 37) (S := fun w' => w'.cell? (a1.add ((a0).toNat * 6)) = some (.int .i64 ((kA l0 a0).f0)) ∧ w'.cell? ⟨(a1.add ((a0).toNat * 6)).block, (a1.add ((a0).toNat * 6)).off + 1, none⟩ = some (.int .i64 ((kA l0 a0).f1)) ∧ w'.cell? ⟨(a1.add ((a0).toNat * 6)).block, (a1.add ((a0).toNat * 6)).off + 2, none⟩ = some (.int .i64 ((kA l0 a0).f2)) ∧ w'.cell? ⟨(a1.add ((a0).toNat * 6)).block, (a1.add ((a0).toNat * 6)).off + 3, none⟩ = some (.int .i64 ((kA l0 a0).f3)) ∧ w'.cell? ⟨(a1.add ((a0).toNat * 6)).block, (a1.add ((a0).toNat * 6)).off + 4, none⟩ = some (.int .i64 ((kA l0 a0).f4)) ∧ w'.cell? ⟨(a1.add ((a0).toNat * 6)).block, (a1.add ((a0).toNat * 6)).off + 5, none⟩ = some (.int .i64 ((kA l0 a0).f5)) ∧ w'.cell? (eY.add (a0).toNat) = some (.bool false)) (ds := []) a5c (by kernel_rfl) rfl rfl ⟨(kC HB.out b5), (kC HB.out b4), (kC HB.out b3), (kC HB.out b2), (kC HB.out b1), (kC HB.out b0), bB⟩ (fun hHeld => ?_); refine rV uI tT (fun HT_ HW_ => ?_)
              generalize wr.drew = w79 at a2 a4 a5 a6 HB aD aC aA a9 a8 a7 bB hHeld ⊢
              refine pT (i := 0) (N := some 105) a5b ?_
              refine pT (i := 1) (N := some 106) a5a ?_
              refine pT (i := 2) (N := some 107) a4z ?_
              refine pT (i := 3) (N := some 108) a4y ?_
              refine qF (i := 4) (N := some 109) (v := ?_) (a' := ?_) a4x rfl rfl (pE HT_.out HW_.out (by kernel_rfl)) (fun _ _ _ h => h) (Or.inl ⟨by rfl, ?_⟩) hHeld ?_ ?_
              rotate_left
              ·rintro w' ⟨s0, s1, s2, s3, s4, s5, s6⟩
               go_simp
               with_reducible rfl
              rotate_left
              ·exact pH
              refine pT (i := 5) (N := some 110) a4w ?_
              refine pT (i := 6) (N := some 111) a4v ?_
              refine pN (i := 7) (N := some 112) (v := undef) (a' := ?_) a4u rfl rfl (qO HT_.out (by kernel_rfl)) (fun _ _ _ h => h) (Or.inr ⟨by rfl, rfl⟩) ?_ ?_
              rotate_left
              ·exact pH
              refine pN (i := 8) (N := some 113) (v := undef) (a' := ?_) a4t rfl rfl (qO HT_.out (by kernel_rfl)) (fun _ _ _ h => h) (Or.inr ⟨by rfl, rfl⟩) ?_ ?_
              rotate_left
              ·exact pH
              refine pN (i := 9) (N := some 114) (v := undef) (a' := ?_) a4s rfl rfl (qO HT_.out (by kernel_rfl)) (fun _ _ _ h => h) (Or.inr ⟨by rfl, rfl⟩) ?_ ?_
              rotate_left
              ·exact pH
              refine pN (i := 10) (N := some 115) (v := undef) (a' := ?_) a4r rfl rfl (qO HT_.out (by kernel_rfl)) (fun _ _ _ h => h) (Or.inr ⟨by rfl, rfl⟩) ?_ ?_
              rotate_left
              ·exact pH
              refine pN (i := 11) (N := some 116) (v := undef) (a' := ?_) a4q rfl rfl (qO HT_.out (by kernel_rfl)) (fun _ _ _ h => h) (Or.inr ⟨by rfl, rfl⟩) ?_ ?_
              rotate_left
              ·exact pH
              refine pN (i := 12) (N := some 117) (v := undef) (a' := ?_) b5y rfl rfl (qO HT_.out (by kernel_rfl)) (fun _ _ _ h => h) (Or.inr ⟨by rfl, rfl⟩) ?_ ?_
              rotate_left
              ·exact pH
              refine pN (i := 13) (N := some 118) (v := undef) (a' := ?_) b5x rfl rfl (qO HT_.out (by kernel_rfl)) (fun _ _ _ h => h) (Or.inr ⟨by rfl, rfl⟩) ?_ ?_
              rotate_left
              ·exact pH
              refine pN (i := 14) (N := some 119) (v := undef) (a' := ?_) b5w rfl rfl (qO HT_.out (by kernel_rfl)) (fun _ _ _ h => h) (Or.inr ⟨by rfl, rfl⟩) ?_ ?_
              rotate_left
              ·exact pH
              refine pN (i := 15) (N := some 120) (v := undef) (a' := ?_) b5v rfl rfl (qO HT_.out (by kernel_rfl)) (fun _ _ _ h => h) (Or.inr ⟨by rfl, rfl⟩) ?_ ?_
              rotate_left
              ·exact pH
              refine pN (i := 16) (N := some 121) (v := undef) (a' := ?_) b5u rfl rfl (qO HT_.out (by kernel_rfl)) (fun _ _ _ h => h) (Or.inr ⟨by rfl, rfl⟩) ?_ ?_
              rotate_left
              ·exact pH
              refine pN (i := 17) (N := some 122) (v := undef) (a' := ?_) b5t rfl rfl (qO HT_.out (by kernel_rfl)) (fun _ _ _ h => h) (Or.inr ⟨by rfl, rfl⟩) ?_ ?_
              rotate_left
              ·exact pH
              refine pN (i := 18) (N := some 123) (v := undef) (a' := ?_) a4p rfl rfl (qO HT_.out (by kernel_rfl)) (fun _ _ _ h => h) (Or.inr ⟨by rfl, rfl⟩) ?_ ?_
              rotate_left
              ·exact pH
              refine pN (i := 19) (N := some 124) (v := undef) (a' := ?_) a4o rfl rfl (qO HT_.out (by kernel_rfl)) (fun _ _ _ h => h) (Or.inr ⟨by rfl, rfl⟩) ?_ ?_
              rotate_left
              ·exact pH
              refine pN (i := 20) (N := some 125) (v := undef) (a' := ?_) a4n rfl rfl (qO HT_.out (by kernel_rfl)) (fun _ _ _ h => h) (Or.inr ⟨by rfl, rfl⟩) ?_ ?_
              rotate_left
              ·exact pH
              refine pT (i := 21) (N := some 126) a4m ?_
              refine pT (i := 22) (N := some 127) a4l ?_
              refine pT (i := 23) (N := some 128) a4k ?_
              refine pT (i := 24) (N := some 129) a4j ?_
              refine pT (i := 25) (N := some 130) a4i ?_
              refine qF (i := 26) (N := some 131) (v := ?_) (a' := ?_) a4h rfl rfl (pE HT_.out HW_.out (by kernel_rfl)) (fun _ _ _ h => h) (Or.inl ⟨by rfl, ?_⟩) hHeld ?_ ?_
              rotate_left
              ·rintro w' ⟨s0, s1, s2, s3, s4, s5, s6⟩
               go_simp
               with_reducible rfl
              rotate_left
              ·exact pH
              exact c1v
             replace H := oA H; obtain ⟨jB, lR, H⟩ := H
             replace H := am H
             try go_wp2
             replace a2 := am (Kd.R_drew a2.out)
             replace a4 := am (Kd.R_drew a4.out)
             replace a5 := am (Kd.R_drew a5.out)
             replace a6 := am (Kd.R_drew a6.out)
             replace HB := am (kO HB.out)
             have b9 : 0 ≤ (a0 : Int) := oD (by assumption)
             have b8 : a0 < (l0.length : Int) := oD (by assumption)
             obtain ⟨a1, cU, aD, aC, aA, a9, a8, a7⟩ := pL b6.out a0 b9 b8
             have b0 := a7
             have b1 := a8
             have b2 := a9
             have b3 := aA
             have b4 := aC
             have b5 := aD
             cases cU
             replace aD := kC HB.out aD
             replace aC := kC HB.out aC
             replace aA := kC HB.out aA
             replace a9 := kC HB.out a9
             replace a8 := kC HB.out a8
             replace a7 := kC HB.out a7
             replace b9 := eq_true b9
             replace b8 := eq_true b8
             obtain ⟨o8, nK, jS⟩ := Kd.R_slice a4.out
             (subst jS)
             have dP : 0 ≤ (a0 : Int) := oD (by assumption)
             have dL : a0 < (aJ.length : Int) := oD (by assumption)
             obtain ⟨eY, fL, bB⟩ := Kd.at_bool (Kd.R_reads' a4.out).2.2 a0 dP dL
             (try rw [← dJ.out] at bB)
             (try rw [← g2.out] at bB)
             cases fL
             replace dP := eq_true dP
             replace dL := eq_true dL
             have fG : 0 ≤ (a0 : Int) := oD (by assumption)
             have fC : a0 < (l0.length : Int) := oD (by assumption)
             obtain ⟨hZ, j_, d0, c_, cZ, cY, cX, cW⟩ := pL b6.out a0 fG fC
             have eD := cW
             have eE := cX
             have eF := cY
             have eG := cZ
             have eH := c_
             have eI := d0
             obtain rfl : a1 = hZ := (by injection j_)
             replace d0 := kC HB.out d0
             replace c_ := kC HB.out c_
             replace cZ := kC HB.out cZ
             replace cY := kC HB.out cY
             replace cX := kC HB.out cX
             replace cW := kC HB.out cW
             replace fG := eq_true fG
             replace fC := eq_true fC
             refine tM (n := 37) (S := fun w' => w'.cell? (a1.add ((a0).toNat * 6)) = some (.int .i64 ((kA l0 a0).f0)) ∧ w'.cell? ⟨(a1.add ((a0).toNat * 6)).block, (a1.add ((a0).toNat * 6)).off + 1, none⟩ = some (.int .i64 ((kA l0 a0).f1)) ∧ w'.cell? ⟨(a1.add ((a0).toNat * 6)).block, (a1.add ((a0).toNat * 6)).off + 2, none⟩ = some (.int .i64 ((kA l0 a0).f2)) ∧ w'.cell? ⟨(a1.add ((a0).toNat * 6)).block, (a1.add ((a0).toNat * 6)).off + 3, none⟩ = some (.int .i64 ((kA l0 a0).f3)) ∧ w'.cell? ⟨(a1.add ((a0).toNat * 6)).block, (a1.add ((a0).toNat * 6)).off + 4, none⟩ = some (.int .i64 ((kA l0 a0).f4)) ∧ w'.cell? ⟨(a1.add ((a0).toNat * 6)).block, (a1.add ((a0).toNat * 6)).off + 5, none⟩ = some (.int .i64 ((kA l0 a0).f5)) ∧ w'.cell? (eY.add (a0).toNat) = some (.bool true) ∧ w'.cell? (a1.add ((a0).toNat * 6)) = some (.int .i64 ((kA l0 a0).f0)) ∧ w'.cell? ⟨(a1.add ((a0).toNat * 6)).block, (a1.add ((a0).toNat * 6)).off + 1, none⟩ = some (.int .i64 ((kA l0 a0).f1)) ∧ w'.cell? ⟨(a1.add ((a0).toNat * 6)).block, (a1.add ((a0).toNat * 6)).off + 2, none⟩ = some (.int .i64 ((kA l0 a0).f2)) ∧ w'.cell? ⟨(a1.add ((a0).toNat * 6)).block, (a1.add ((a0).toNat * 6)).off + 3, none⟩ = some (.int .i64 ((kA l0 a0).f3)) ∧ w'.cell? ⟨(a1.add ((a0).toNat * 6)).block, (a1.add ((a0).toNat * 6)).off + 4, none⟩ = some (.int .i64 ((kA l0 a0).f4)) ∧ w'.cell? ⟨(a1.add ((a0).toNat * 6)).block, (a1.add ((a0).toNat * 6)).off + 5, none⟩ = some (.int .i64 ((kA l0 a0).f5))) (ds := []) a5c (by kernel_rfl) rfl rfl ⟨(kC HB.out b5), (kC HB.out b4), (kC HB.out b3), (kC HB.out b2), (kC HB.out b1), (kC HB.out b0), bB, (kC HB.out eI), (kC HB.out eH), (kC HB.out eG), (kC HB.out eF), (kC HB.out eE), (kC HB.out eD)⟩ (fun hHeld => ?_); refine rV uI tT (fun HT_ HW_ => ?_)
             generalize wr.drew = w77 at a2 a4 a5 a6 HB aD aC aA a9 a8 a7 bB d0 c_ cZ cY cX cW hHeld ⊢
             refine pT (i := 0) (N := some 105) a5b ?_
             refine pT (i := 1) (N := some 106) a5a ?_
             refine pT (i := 2) (N := some 107) a4z ?_
             refine pT (i := 3) (N := some 108) a4y ?_
             refine qF (i := 4) (N := some 109) (v := ?_) (a' := ?_) a4x rfl rfl (pE HT_.out HW_.out (by kernel_rfl)) (fun _ _ _ h => h) (Or.inl ⟨by rfl, ?_⟩) hHeld ?_ ?_
             rotate_left
             ·exact b4i
             rotate_left
             ·exact pH
             refine pT (i := 5) (N := some 110) a4w ?_
             refine pT (i := 6) (N := some 111) a4v ?_
             refine pN (i := 7) (N := some 112) (v := undef) (a' := ?_) a4u rfl rfl (qO HT_.out (by kernel_rfl)) (fun _ _ _ h => h) (Or.inr ⟨by rfl, rfl⟩) ?_ ?_
             rotate_left
             ·exact pH
             refine pN (i := 8) (N := some 113) (v := undef) (a' := ?_) a4t rfl rfl (qO HT_.out (by kernel_rfl)) (fun _ _ _ h => h) (Or.inr ⟨by rfl, rfl⟩) ?_ ?_
             rotate_left
             ·exact pH
             refine pN (i := 9) (N := some 114) (v := undef) (a' := ?_) a4s rfl rfl (qO HT_.out (by kernel_rfl)) (fun _ _ _ h => h) (Or.inr ⟨by rfl, rfl⟩) ?_ ?_
             rotate_left
             ·exact pH
             refine pN (i := 10) (N := some 115) (v := undef) (a' := ?_) a4r rfl rfl (qO HT_.out (by kernel_rfl)) (fun _ _ _ h => h) (Or.inr ⟨by rfl, rfl⟩) ?_ ?_
             rotate_left
             ·exact pH
             refine pN (i := 11) (N := some 116) (v := undef) (a' := ?_) a4q rfl rfl (qO HT_.out (by kernel_rfl)) (fun _ _ _ h => h) (Or.inr ⟨by rfl, rfl⟩) ?_ ?_
             rotate_left
             ·exact pH
             refine pN (i := 12) (N := some 117) (v := undef) (a' := ?_) b5y rfl rfl (qO HT_.out (by kernel_rfl)) (fun _ _ _ h => h) (Or.inr ⟨by rfl, rfl⟩) ?_ ?_
             rotate_left
             ·exact pH
             refine pN (i := 13) (N := some 118) (v := undef) (a' := ?_) b5x rfl rfl (qO HT_.out (by kernel_rfl)) (fun _ _ _ h => h) (Or.inr ⟨by rfl, rfl⟩) ?_ ?_
             rotate_left
             ·exact pH
             refine pN (i := 14) (N := some 119) (v := undef) (a' := ?_) b5w rfl rfl (qO HT_.out (by kernel_rfl)) (fun _ _ _ h => h) (Or.inr ⟨by rfl, rfl⟩) ?_ ?_
             rotate_left
             ·exact pH
             refine pN (i := 15) (N := some 120) (v := undef) (a' := ?_) b5v rfl rfl (qO HT_.out (by kernel_rfl)) (fun _ _ _ h => h) (Or.inr ⟨by rfl, rfl⟩) ?_ ?_
             rotate_left
             ·exact pH
             refine pN (i := 16) (N := some 121) (v := undef) (a' := ?_) b5u rfl rfl (qO HT_.out (by kernel_rfl)) (fun _ _ _ h => h) (Or.inr ⟨by rfl, rfl⟩) ?_ ?_
             rotate_left
             ·exact pH
             refine pN (i := 17) (N := some 122) (v := undef) (a' := ?_) b5t rfl rfl (qO HT_.out (by kernel_rfl)) (fun _ _ _ h => h) (Or.inr ⟨by rfl, rfl⟩) ?_ ?_
             rotate_left
             ·exact pH
             refine pN (i := 18) (N := some 123) (v := undef) (a' := ?_) a4p rfl rfl (qO HT_.out (by kernel_rfl)) (fun _ _ _ h => h) (Or.inr ⟨by rfl, rfl⟩) ?_ ?_
             rotate_left
             ·exact pH
             refine pN (i := 19) (N := some 124) (v := undef) (a' := ?_) a4o rfl rfl (qO HT_.out (by kernel_rfl)) (fun _ _ _ h => h) (Or.inr ⟨by rfl, rfl⟩) ?_ ?_
             rotate_left
             ·exact pH
             refine pN (i := 20) (N := some 125) (v := undef) (a' := ?_) a4n rfl rfl (qO HT_.out (by kernel_rfl)) (fun _ _ _ h => h) (Or.inr ⟨by rfl, rfl⟩) ?_ ?_
             rotate_left
             ·exact pH
             refine pT (i := 21) (N := some 126) a4m ?_
             refine pT (i := 22) (N := some 127) a4l ?_
             refine pT (i := 23) (N := some 128) a4k ?_
             refine pT (i := 24) (N := some 129) a4j ?_
             refine pT (i := 25) (N := some 130) a4i ?_
             refine qF (i := 26) (N := some 131) (v := ?_) (a' := ?_) a4h rfl rfl (pE HT_.out HW_.out (by kernel_rfl)) (fun _ _ _ h => h) (Or.inl ⟨by rfl, ?_⟩) hHeld ?_ ?_
             rotate_left
             ·exact b4i
             rotate_left
             ·exact pH
             refine pT (i := 27) (N := some 132) a8a ?_
             refine pT (i := 28) (N := some 133) a7z ?_
             refine pT (i := 29) (N := some 134) a7y ?_
             refine pT (i := 30) (N := some 135) a7x ?_
             refine pT (i := 31) (N := some 136) a7w ?_
             refine qF (i := 32) (N := some 137) (v := ?_) (a' := ?_) a7v rfl rfl (pE HT_.out HW_.out (by kernel_rfl)) (fun _ _ _ h => h) (Or.inl ⟨by rfl, ?_⟩) hHeld ?_ ?_
             rotate_left
             ·exact b4i
             rotate_left
             ·exact pH
             refine yN (i := 33) (N := some 138) a7u rfl rfl (uW HT_.out (by kernel_rfl)) (by decide) (fun K hK => ?_)
             refine yB Try.func107 (by kernel_rfl) rfl #[.int .i64 ((kA l0 a0).f0)] (by rfl) rfl rfl tm ?_
             with_reducible refine (spec_l02Outer.calls lR.out).mono ?_
             rintro e w' ⟨rfl, ⟨nd, rfl⟩⟩
             refine ⟨_, rfl, ?_⟩
             refine hK.out _ _ ⟨(kC HB.out b5), (kC HB.out b4), (kC HB.out b3), (kC HB.out b2), (kC HB.out b1), (kC HB.out b0), hHeld.2.2.2.2.2.2.1, (kC HB.out eI), (kC HB.out eH), (kC HB.out eG), (kC HB.out eF), (kC HB.out eE), (kC HB.out eD)⟩ (fun hHeld => ?_)
             clear hK K
             refine rO (a' := ?_) ?_ ?_
             rotate_left
             ·show Act.put _ (some 138) _ = _
              exact pH
             refine pT (i := 34) (N := some 139) a7t ?_
             refine pT (i := 35) (N := some 140) a7s ?_
             refine pT (i := 36) (N := some 141) a7r ?_
             refine yK (yP HT_.out (by kernel_rfl)) ?_
             try go_wp2
             go_meet
             case rel => exact ⟨_, (!jB), rfl, H, ⟨by have := bE.out; have := bD.out; have := bK.out; have := cM.out; have := cV.out; omega⟩, ⟨sR <| a2.out⟩, ⟨sR <| a4.out⟩, ⟨sR <| a5.out⟩, ⟨sR <| a6.out⟩, ⟨sW HB.out⟩⟩
            replace H := iN H; obtain ⟨mE, H⟩ := H
            replace H := iN H; obtain ⟨mD, H⟩ := H
            replace H := iE H; rcases H with ⟨hR, hQ, H⟩ | ⟨hR, hQ, H⟩
            rotate_left
            ·replace H := am H
             try go_wp2
             replace a2 := am (Kd.R_drew a2.out)
             replace a4 := am (Kd.R_drew a4.out)
             replace a5 := am (Kd.R_drew a5.out)
             replace a6 := am (Kd.R_drew a6.out)
             replace HB := am (kO HB.out)
             have b9 : 0 ≤ (a0 : Int) := oD (by assumption)
             have b8 : a0 < (l0.length : Int) := oD (by assumption)
             obtain ⟨a1, cU, aD, aC, aA, a9, a8, a7⟩ := pL b6.out a0 b9 b8
             have b0 := a7
             have b1 := a8
             have b2 := a9
             have b3 := aA
             have b4 := aC
             have b5 := aD
             cases cU
             replace aD := kC HB.out aD
             replace aC := kC HB.out aC
             replace aA := kC HB.out aA
             replace a9 := kC HB.out a9
             replace a8 := kC HB.out a8
             replace a7 := kC HB.out a7
             replace b9 := eq_true b9
             replace b8 := eq_true b8
             have cI : 0 ≤ (a0 : Int) := oD (by assumption)
             have cF : a0 < (l0.length : Int) := oD (by assumption)
             obtain ⟨dY, eA, aZ, aY, aX, aW, aV, aU⟩ := pL b6.out a0 cI cF
             have bU := aU
             have bV := aV
             have bZ := aW
             have b_ := aX
             have c1 := aY
             have cB := aZ
             obtain rfl : a1 = dY := (by injection eA)
             replace aZ := kC HB.out aZ
             replace aY := kC HB.out aY
             replace aX := kC HB.out aX
             replace aW := kC HB.out aW
             replace aV := kC HB.out aV
             replace aU := kC HB.out aU
             replace cI := eq_true cI
             replace cF := eq_true cF
             obtain ⟨o9, nL, jT⟩ := Kd.R_slice a5.out
             (subst jT)
             obtain ⟨h8, h5, dX, rfl, bJ⟩ := ix (Kd.at_int (Kd.R_reads' a5.out).2.2 ((kA l0 a0).f2))
             have cH : 0 ≤ (a0 : Int) := oD (by assumption)
             have cE : a0 < (l0.length : Int) := oD (by assumption)
             obtain ⟨dW, e9, aT, aR, aQ, aN, aM, aK⟩ := pL b6.out a0 cH cE
             have bO := aK
             have bP := aM
             have bQ := aN
             have bR := aQ
             have bS := aR
             have bT := aT
             obtain rfl : a1 = dW := (by injection e9)
             replace aT := kC HB.out aT
             replace aR := kC HB.out aR
             replace aQ := kC HB.out aQ
             replace aN := kC HB.out aN
             replace aM := kC HB.out aM
             replace aK := kC HB.out aK
             replace cH := eq_true cH
             replace cE := eq_true cE
             refine tM (n := 37) (S := fun w' => w'.cell? (a1.add ((a0).toNat * 6)) = some (.int .i64 ((kA l0 a0).f0)) ∧ w'.cell? ⟨(a1.add ((a0).toNat * 6)).block, (a1.add ((a0).toNat * 6)).off + 1, none⟩ = some (.int .i64 ((kA l0 a0).f1)) ∧ w'.cell? ⟨(a1.add ((a0).toNat * 6)).block, (a1.add ((a0).toNat * 6)).off + 2, none⟩ = some (.int .i64 ((kA l0 a0).f2)) ∧ w'.cell? ⟨(a1.add ((a0).toNat * 6)).block, (a1.add ((a0).toNat * 6)).off + 3, none⟩ = some (.int .i64 ((kA l0 a0).f3)) ∧ w'.cell? ⟨(a1.add ((a0).toNat * 6)).block, (a1.add ((a0).toNat * 6)).off + 4, none⟩ = some (.int .i64 ((kA l0 a0).f4)) ∧ w'.cell? ⟨(a1.add ((a0).toNat * 6)).block, (a1.add ((a0).toNat * 6)).off + 5, none⟩ = some (.int .i64 ((kA l0 a0).f5)) ∧ w'.cell? (a1.add ((a0).toNat * 6)) = some (.int .i64 ((kA l0 a0).f0)) ∧ w'.cell? ⟨(a1.add ((a0).toNat * 6)).block, (a1.add ((a0).toNat * 6)).off + 1, none⟩ = some (.int .i64 ((kA l0 a0).f1)) ∧ w'.cell? ⟨(a1.add ((a0).toNat * 6)).block, (a1.add ((a0).toNat * 6)).off + 2, none⟩ = some (.int .i64 ((kA l0 a0).f2)) ∧ w'.cell? ⟨(a1.add ((a0).toNat * 6)).block, (a1.add ((a0).toNat * 6)).off + 3, none⟩ = some (.int .i64 ((kA l0 a0).f3)) ∧ w'.cell? ⟨(a1.add ((a0).toNat * 6)).block, (a1.add ((a0).toNat * 6)).off + 4, none⟩ = some (.int .i64 ((kA l0 a0).f4)) ∧ w'.cell? ⟨(a1.add ((a0).toNat * 6)).block, (a1.add ((a0).toNat * 6)).off + 5, none⟩ = some (.int .i64 ((kA l0 a0).f5)) ∧ w'.cell? (dX.add (((kA l0 a0).f2)).toNat) = some (.int .i64 (rd b7 ((kA l0 a0).f2))) ∧ w'.cell? (a1.add ((a0).toNat * 6)) = some (.int .i64 ((kA l0 a0).f0)) ∧ w'.cell? ⟨(a1.add ((a0).toNat * 6)).block, (a1.add ((a0).toNat * 6)).off + 1, none⟩ = some (.int .i64 ((kA l0 a0).f1)) ∧ w'.cell? ⟨(a1.add ((a0).toNat * 6)).block, (a1.add ((a0).toNat * 6)).off + 2, none⟩ = some (.int .i64 ((kA l0 a0).f2)) ∧ w'.cell? ⟨(a1.add ((a0).toNat * 6)).block, (a1.add ((a0).toNat * 6)).off + 3, none⟩ = some (.int .i64 ((kA l0 a0).f3)) ∧ w'.cell? ⟨(a1.add ((a0).toNat * 6)).block, (a1.add ((a0).toNat * 6)).off + 4, none⟩ = some (.int .i64 ((kA l0 a0).f4)) ∧ w'.cell? ⟨(a1.add ((a0).toNat * 6)).block, (a1.add ((a0).toNat * 6)).off + 5, none⟩ = some (.int .i64 ((kA l0 a0).f5))) (ds := []) a5c (by kernel_rfl) rfl rfl ⟨(kC HB.out b5), (kC HB.out b4), (kC HB.out b3), (kC HB.out b2), (kC HB.out b1), (kC HB.out b0), (kC HB.out cB), (kC HB.out c1), (kC HB.out b_), (kC HB.out bZ), (kC HB.out bV), (kC HB.out bU), bJ, (kC HB.out bT), (kC HB.out bS), (kC HB.out bR), (kC HB.out bQ), (kC HB.out bP), (kC HB.out bO)⟩ (fun hHeld => ?_); refine rV uI tT (fun HT_ HW_ => ?_)
             generalize wr.drew = w71 at a2 a4 a5 a6 HB aD aC aA a9 a8 a7 aZ aY aX aW aV aU bJ aT aR aQ aN aM aK hHeld ⊢
             refine pT (i := 0) (N := some 105) a5b ?_
             refine pT (i := 1) (N := some 106) a5a ?_
             refine pT (i := 2) (N := some 107) a4z ?_
             refine pT (i := 3) (N := some 108) a4y ?_
             refine qF (i := 4) (N := some 109) (v := ?_) (a' := ?_) a4x rfl rfl (pE HT_.out HW_.out (by kernel_rfl)) (fun _ _ _ h => h) (Or.inl ⟨by rfl, ?_⟩) hHeld ?_ ?_
             rotate_left
             ·exact b2g
             rotate_left
             ·exact pH
             refine pT (i := 5) (N := some 110) a4w ?_
             refine pT (i := 6) (N := some 111) a4v ?_
             refine pT (i := 7) (N := some 112) a4u ?_
             refine pT (i := 8) (N := some 113) a4t ?_
             refine pT (i := 9) (N := some 114) a4s ?_
             refine pT (i := 10) (N := some 115) a4r ?_
             refine pT (i := 11) (N := some 116) a4q ?_
             refine pT (i := 15) (N := some 120) b1g ?_
             refine pT (i := 16) (N := some 121) b1f ?_
             refine pT (i := 17) (N := some 122) b1e ?_
             refine pT (i := 18) (N := some 123) b1d ?_
             refine qF (i := 12) (N := some 117) (v := ?_) (a' := ?_) b1c rfl rfl (pE HT_.out HW_.out (by kernel_rfl)) (fun _ _ _ h => h) (Or.inl ⟨by rfl, ?_⟩) hHeld ?_ ?_
             rotate_left
             ·exact b2g
             rotate_left
             ·exact pH
             refine pT (i := 13) (N := some 118) b1b ?_
             refine qF (i := 14) (N := some 119) (v := ?_) (a' := ?_) a4p rfl rfl (pE HT_.out HW_.out (by kernel_rfl)) (fun _ _ _ h => h) (Or.inl ⟨by rfl, ?_⟩) hHeld ?_ ?_
             rotate_left
             ·exact b2g
             rotate_left
             ·exact pH
             refine qF (i := 19) (N := some 124) (v := ?_) (a' := ?_) a4o rfl rfl (pE HT_.out HW_.out (by kernel_rfl)) (fun _ _ _ h => h) (Or.inl ⟨by rfl, ?_⟩) hHeld ?_ ?_
             rotate_left
             ·exact b2g
             rotate_left
             ·exact pH
             refine pT (i := 20) (N := some 125) a4n ?_
             refine pT (i := 21) (N := some 126) a4m ?_
             refine pT (i := 22) (N := some 127) a4l ?_
             refine pN (i := 23) (N := some 128) (v := undef) (a' := ?_) a4k rfl rfl (qO HT_.out (by kernel_rfl)) (fun _ _ _ h => h) (Or.inr ⟨by rfl, rfl⟩) ?_ ?_
             rotate_left
             ·exact pH
             refine pN (i := 24) (N := some 129) (v := undef) (a' := ?_) a4j rfl rfl (qO HT_.out (by kernel_rfl)) (fun _ _ _ h => h) (Or.inr ⟨by rfl, rfl⟩) ?_ ?_
             rotate_left
             ·exact pH
             refine pN (i := 25) (N := some 130) (v := undef) (a' := ?_) a4i rfl rfl (qO HT_.out (by kernel_rfl)) (fun _ _ _ h => h) (Or.inr ⟨by rfl, rfl⟩) ?_ ?_
             rotate_left
             ·exact pH
             refine pN (i := 26) (N := some 131) (v := undef) (a' := ?_) a4h rfl rfl (qO HT_.out (by kernel_rfl)) (fun _ _ _ h => h) (Or.inr ⟨by rfl, rfl⟩) ?_ ?_
             rotate_left
             ·exact pH
             refine pN (i := 27) (N := some 132) (v := undef) (a' := ?_) a8a rfl rfl (qO HT_.out (by kernel_rfl)) (fun _ _ _ h => h) (Or.inr ⟨by rfl, rfl⟩) ?_ ?_
             rotate_left
             ·exact pH
             refine pN (i := 28) (N := some 133) (v := undef) (a' := ?_) a7z rfl rfl (qO HT_.out (by kernel_rfl)) (fun _ _ _ h => h) (Or.inr ⟨by rfl, rfl⟩) ?_ ?_
             rotate_left
             ·exact pH
             refine pN (i := 29) (N := some 134) (v := undef) (a' := ?_) a7y rfl rfl (qO HT_.out (by kernel_rfl)) (fun _ _ _ h => h) (Or.inr ⟨by rfl, rfl⟩) ?_ ?_
             rotate_left
             ·exact pH
             refine pN (i := 30) (N := some 135) (v := undef) (a' := ?_) a7x rfl rfl (qO HT_.out (by kernel_rfl)) (fun _ _ _ h => h) (Or.inr ⟨by rfl, rfl⟩) ?_ ?_
             rotate_left
             ·exact pH
             refine pN (i := 31) (N := some 136) (v := undef) (a' := ?_) a7w rfl rfl (qO HT_.out (by kernel_rfl)) (fun _ _ _ h => h) (Or.inr ⟨by rfl, rfl⟩) ?_ ?_
             rotate_left
             ·exact pH
             refine pN (i := 32) (N := some 137) (v := undef) (a' := ?_) a7v rfl rfl (qO HT_.out (by kernel_rfl)) (fun _ _ _ h => h) (Or.inr ⟨by rfl, rfl⟩) ?_ ?_
             rotate_left
             ·exact pH
             refine pN (i := 33) (N := some 138) (v := undef) (a' := ?_) a7u rfl rfl (qO HT_.out (by kernel_rfl)) (fun _ _ _ h => h) (Or.inr ⟨by rfl, rfl⟩) ?_ ?_
             rotate_left
             ·exact pH
             refine pN (i := 34) (N := some 139) (v := undef) (a' := ?_) a7t rfl rfl (qO HT_.out (by kernel_rfl)) (fun _ _ _ h => h) (Or.inr ⟨by rfl, rfl⟩) ?_ ?_
             rotate_left
             ·exact pH
             refine pN (i := 35) (N := some 140) (v := undef) (a' := ?_) a7s rfl rfl (qO HT_.out (by kernel_rfl)) (fun _ _ _ h => h) (Or.inr ⟨by rfl, rfl⟩) ?_ ?_
             rotate_left
             ·exact pH
             refine pT (i := 36) (N := some 141) a7r ?_
             refine yK (yP HT_.out (by kernel_rfl)) ?_
             try go_wp2
             go_meet
             case rel => exact ⟨_, true, rfl, H, ⟨by have := bE.out; have := bD.out; have := bK.out; have := cM.out; have := cV.out; omega⟩, ⟨sR <| a2.out⟩, ⟨sR <| a4.out⟩, ⟨sR <| a5.out⟩, ⟨sR <| a6.out⟩, ⟨sW HB.out⟩⟩
            replace H := iN H; obtain ⟨mC, H⟩ := H
            generalize hbq62 : vD false aJ a0 = nZ at H
            have g3 := am hbq62.symm; clear hbq62
            replace H := iB H; rcases H with ⟨rfl, H⟩ | ⟨rfl, H⟩
            rotate_left
            ·replace H := am H
             try go_wp2
             replace a2 := am (Kd.R_drew a2.out)
             replace a4 := am (Kd.R_drew a4.out)
             replace a5 := am (Kd.R_drew a5.out)
             replace a6 := am (Kd.R_drew a6.out)
             replace HB := am (kO HB.out)
             have b9 : 0 ≤ (a0 : Int) := oD (by assumption)
             have b8 : a0 < (l0.length : Int) := oD (by assumption)
             obtain ⟨a1, cU, aD, aC, aA, a9, a8, a7⟩ := pL b6.out a0 b9 b8
             have b0 := a7
             have b1 := a8
             have b2 := a9
             have b3 := aA
             have b4 := aC
             have b5 := aD
             cases cU
             replace aD := kC HB.out aD
             replace aC := kC HB.out aC
             replace aA := kC HB.out aA
             replace a9 := kC HB.out a9
             replace a8 := kC HB.out a8
             replace a7 := kC HB.out a7
             replace b9 := eq_true b9
             replace b8 := eq_true b8
             have cI : 0 ≤ (a0 : Int) := oD (by assumption)
             have cF : a0 < (l0.length : Int) := oD (by assumption)
             obtain ⟨dY, eA, aZ, aY, aX, aW, aV, aU⟩ := pL b6.out a0 cI cF
             have bU := aU
             have bV := aV
             have bZ := aW
             have b_ := aX
             have c1 := aY
             have cB := aZ
             obtain rfl : a1 = dY := (by injection eA)
             replace aZ := kC HB.out aZ
             replace aY := kC HB.out aY
             replace aX := kC HB.out aX
             replace aW := kC HB.out aW
             replace aV := kC HB.out aV
             replace aU := kC HB.out aU
             replace cI := eq_true cI
             replace cF := eq_true cF
             obtain ⟨oE, nN, jV⟩ := Kd.R_slice a5.out
             (subst jV)
             obtain ⟨h8, h5, dX, rfl, bJ⟩ := ix (Kd.at_int (Kd.R_reads' a5.out).2.2 ((kA l0 a0).f2))
             have cH : 0 ≤ (a0 : Int) := oD (by assumption)
             have cE : a0 < (l0.length : Int) := oD (by assumption)
             obtain ⟨dW, e9, aT, aR, aQ, aN, aM, aK⟩ := pL b6.out a0 cH cE
             have bO := aK
             have bP := aM
             have bQ := aN
             have bR := aQ
             have bS := aR
             have bT := aT
             obtain rfl : a1 = dW := (by injection e9)
             replace aT := kC HB.out aT
             replace aR := kC HB.out aR
             replace aQ := kC HB.out aQ
             replace aN := kC HB.out aN
             replace aM := kC HB.out aM
             replace aK := kC HB.out aK
             replace cH := eq_true cH
             replace cE := eq_true cE
             obtain ⟨oC, nM, jU⟩ := Kd.R_slice a4.out
             (subst jU)
             have dQ : 0 ≤ (a0 : Int) := oD (by assumption)
             have dM : a0 < (aJ.length : Int) := oD (by assumption)
             obtain ⟨eZ, fM, bC⟩ := Kd.at_bool (Kd.R_reads' a4.out).2.2 a0 dQ dM
             (try rw [← dJ.out] at bC)
             (try rw [← g3.out] at bC)
             cases fM
             replace dQ := eq_true dQ
             replace dM := eq_true dM
             refine tM (n := 37) (S := fun w' => w'.cell? (a1.add ((a0).toNat * 6)) = some (.int .i64 ((kA l0 a0).f0)) ∧ w'.cell? ⟨(a1.add ((a0).toNat * 6)).block, (a1.add ((a0).toNat * 6)).off + 1, none⟩ = some (.int .i64 ((kA l0 a0).f1)) ∧ w'.cell? ⟨(a1.add ((a0).toNat * 6)).block, (a1.add ((a0).toNat * 6)).off + 2, none⟩ = some (.int .i64 ((kA l0 a0).f2)) ∧ w'.cell? ⟨(a1.add ((a0).toNat * 6)).block, (a1.add ((a0).toNat * 6)).off + 3, none⟩ = some (.int .i64 ((kA l0 a0).f3)) ∧ w'.cell? ⟨(a1.add ((a0).toNat * 6)).block, (a1.add ((a0).toNat * 6)).off + 4, none⟩ = some (.int .i64 ((kA l0 a0).f4)) ∧ w'.cell? ⟨(a1.add ((a0).toNat * 6)).block, (a1.add ((a0).toNat * 6)).off + 5, none⟩ = some (.int .i64 ((kA l0 a0).f5)) ∧ w'.cell? (a1.add ((a0).toNat * 6)) = some (.int .i64 ((kA l0 a0).f0)) ∧ w'.cell? ⟨(a1.add ((a0).toNat * 6)).block, (a1.add ((a0).toNat * 6)).off + 1, none⟩ = some (.int .i64 ((kA l0 a0).f1)) ∧ w'.cell? ⟨(a1.add ((a0).toNat * 6)).block, (a1.add ((a0).toNat * 6)).off + 2, none⟩ = some (.int .i64 ((kA l0 a0).f2)) ∧ w'.cell? ⟨(a1.add ((a0).toNat * 6)).block, (a1.add ((a0).toNat * 6)).off + 3, none⟩ = some (.int .i64 ((kA l0 a0).f3)) ∧ w'.cell? ⟨(a1.add ((a0).toNat * 6)).block, (a1.add ((a0).toNat * 6)).off + 4, none⟩ = some (.int .i64 ((kA l0 a0).f4)) ∧ w'.cell? ⟨(a1.add ((a0).toNat * 6)).block, (a1.add ((a0).toNat * 6)).off + 5, none⟩ = some (.int .i64 ((kA l0 a0).f5)) ∧ w'.cell? (dX.add (((kA l0 a0).f2)).toNat) = some (.int .i64 (rd b7 ((kA l0 a0).f2))) ∧ w'.cell? (a1.add ((a0).toNat * 6)) = some (.int .i64 ((kA l0 a0).f0)) ∧ w'.cell? ⟨(a1.add ((a0).toNat * 6)).block, (a1.add ((a0).toNat * 6)).off + 1, none⟩ = some (.int .i64 ((kA l0 a0).f1)) ∧ w'.cell? ⟨(a1.add ((a0).toNat * 6)).block, (a1.add ((a0).toNat * 6)).off + 2, none⟩ = some (.int .i64 ((kA l0 a0).f2)) ∧ w'.cell? ⟨(a1.add ((a0).toNat * 6)).block, (a1.add ((a0).toNat * 6)).off + 3, none⟩ = some (.int .i64 ((kA l0 a0).f3)) ∧ w'.cell? ⟨(a1.add ((a0).toNat * 6)).block, (a1.add ((a0).toNat * 6)).off + 4, none⟩ = some (.int .i64 ((kA l0 a0).f4)) ∧ w'.cell? ⟨(a1.add ((a0).toNat * 6)).block, (a1.add ((a0).toNat * 6)).off + 5, none⟩ = some (.int .i64 ((kA l0 a0).f5)) ∧ w'.cell? (eZ.add (a0).toNat) = some (.bool false)) (ds := []) a5c (by kernel_rfl) rfl rfl ⟨(kC HB.out b5), (kC HB.out b4), (kC HB.out b3), (kC HB.out b2), (kC HB.out b1), (kC HB.out b0), (kC HB.out cB), (kC HB.out c1), (kC HB.out b_), (kC HB.out bZ), (kC HB.out bV), (kC HB.out bU), bJ, (kC HB.out bT), (kC HB.out bS), (kC HB.out bR), (kC HB.out bQ), (kC HB.out bP), (kC HB.out bO), bC⟩ (fun hHeld => ?_); refine rV uI tT (fun HT_ HW_ => ?_)
             generalize wr.drew = w68 at a2 a4 a5 a6 HB aD aC aA a9 a8 a7 aZ aY aX aW aV aU bJ aT aR aQ aN aM aK bC hHeld ⊢
             refine pT (i := 0) (N := some 105) a5b ?_
             refine pT (i := 1) (N := some 106) a5a ?_
             refine pT (i := 2) (N := some 107) a4z ?_
             refine pT (i := 3) (N := some 108) a4y ?_
             refine qF (i := 4) (N := some 109) (v := ?_) (a' := ?_) a4x rfl rfl (pE HT_.out HW_.out (by kernel_rfl)) (fun _ _ _ h => h) (Or.inl ⟨by rfl, ?_⟩) hHeld ?_ ?_
             rotate_left
             ·exact a9a
             rotate_left
             ·exact pH
             refine pT (i := 5) (N := some 110) a4w ?_
             refine pT (i := 6) (N := some 111) a4v ?_
             refine pT (i := 7) (N := some 112) a4u ?_
             refine pT (i := 8) (N := some 113) a4t ?_
             refine pT (i := 9) (N := some 114) a4s ?_
             refine pT (i := 10) (N := some 115) a4r ?_
             refine pT (i := 11) (N := some 116) a4q ?_
             refine pT (i := 15) (N := some 120) b1g ?_
             refine pT (i := 16) (N := some 121) b1f ?_
             refine pT (i := 17) (N := some 122) b1e ?_
             refine pT (i := 18) (N := some 123) b1d ?_
             refine qF (i := 12) (N := some 117) (v := ?_) (a' := ?_) b1c rfl rfl (pE HT_.out HW_.out (by kernel_rfl)) (fun _ _ _ h => h) (Or.inl ⟨by rfl, ?_⟩) hHeld ?_ ?_
             rotate_left
             ·exact a9a
             rotate_left
             ·exact pH
             refine pT (i := 13) (N := some 118) b1b ?_
             refine qF (i := 14) (N := some 119) (v := ?_) (a' := ?_) a4p rfl rfl (pE HT_.out HW_.out (by kernel_rfl)) (fun _ _ _ h => h) (Or.inl ⟨by rfl, ?_⟩) hHeld ?_ ?_
             rotate_left
             ·exact a9a
             rotate_left
             ·exact pH
             refine qF (i := 19) (N := some 124) (v := ?_) (a' := ?_) a4o rfl rfl (pE HT_.out HW_.out (by kernel_rfl)) (fun _ _ _ h => h) (Or.inl ⟨by rfl, ?_⟩) hHeld ?_ ?_
             rotate_left
             ·exact a9a
             rotate_left
             ·exact pH
             refine pT (i := 20) (N := some 125) a4n ?_
             refine pT (i := 21) (N := some 126) a4m ?_
             refine pT (i := 22) (N := some 127) a4l ?_
             refine pT (i := 23) (N := some 128) a4k ?_
             refine pT (i := 24) (N := some 129) a4j ?_
             refine pT (i := 25) (N := some 130) a4i ?_
             refine qF (i := 26) (N := some 131) (v := ?_) (a' := ?_) a4h rfl rfl (pE HT_.out HW_.out (by kernel_rfl)) (fun _ _ _ h => h) (Or.inl ⟨by rfl, ?_⟩) hHeld ?_ ?_
             rotate_left
             ·exact a9a
             rotate_left
             ·exact pH
             exact c1v
            replace H := oA H; obtain ⟨jC, lS, H⟩ := H
            replace H := am H
            try go_wp2
            replace a2 := am (Kd.R_drew a2.out)
            replace a4 := am (Kd.R_drew a4.out)
            replace a5 := am (Kd.R_drew a5.out)
            replace a6 := am (Kd.R_drew a6.out)
            replace HB := am (kO HB.out)
            have b9 : 0 ≤ (a0 : Int) := oD (by assumption)
            have b8 : a0 < (l0.length : Int) := oD (by assumption)
            obtain ⟨a1, cU, aD, aC, aA, a9, a8, a7⟩ := pL b6.out a0 b9 b8
            have b0 := a7
            have b1 := a8
            have b2 := a9
            have b3 := aA
            have b4 := aC
            have b5 := aD
            cases cU
            replace aD := kC HB.out aD
            replace aC := kC HB.out aC
            replace aA := kC HB.out aA
            replace a9 := kC HB.out a9
            replace a8 := kC HB.out a8
            replace a7 := kC HB.out a7
            replace b9 := eq_true b9
            replace b8 := eq_true b8
            have cI : 0 ≤ (a0 : Int) := oD (by assumption)
            have cF : a0 < (l0.length : Int) := oD (by assumption)
            obtain ⟨dY, eA, aZ, aY, aX, aW, aV, aU⟩ := pL b6.out a0 cI cF
            have bU := aU
            have bV := aV
            have bZ := aW
            have b_ := aX
            have c1 := aY
            have cB := aZ
            obtain rfl : a1 = dY := (by injection eA)
            replace aZ := kC HB.out aZ
            replace aY := kC HB.out aY
            replace aX := kC HB.out aX
            replace aW := kC HB.out aW
            replace aV := kC HB.out aV
            replace aU := kC HB.out aU
            replace cI := eq_true cI
            replace cF := eq_true cF
            obtain ⟨oG, nP, jX⟩ := Kd.R_slice a5.out
            (subst jX)
            obtain ⟨h8, h5, dX, rfl, bJ⟩ := ix (Kd.at_int (Kd.R_reads' a5.out).2.2 ((kA l0 a0).f2))
            have cH : 0 ≤ (a0 : Int) := oD (by assumption)
            have cE : a0 < (l0.length : Int) := oD (by assumption)
            obtain ⟨dW, e9, aT, aR, aQ, aN, aM, aK⟩ := pL b6.out a0 cH cE
            have bO := aK
            have bP := aM
            have bQ := aN
            have bR := aQ
            have bS := aR
            have bT := aT
            obtain rfl : a1 = dW := (by injection e9)
            replace aT := kC HB.out aT
            replace aR := kC HB.out aR
            replace aQ := kC HB.out aQ
            replace aN := kC HB.out aN
            replace aM := kC HB.out aM
            replace aK := kC HB.out aK
            replace cH := eq_true cH
            replace cE := eq_true cE
            obtain ⟨oF, nO, jW⟩ := Kd.R_slice a4.out
            (subst jW)
            have dQ : 0 ≤ (a0 : Int) := oD (by assumption)
            have dM : a0 < (aJ.length : Int) := oD (by assumption)
            obtain ⟨eZ, fM, bC⟩ := Kd.at_bool (Kd.R_reads' a4.out).2.2 a0 dQ dM
            (try rw [← dJ.out] at bC)
            (try rw [← g3.out] at bC)
            cases fM
            replace dQ := eq_true dQ
            replace dM := eq_true dM
            have fH : 0 ≤ (a0 : Int) := oD (by assumption)
            have fD : a0 < (l0.length : Int) := oD (by assumption)
            obtain ⟨h_, l6, d6, d5, d4, d3, d2, d1⟩ := pL b6.out a0 fH fD
            have eJ := d1
            have eK := d2
            have eL := d3
            have eM := d4
            have eN := d5
            have eO := d6
            obtain rfl : a1 = h_ := (by injection l6)
            replace d6 := kC HB.out d6
            replace d5 := kC HB.out d5
            replace d4 := kC HB.out d4
            replace d3 := kC HB.out d3
            replace d2 := kC HB.out d2
            replace d1 := kC HB.out d1
            replace fH := eq_true fH
            replace fD := eq_true fD
            refine tM (n := 37) (S := fun w' => w'.cell? (a1.add ((a0).toNat * 6)) = some (.int .i64 ((kA l0 a0).f0)) ∧ w'.cell? ⟨(a1.add ((a0).toNat * 6)).block, (a1.add ((a0).toNat * 6)).off + 1, none⟩ = some (.int .i64 ((kA l0 a0).f1)) ∧ w'.cell? ⟨(a1.add ((a0).toNat * 6)).block, (a1.add ((a0).toNat * 6)).off + 2, none⟩ = some (.int .i64 ((kA l0 a0).f2)) ∧ w'.cell? ⟨(a1.add ((a0).toNat * 6)).block, (a1.add ((a0).toNat * 6)).off + 3, none⟩ = some (.int .i64 ((kA l0 a0).f3)) ∧ w'.cell? ⟨(a1.add ((a0).toNat * 6)).block, (a1.add ((a0).toNat * 6)).off + 4, none⟩ = some (.int .i64 ((kA l0 a0).f4)) ∧ w'.cell? ⟨(a1.add ((a0).toNat * 6)).block, (a1.add ((a0).toNat * 6)).off + 5, none⟩ = some (.int .i64 ((kA l0 a0).f5)) ∧ w'.cell? (a1.add ((a0).toNat * 6)) = some (.int .i64 ((kA l0 a0).f0)) ∧ w'.cell? ⟨(a1.add ((a0).toNat * 6)).block, (a1.add ((a0).toNat * 6)).off + 1, none⟩ = some (.int .i64 ((kA l0 a0).f1)) ∧ w'.cell? ⟨(a1.add ((a0).toNat * 6)).block, (a1.add ((a0).toNat * 6)).off + 2, none⟩ = some (.int .i64 ((kA l0 a0).f2)) ∧ w'.cell? ⟨(a1.add ((a0).toNat * 6)).block, (a1.add ((a0).toNat * 6)).off + 3, none⟩ = some (.int .i64 ((kA l0 a0).f3)) ∧ w'.cell? ⟨(a1.add ((a0).toNat * 6)).block, (a1.add ((a0).toNat * 6)).off + 4, none⟩ = some (.int .i64 ((kA l0 a0).f4)) ∧ w'.cell? ⟨(a1.add ((a0).toNat * 6)).block, (a1.add ((a0).toNat * 6)).off + 5, none⟩ = some (.int .i64 ((kA l0 a0).f5)) ∧ w'.cell? (dX.add (((kA l0 a0).f2)).toNat) = some (.int .i64 (rd b7 ((kA l0 a0).f2))) ∧ w'.cell? (a1.add ((a0).toNat * 6)) = some (.int .i64 ((kA l0 a0).f0)) ∧ w'.cell? ⟨(a1.add ((a0).toNat * 6)).block, (a1.add ((a0).toNat * 6)).off + 1, none⟩ = some (.int .i64 ((kA l0 a0).f1)) ∧ w'.cell? ⟨(a1.add ((a0).toNat * 6)).block, (a1.add ((a0).toNat * 6)).off + 2, none⟩ = some (.int .i64 ((kA l0 a0).f2)) ∧ w'.cell? ⟨(a1.add ((a0).toNat * 6)).block, (a1.add ((a0).toNat * 6)).off + 3, none⟩ = some (.int .i64 ((kA l0 a0).f3)) ∧ w'.cell? ⟨(a1.add ((a0).toNat * 6)).block, (a1.add ((a0).toNat * 6)).off + 4, none⟩ = some (.int .i64 ((kA l0 a0).f4)) ∧ w'.cell? ⟨(a1.add ((a0).toNat * 6)).block, (a1.add ((a0).toNat * 6)).off + 5, none⟩ = some (.int .i64 ((kA l0 a0).f5)) ∧ w'.cell? (eZ.add (a0).toNat) = some (.bool true) ∧ w'.cell? (a1.add ((a0).toNat * 6)) = some (.int .i64 ((kA l0 a0).f0)) ∧ w'.cell? ⟨(a1.add ((a0).toNat * 6)).block, (a1.add ((a0).toNat * 6)).off + 1, none⟩ = some (.int .i64 ((kA l0 a0).f1)) ∧ w'.cell? ⟨(a1.add ((a0).toNat * 6)).block, (a1.add ((a0).toNat * 6)).off + 2, none⟩ = some (.int .i64 ((kA l0 a0).f2)) ∧ w'.cell? ⟨(a1.add ((a0).toNat * 6)).block, (a1.add ((a0).toNat * 6)).off + 3, none⟩ = some (.int .i64 ((kA l0 a0).f3)) ∧ w'.cell? ⟨(a1.add ((a0).toNat * 6)).block, (a1.add ((a0).toNat * 6)).off + 4, none⟩ = some (.int .i64 ((kA l0 a0).f4)) ∧ w'.cell? ⟨(a1.add ((a0).toNat * 6)).block, (a1.add ((a0).toNat * 6)).off + 5, none⟩ = some (.int .i64 ((kA l0 a0).f5))) (ds := []) a5c (by kernel_rfl) rfl rfl ⟨(kC HB.out b5), (kC HB.out b4), (kC HB.out b3), (kC HB.out b2), (kC HB.out b1), (kC HB.out b0), (kC HB.out cB), (kC HB.out c1), (kC HB.out b_), (kC HB.out bZ), (kC HB.out bV), (kC HB.out bU), bJ, (kC HB.out bT), (kC HB.out bS), (kC HB.out bR), (kC HB.out bQ), (kC HB.out bP), (kC HB.out bO), bC, (kC HB.out eO), (kC HB.out eN), (kC HB.out eM), (kC HB.out eL), (kC HB.out eK), (kC HB.out eJ)⟩ (fun hHeld => ?_); refine rV uI tT (fun HT_ HW_ => ?_)
            generalize wr.drew = w65 at a2 a4 a5 a6 HB aD aC aA a9 a8 a7 aZ aY aX aW aV aU bJ aT aR aQ aN aM aK bC d6 d5 d4 d3 d2 d1 hHeld ⊢
            refine pT (i := 0) (N := some 105) a5b ?_
            refine pT (i := 1) (N := some 106) a5a ?_
            refine pT (i := 2) (N := some 107) a4z ?_
            refine pT (i := 3) (N := some 108) a4y ?_
            refine qF (i := 4) (N := some 109) (v := ?_) (a' := ?_) a4x rfl rfl (pE HT_.out HW_.out (by kernel_rfl)) (fun _ _ _ h => h) (Or.inl ⟨by rfl, ?_⟩) hHeld ?_ ?_
            rotate_left
            ·exact a6z
            rotate_left
            ·exact pH
            refine pT (i := 5) (N := some 110) a4w ?_
            refine pT (i := 6) (N := some 111) a4v ?_
            refine pT (i := 7) (N := some 112) a4u ?_
            refine pT (i := 8) (N := some 113) a4t ?_
            refine pT (i := 9) (N := some 114) a4s ?_
            refine pT (i := 10) (N := some 115) a4r ?_
            refine pT (i := 11) (N := some 116) a4q ?_
            refine pT (i := 15) (N := some 120) b1g ?_
            refine pT (i := 16) (N := some 121) b1f ?_
            refine pT (i := 17) (N := some 122) b1e ?_
            refine pT (i := 18) (N := some 123) b1d ?_
            refine qF (i := 12) (N := some 117) (v := ?_) (a' := ?_) b1c rfl rfl (pE HT_.out HW_.out (by kernel_rfl)) (fun _ _ _ h => h) (Or.inl ⟨by rfl, ?_⟩) hHeld ?_ ?_
            rotate_left
            ·exact a6z
            rotate_left
            ·exact pH
            refine pT (i := 13) (N := some 118) b1b ?_
            refine qF (i := 14) (N := some 119) (v := ?_) (a' := ?_) a4p rfl rfl (pE HT_.out HW_.out (by kernel_rfl)) (fun _ _ _ h => h) (Or.inl ⟨by rfl, ?_⟩) hHeld ?_ ?_
            rotate_left
            ·exact a6z
            rotate_left
            ·exact pH
            refine qF (i := 19) (N := some 124) (v := ?_) (a' := ?_) a4o rfl rfl (pE HT_.out HW_.out (by kernel_rfl)) (fun _ _ _ h => h) (Or.inl ⟨by rfl, ?_⟩) hHeld ?_ ?_
            rotate_left
            ·exact a6z
            rotate_left
            ·exact pH
            refine pT (i := 20) (N := some 125) a4n ?_
            refine pT (i := 21) (N := some 126) a4m ?_
            refine pT (i := 22) (N := some 127) a4l ?_
            refine pT (i := 23) (N := some 128) a4k ?_
            refine pT (i := 24) (N := some 129) a4j ?_
            refine pT (i := 25) (N := some 130) a4i ?_
            refine qF (i := 26) (N := some 131) (v := ?_) (a' := ?_) a4h rfl rfl (pE HT_.out HW_.out (by kernel_rfl)) (fun _ _ _ h => h) (Or.inl ⟨by rfl, ?_⟩) hHeld ?_ ?_
            rotate_left
            ·exact a6z
            rotate_left
            ·exact pH
            refine pT (i := 27) (N := some 132) a8a ?_
            refine pT (i := 28) (N := some 133) a7z ?_
            refine pT (i := 29) (N := some 134) a7y ?_
            refine pT (i := 30) (N := some 135) a7x ?_
            refine pT (i := 31) (N := some 136) a7w ?_
            refine qF (i := 32) (N := some 137) (v := ?_) (a' := ?_) a7v rfl rfl (pE HT_.out HW_.out (by kernel_rfl)) (fun _ _ _ h => h) (Or.inl ⟨by rfl, ?_⟩) hHeld ?_ ?_
            rotate_left
            ·exact a6z
            rotate_left
            ·exact pH
            refine yN (i := 33) (N := some 138) a7u rfl rfl (uW HT_.out (by kernel_rfl)) (by decide) (fun K hK => ?_)
            refine yB Try.func107 (by kernel_rfl) rfl #[.int .i64 ((kA l0 a0).f0)] (by rfl) rfl rfl tm ?_
            with_reducible refine (spec_l02Outer.calls lS.out).mono ?_
            rintro e w' ⟨rfl, ⟨nd, rfl⟩⟩
            refine ⟨_, rfl, ?_⟩
            refine hK.out _ _ ⟨(kC HB.out b5), (kC HB.out b4), (kC HB.out b3), (kC HB.out b2), (kC HB.out b1), (kC HB.out b0), (kC HB.out cB), (kC HB.out c1), (kC HB.out b_), (kC HB.out bZ), (kC HB.out bV), (kC HB.out bU), hHeld.2.2.2.2.2.2.2.2.2.2.2.2.1, (kC HB.out bT), (kC HB.out bS), (kC HB.out bR), (kC HB.out bQ), (kC HB.out bP), (kC HB.out bO), hHeld.2.2.2.2.2.2.2.2.2.2.2.2.2.2.2.2.2.2.2.1, (kC HB.out eO), (kC HB.out eN), (kC HB.out eM), (kC HB.out eL), (kC HB.out eK), (kC HB.out eJ)⟩ (fun hHeld => ?_)
            clear hK K
            refine rO (a' := ?_) ?_ ?_
            rotate_left
            ·show Act.put _ (some 138) _ = _
             exact pH
            refine pT (i := 34) (N := some 139) a7t ?_
            refine pT (i := 35) (N := some 140) a7s ?_
            refine pT (i := 36) (N := some 141) a7r ?_
            refine yK (yP HT_.out (by kernel_rfl)) ?_
            try go_wp2
            go_meet
            case rel => exact ⟨_, (!jC), rfl, H, ⟨by have := bE.out; have := bD.out; have := bK.out; have := cM.out; have := cV.out; omega⟩, ⟨sR <| a2.out⟩, ⟨sR <| a4.out⟩, ⟨sR <| a5.out⟩, ⟨sR <| a6.out⟩, ⟨sW HB.out⟩⟩
           case rest => as_aux_lemma =>
            clear fR
            obtain ⟨kq, e1, rfl, HA, f7, a2, a4, a5, a6, HB⟩ := hcut
            cases kq with
            | zero => cases HA.out
            | succ h9 =>
             obtain ⟨H⟩ := HA
             simp only [qJ] at H
             replace H := iB H; rcases H with ⟨rfl, H⟩ | ⟨rfl, H⟩
             ·obtain rfl := oI H
              go_wp2
              go_ret
              exact ⟨rfl, sW HB.out⟩
             replace H := iN H; obtain ⟨hP, H⟩ := H
             replace H := iN H; obtain ⟨hO, H⟩ := H
             replace H := oA H; obtain ⟨a_, lQ, H⟩ := H
             replace H := am H
             obtain ⟨jL, jG, mQ, rfl, gH, gE, gA, g9, g8, g7⟩ := ix (pL (Kd.C_below b6.out HB.out) a0)
             go_wp2_with (first | ((with_reducible refine gW ?_); first | (refine gF 70 (some 146) rfl ?_; refine gT Try.func70 (spec_Parts.calls lQ.out) ?_; rintro fB w85 ⟨cK, hb⟩; replace a2 := rB a2 hb; replace a4 := rB a4 hb; have iG := am (Kd.R_lower (Kd.R_new' (Kd.R_new' cK (Kd.R_lt (by exact sR <| a5.out))) (Kd.R_lt (by exact sR <| a6.out))) (kJ (by exact sW HB.out))); replace a5 := rE a5 cK hb; replace a6 := rE a6 cK hb; replace HB := hB HB hb; (try clear hb); (try clear cK))))
             go_loopg [12] h9 (fun kq lL w' => ∃ (bL : List Int) (aG : Int), lL = .int .i64 aG ∧ Aside0 (tP kq l0 aI aJ b7 bL a0 a_ aG = some r) ∧ Aside0 (kq ≤ h9) ∧ Aside0 (Kd.R Kd.bool 4 w' w.heap.size (fun k_ => some k_ ≠ (bF : Value).ownBlock) (.slice (some dZ) aI.length eU) aI) ∧ Aside0 (Kd.R Kd.bool 4 w' w.heap.size (fun k_ => some k_ ≠ ((.slice (some dZ) aI.length eU) : Value).ownBlock) bF aJ) ∧ Aside0 (Kd.R (Kd.int .i64) 3 w' w.heap.size (fun k_ => some k_ ≠ (u8 : Value).ownBlock ∧ some k_ ≠ (fB : Value).ownBlock) u5 b7) ∧ Aside0 (Kd.R (Kd.int .i64) 3 w' w.heap.size (fun k_ => some k_ ≠ (u5 : Value).ownBlock ∧ some k_ ≠ (fB : Value).ownBlock) u8 bL) ∧ Aside0 (Kd.R (Kd.int .i64) 3 w' w.heap.size (fun k_ => some k_ ≠ (u5 : Value).ownBlock ∧ some k_ ≠ (u8 : Value).ownBlock) fB a_) ∧ Aside0 (Below w.heap.size w w'))
             case atStart => exact ⟨bM, 0, rfl, H, ⟨Nat.le_refl _⟩, ⟨sR <| a2.out⟩, ⟨sR <| a4.out⟩, ⟨sR <| a5.out⟩, ⟨sR <| a6.out⟩, ⟨sR <| Kd.R_mono iG.out (fun _ hk => ⟨hk.1.2, hk.2⟩)⟩, ⟨sW HB.out⟩⟩
             case round => as_aux_lemma =>
              clear H
              clear hP hO gH gE gA g9 g8 g7 jL jG
              obtain ⟨bL, aG, rfl, HA, g5, a2, a4, a5, a6, cL, HB⟩ := hrel
              cases gk with
              | zero => cases HA.out
              | succ k7 =>
               obtain ⟨H⟩ := HA
               simp only [tP] at H
               replace H := iD H; rcases H with ⟨hN, H⟩ | ⟨hN, H⟩
               rotate_left
               ·replace H := am H
                obtain ⟨o4, nF, rfl⟩ := Kd.R_slice cL.out
                go_wp2
                go_roundg k7
                case measure => have := bE.out; have := bD.out; have := bK.out; have := cM.out; have := cV.out; have := f7.out; have := g5.out; omega
                case rel => exact ⟨bL, (wrap64 (a0 + 1)), rfl, H, ⟨by have := bE.out; have := bD.out; have := bK.out; have := cM.out; have := cV.out; have := f7.out; have := g5.out; omega⟩, ⟨sR <| a2.out⟩, ⟨sR <| a4.out⟩, ⟨sR <| Kd.R_mono a5.out (fun _ hk => hk.1)⟩, ⟨sR <| Kd.R_mono a6.out (fun _ hk => hk.1)⟩, ⟨sW HB.out⟩⟩
               replace H := iN H; obtain ⟨m9, H⟩ := H
               replace H := iN H; obtain ⟨m8, H⟩ := H
               replace H := iN H; obtain ⟨m7, H⟩ := H
               generalize fT : bL.set ((rd a_ aG) : Int).toNat (wrap64 ((rd bL (rd a_ aG)) + 1)) = iZ at H
               have i5 := am fT.symm; clear fT
               replace H := am H
               obtain ⟨o6, nH, rfl⟩ := Kd.R_slice cL.out
               try go_wp2
               replace a2 := am (Kd.R_drew a2.out)
               replace a4 := am (Kd.R_drew a4.out)
               replace a5 := am (Kd.R_drew a5.out)
               replace a6 := am (Kd.R_drew a6.out)
               replace cL := am (Kd.R_drew cL.out)
               replace HB := am (kO HB.out)
               obtain ⟨nC, n8, eX, rfl, eC⟩ := ix (Kd.at_int (Kd.R_reads' cL.out).2.2 aG)
               obtain ⟨nB, n7, hY, jZ, eB⟩ := ix (Kd.at_int (Kd.R_reads' cL.out).2.2 aG)
               obtain rfl : eX = hY := (by injection jZ)
               obtain ⟨o5, nG, jP⟩ := Kd.R_slice a6.out
               (subst jP)
               obtain ⟨nA, n6, mP, rfl, e2⟩ := ix (Kd.at_int (Kd.R_reads' a6.out).2.2 (rd a_ aG))
               have h6 : 0 ≤ ((rd a_ aG) : Int) := oD (by assumption)
               have h3 : ((rd a_ aG) : Int) < ((bL.length : Int) : Int) := oD (by assumption)
               obtain ⟨dU, nI, jQ, hH, gl90, cl90, HG90⟩ := Kd.R_form a6.out oM
               (cases jQ)
               have o1 := am hH
               have GG90 := am HG90
               clear hH gl90 HG90
               (simp only [qP] at e2)
               obtain ⟨hD, hf90_0⟩ := Kd.R_celln 0 a6.out ((rd a_ aG) : Int) h6 h3
               replace h6 := eq_true h6
               replace h3 := eq_true h3
               have fP := Kd.R_putn a6.out ((rd a_ aG) : Int) (wrap64 ((rd bL (rd a_ aG)) + 1))
               rw [← i5.out] at fP
               have HQ94 := am fP
               clear fP
               refine tM (n := 15) (S := fun w' => w'.cell? (eX.add (aG).toNat) = some (.int .i64 (rd a_ aG)) ∧ w'.cell? (eX.add (aG).toNat) = some (.int .i64 (rd a_ aG)) ∧ w'.cell? ⟨dU, ((rd a_ aG)).toNat, none⟩ = some (.int .i64 (rd bL (rd a_ aG)))) (ds := [14]) c4j (by kernel_rfl) rfl rfl ⟨eC, eB, e2⟩ (fun hHeld => ?_); refine rV a1s a1g (fun HT_ HW_ => ?_)
               generalize wr.drew = w92 at a2 a4 a5 a6 cL HB GG90 HQ94 hf90_0 eC eB e2 hD hHeld ⊢
               refine pT (i := 0) (N := some 153) c4i ?_
               refine pT (i := 1) (N := some 154) c4h ?_
               refine pT (i := 2) (N := some 155) c4g ?_
               refine pT (i := 3) (N := some 156) c4f ?_
               refine pT (i := 5) (N := some 158) c4e ?_
               refine pT (i := 6) (N := some 159) c4d ?_
               refine pT (i := 7) (N := some 160) c4c ?_
               refine pT (i := 8) (N := some 161) c4b ?_
               refine qF (i := 4) (N := some 157) (v := ?_) (a' := ?_) c4a rfl rfl (pE HT_.out HW_.out (by kernel_rfl)) (fun _ _ _ h => h) (Or.inl ⟨by rfl, ?_⟩) hHeld ?_ ?_
               rotate_left
               ·rintro w' ⟨s0, s1, s2⟩
                go_simp
                with_reducible rfl
               rotate_left
               ·exact pH
               refine qF (i := 9) (N := some 162) (v := ?_) (a' := ?_) c3z rfl rfl (pE HT_.out HW_.out (by kernel_rfl)) (fun _ _ _ h => h) (Or.inl ⟨by rfl, ?_⟩) hHeld ?_ ?_
               rotate_left
               ·rintro w' ⟨s0, s1, s2⟩
                go_simp
                with_reducible rfl
               rotate_left
               ·exact pH
               refine pT (i := 10) (N := some 163) c3y ?_
               refine qF (i := 11) (N := some 164) (v := ?_) (a' := ?_) c3x rfl rfl (pE HT_.out HW_.out (by kernel_rfl)) (fun _ _ _ h => h) (Or.inl ⟨by rfl, ?_⟩) hHeld ?_ ?_
               rotate_left
               ·rintro w' ⟨s0, s1, s2⟩
                go_simp
                with_reducible rfl
               rotate_left
               ·exact pH
               refine pT (i := 12) (N := some 165) c3w ?_
               refine pT (i := 13) (N := some 166) c3v ?_
               refine b3x (i := 14) (N := none) c3u rfl rfl (uW HT_.out (by kernel_rfl)) (by decide) (fun K hK => ?_)
               refine a3w (w1 := ?_) (by rfl) rfl ?_ ?_
               rotate_left
               ·go_simp
                rfl
               refine hK.out _ _ ?_
               clear hK K
               refine yK (yP HT_.out (by kernel_rfl)) ?_
               try go_wp2
               go_roundg k7
               case measure => have := bE.out; have := bD.out; have := bK.out; have := cM.out; have := cV.out; have := f7.out; have := g5.out; omega
               case rel => exact ⟨iZ, (wrap64 (aG + 1)), rfl, H, ⟨by have := bE.out; have := bD.out; have := bK.out; have := cM.out; have := cV.out; have := f7.out; have := g5.out; omega⟩, ⟨sR <| Kd.R_mono (Kd.R_far (p := ⟨dU, ((rd a_ aG) : Int).toNat, none⟩) (Kd.R_types a2.out GG90.out (by decide)) (fun _ hk => hk.2) (.int .i64 (wrap64 ((rd bL (rd a_ aG)) + 1)))) (fun _ hk => hk.1)⟩, ⟨sR <| Kd.R_mono (Kd.R_far (p := ⟨dU, ((rd a_ aG) : Int).toNat, none⟩) (Kd.R_types a4.out GG90.out (by decide)) (fun _ hk => hk.2) (.int .i64 (wrap64 ((rd bL (rd a_ aG)) + 1)))) (fun _ hk => hk.1)⟩, ⟨sR <| Kd.R_mono (Kd.R_far (p := ⟨dU, ((rd a_ aG) : Int).toNat, none⟩) (Kd.R_mono a5.out (fun k_ hk => (⟨hk, fun e_ => hk.1 (by rw [e_]; rfl)⟩ : _ ∧ k_ ≠ dU))) (fun _ hk => hk.2) (.int .i64 (wrap64 ((rd bL (rd a_ aG)) + 1)))) (fun _ hk => ⟨hk.1.1, hk.1.2⟩)⟩, ⟨sR <| HQ94.out⟩, ⟨sR <| Kd.R_mono (Kd.R_far (p := ⟨dU, ((rd a_ aG) : Int).toNat, none⟩) (Kd.R_mono cL.out (fun k_ hk => (⟨hk, fun e_ => hk.2 (by rw [e_]; rfl)⟩ : _ ∧ k_ ≠ dU))) (fun _ hk => hk.2) (.int .i64 (wrap64 ((rd bL (rd a_ aG)) + 1)))) (fun _ hk => ⟨hk.1.1, hk.1.2⟩)⟩, ⟨bW⟩⟩
end Go.Proofs.Ytkpipmojkhikaaa.PAll
