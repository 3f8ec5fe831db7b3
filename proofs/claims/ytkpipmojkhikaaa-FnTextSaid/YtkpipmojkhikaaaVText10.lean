/- Written by a program of this session over the loaded program, and by hand: Go functions as plain Lean functions, and that a call comes to what they say. -/
import Derived.Test.YtkpipmojkhikaaaVText0
import Derived.Test.YtkpipmojkhikaaaVText1
import Derived.Test.YtkpipmojkhikaaaBase
import Derived.Test.YtkpipmojkhikaaaSq
namespace Go.Proofs.Ytkpipmojkhikaaa.PAll
open Go.RowKit Go.Proofs.YtkpipmojkhikaaaW.PrintWords Go.Proofs.YtkpipmojkhikaaaW.PrintLast Go.Proofs.YtkpipmojkhikaaaW.PrintMore Go.Proofs.YtkpipmojkhikaaaW.Sq
attribute [local go_sem] sD rZ uM uL qV qU sA rY
set_option linter.unusedVariables false
set_option maxHeartbeats 8000000
set_option maxRecDepth 100000
set_option linter.unusedSimpArgs false
def a0w (l0 : List Int) (a1 : Int) : Option (Int) := if a1 < (l0.length : Int) then (if 0 ≤ a1 then (some (wrap64 (rd l0 a1))) else (none)) else (some (Int.tmod (wrap64 ((wrap64 (a1 * 7)) + (l0.length : Int))) 256))
theorem laws_at.calls {A0 : Option Addr} {c0 : Nat} {l0 : List Int} {a1 r : Int} {w : World} (hr0 : Kd.C (Kd.int .u8) w A0 l0.length l0) (hc0 : l0.length ≤ c0) (h : a0w l0 a1 = some r) :
  Calls Try.prog 12 #[.slice A0 l0.length c0, .int .i64 a1] w fun e w' => e = .returned (.int .i64 r) ∧ Drawn0 w w' := by
 have a3 := am hr0
 have a8 := am hc0
 clear hr0 hc0
 have H := h
 clear h
 unfold a0w at H
 replace H := iD H; rcases H with ⟨a0, H⟩ | ⟨a0, H⟩
 ·replace H := iN H; obtain ⟨a7, H⟩ := H
  obtain rfl := oI H
  obtain ⟨a6, a5, a4, rfl, a2⟩ := ix (Kd.at_int a3.out a1)
  go_enter Try.func12, Try.ntmps12
  go_wp2
  go_ret
  exact ⟨rfl, dR⟩
 obtain rfl := oI H
 go_enter Try.func12, Try.ntmps12
 go_wp2
 go_ret
 exact ⟨rfl, dR⟩
def qN (a0 : Int) (a1 : Int) (a2 : Int) : Option (Bool) := if a0 ≥ a1 then (some (decide (a0 ≤ a2))) else (some false)
theorem c2j {P : Prop} (h : P := by
 clear c4
 obtain rfl := oI H
 go_enter Try.func72, Try.ntmps72
 go_wp2
 go_ret
 exact ⟨rfl, dR⟩) : P := h
theorem impl_within.calls {a0 a1 a2 : Int} {r : Bool} {w : World} (h : qN a0 a1 a2 = some r) :
  Calls Try.prog 72 #[.int .i64 a0, .int .i64 a1, .int .i64 a2] w fun e w' => e = .returned (.bool r) ∧ Drawn0 w w' := by
 have H := h
 clear h
 unfold qN at H
 by_cases c4 : a0 ≥ a1
 ·rw [if_pos c4] at H
  have a3 : decide (a1 ≤ a0) = true := decide_eq_true c4
  exact c2j
 rw [if_neg c4] at H
 have a3 : decide (a1 ≤ a0) = false := decide_eq_false c4
 exact c2j
def wW (a0 : Int) : Option (Bool) := (qN a0 1 8).bind fun a1 => (some a1)
theorem impl_isWidth.calls {a0 : Int} {r : Bool} {w : World} (h : wW a0 = some r) :
  Calls Try.prog 83 #[.int .i64 a0] w fun e w' => e = .returned (.bool r) ∧ Drawn0 w w' := by
 have H := h
 clear h
 unfold wW at H
 replace H := oA H; obtain ⟨a1, A2, H⟩ := H
 obtain rfl := oI H
 go_enter Try.func83, Try.ntmps83
 go_wp2_with (first | ((with_reducible refine gW ?_); first | (refine gD (some 4) Try.func72 rfl (impl_within.calls A2.out) fun nd => ?_)))
 go_ret
 exact ⟨rfl, dR⟩
def pX : Nat → Int → ByteArray → Int → Option (ByteArray)
 | 0, _, _, _ => none
 | k + 1, x0, x3, x4 => if x4 = 0 then (if x0 < 0 then (if 1 + x3.size ≤ 9223372036854775807 then (some ((⟨#[45]⟩ : ByteArray) ++ x3)) else (none)) else (some x3)) else (if (Int.tmod x4 10) < 0 then (if 0 ≤ (wrap64 (-(Int.tmod x4 10))) then (if (wrap64 (-(Int.tmod x4 10))) ≤ (wrap64 ((wrap64 (-(Int.tmod x4 10))) + 1)) then (if (wrap64 ((wrap64 (-(Int.tmod x4 10))) + 1)) ≤ 10 then (if ((⟨#[48, 49, 50, 51, 52, 53, 54, 55, 56, 57]⟩ : ByteArray).extract ((wrap64 (-(Int.tmod x4 10))) : Int).toNat ((wrap64 ((wrap64 (-(Int.tmod x4 10))) + 1)) : Int).toNat).size + x3.size ≤ 9223372036854775807 then (pX k x0 (((⟨#[48, 49, 50, 51, 52, 53, 54, 55, 56, 57]⟩ : ByteArray).extract ((wrap64 (-(Int.tmod x4 10))) : Int).toNat ((wrap64 ((wrap64 (-(Int.tmod x4 10))) + 1)) : Int).toNat) ++ x3) (wrap64 (Int.tdiv x4 10))) else (none)) else (none)) else (none)) else (none)) else (if 0 ≤ (Int.tmod x4 10) then (if (Int.tmod x4 10) ≤ (wrap64 ((Int.tmod x4 10) + 1)) then (if (wrap64 ((Int.tmod x4 10) + 1)) ≤ 10 then (if ((⟨#[48, 49, 50, 51, 52, 53, 54, 55, 56, 57]⟩ : ByteArray).extract ((Int.tmod x4 10) : Int).toNat ((wrap64 ((Int.tmod x4 10) + 1)) : Int).toNat).size + x3.size ≤ 9223372036854775807 then (pX k x0 (((⟨#[48, 49, 50, 51, 52, 53, 54, 55, 56, 57]⟩ : ByteArray).extract ((Int.tmod x4 10) : Int).toNat ((wrap64 ((Int.tmod x4 10) + 1)) : Int).toNat) ++ x3) (wrap64 (Int.tdiv x4 10))) else (none)) else (none)) else (none)) else (none)))
def pQ (k : Nat) (a0 : Int) : Option (ByteArray) := if a0 = 0 then (some (⟨#[48]⟩ : ByteArray)) else (pX k a0 (⟨#[]⟩ : ByteArray) a0)
theorem spec_l03Dec.calls {k : Nat} {a0 : Int} {r : ByteArray} {w : World} (h : pQ k a0 = some r) :
  Calls Try.prog 84 #[.int .i64 a0] w fun e w' => e = .returned (.string r) ∧ Drawn0 w w' := by
 have H := h
 clear h
 unfold pQ at H
 by_cases c2 : a0 = 0
 ·rw [if_pos c2] at H
  have a8 : (a0 == 0) = true := beq_iff_eq.mpr c2
  have a7 : (a0 != 0) = false := bne_eq_false_iff_eq.mpr c2
  clear c2
  obtain rfl := oI H
  go_enter Try.func84, Try.ntmps84
  go_wp2
  go_ret
  exact ⟨rfl, dR⟩
 rw [if_neg c2] at H
 have a8 : (a0 == 0) = false := beq_eq_false_iff_ne.mpr c2
 have a7 : (a0 != 0) = true := bne_iff_ne.mpr c2
 replace H := am H
 go_enter Try.func84, Try.ntmps84
 go_wp2
 go_loopg [3, 4] k (fun kq v3 v4 w' => ∃ (a1 : ByteArray) (a2 : Int), v3 = .string a1 ∧ v4 = .int .i64 a2 ∧ Aside0 (pX kq a0 a1 a2 = some r) ∧ Aside0 (kq ≤ k) ∧ Drawn0 w w')
 case atStart => exact ⟨((⟨#[]⟩ : ByteArray)), a0, rfl, rfl, H, ⟨Nat.le_refl _⟩, dR⟩
 clear H
 clear c2 a8 a7
 obtain ⟨a1, a2, rfl, rfl, HA, a5, ⟨m1, rfl⟩⟩ := hrel
 cases gk with
 | zero => cases HA.out
 | succ k1 =>
  obtain ⟨H⟩ := HA
  simp only [pX] at H
  replace H := iE H; rcases H with ⟨aF, aE, H⟩ | ⟨aF, aE, H⟩
  ·replace H := iD H; rcases H with ⟨aD, H⟩ | ⟨aD, H⟩
   ·replace H := iP H; obtain ⟨c5, H⟩ := H
    have b1 := eq_true c5
    have b0 : decide (1 + a1.size ≤ 9223372036854775807) = true := decide_eq_true c5
    try have a_ : (9223372036854775807 < 1 + a1.size) = False := eq_false (Nat.not_lt.2 c5)
    obtain rfl := oI H
    go_wp2
    go_ret
    exact ⟨rfl, dR⟩
   obtain rfl := oI H
   go_wp2
   go_ret
   exact ⟨rfl, dR⟩
  replace H := iD H; rcases H with ⟨a6, H⟩ | ⟨a6, H⟩
  ·generalize aC : wrap64 (-(Int.tmod a2 10)) = a4 at H
   have aG : (IntKind.i64.wrap (-(Int.tmod a2 10))) = a4 := (xW _).trans aC
   replace H := iTD H; obtain ⟨aZ, aY, H⟩ := H
   replace H := iTD H; obtain ⟨aX, aW, H⟩ := H
   replace H := iTD H; obtain ⟨aV, aU, H⟩ := H
   replace H := iP H; obtain ⟨aA, H⟩ := H
   have aT := eq_true aA
   have aS : decide (((⟨#[48, 49, 50, 51, 52, 53, 54, 55, 56, 57]⟩ : ByteArray).extract ((a4) : Int).toNat ((wrap64 ((a4) + 1)) : Int).toNat).size + a1.size ≤ 9223372036854775807) = true := decide_eq_true aA
   try have aR : (9223372036854775807 < ((⟨#[48, 49, 50, 51, 52, 53, 54, 55, 56, 57]⟩ : ByteArray).extract ((a4) : Int).toNat ((wrap64 ((a4) + 1)) : Int).toNat).size + a1.size) = False := eq_false (Nat.not_lt.2 aA)
   replace H := am H
   go_wp2
   go_roundg k1
   case measure => have := a5.out; omega
   case rel => exact ⟨(((⟨#[48, 49, 50, 51, 52, 53, 54, 55, 56, 57]⟩ : ByteArray).extract ((a4) : Int).toNat ((wrap64 ((a4) + 1)) : Int).toNat) ++ a1), (wrap64 (Int.tdiv a2 10)), rfl, rfl, H, ⟨by have := a5.out; omega⟩, dR⟩
  generalize aB : Int.tmod a2 10 = a3 at H
  (try rw [aB] at a6)
  replace H := iTD H; obtain ⟨aQ, aO, H⟩ := H
  replace H := iTD H; obtain ⟨aN, aM, H⟩ := H
  replace H := iTD H; obtain ⟨aL, aK, H⟩ := H
  replace H := iP H; obtain ⟨a9, H⟩ := H
  have aJ := eq_true a9
  have aI : decide (((⟨#[48, 49, 50, 51, 52, 53, 54, 55, 56, 57]⟩ : ByteArray).extract ((a3) : Int).toNat ((wrap64 ((a3) + 1)) : Int).toNat).size + a1.size ≤ 9223372036854775807) = true := decide_eq_true a9
  try have aH : (9223372036854775807 < ((⟨#[48, 49, 50, 51, 52, 53, 54, 55, 56, 57]⟩ : ByteArray).extract ((a3) : Int).toNat ((wrap64 ((a3) + 1)) : Int).toNat).size + a1.size) = False := eq_false (Nat.not_lt.2 a9)
  replace H := am H
  go_wp2
  go_roundg k1
  case measure => have := a5.out; omega
  case rel => exact ⟨(((⟨#[48, 49, 50, 51, 52, 53, 54, 55, 56, 57]⟩ : ByteArray).extract ((a3) : Int).toNat ((wrap64 ((a3) + 1)) : Int).toNat) ++ a1), (wrap64 (Int.tdiv a2 10)), rfl, rfl, H, ⟨by have := a5.out; omega⟩, dR⟩
def vF  : Option (List ByteArray) := some (([(⟨#[97, 110, 100]⟩ : ByteArray), (⟨#[111, 114]⟩ : ByteArray), (⟨#[120, 111, 114]⟩ : ByteArray), (⟨#[97, 100, 100]⟩ : ByteArray), (⟨#[115, 117, 98]⟩ : ByteArray), (⟨#[109, 117, 108]⟩ : ByteArray), (⟨#[100, 105, 118]⟩ : ByteArray), (⟨#[114, 101, 109]⟩ : ByteArray), (⟨#[115, 104, 108]⟩ : ByteArray), (⟨#[115, 104, 114]⟩ : ByteArray), (⟨#[61]⟩ : ByteArray), (⟨#[60]⟩ : ByteArray), (⟨#[115, 60]⟩ : ByteArray), (⟨#[106, 111, 105, 110]⟩ : ByteArray)] : List ByteArray))
theorem spec_l03Words.calls  (r : List ByteArray) (w : World) (h : vF  = some r) :
  Calls Try.prog 85 #[] w fun e w' => ∃ a4 : Value, e = .returned (a4) ∧ Kd.R Kd.string 9 w' w.heap.size (fun _ => True) a4 r ∧ Below w.heap.size w w' := by
 have HB := am (Below.refl w.heap.size w)
 have H := h
 clear h
 unfold vF at H
 generalize a0 : ([(⟨#[97, 110, 100]⟩ : ByteArray), (⟨#[111, 114]⟩ : ByteArray), (⟨#[120, 111, 114]⟩ : ByteArray), (⟨#[97, 100, 100]⟩ : ByteArray), (⟨#[115, 117, 98]⟩ : ByteArray), (⟨#[109, 117, 108]⟩ : ByteArray), (⟨#[100, 105, 118]⟩ : ByteArray), (⟨#[114, 101, 109]⟩ : ByteArray), (⟨#[115, 104, 108]⟩ : ByteArray), (⟨#[115, 104, 114]⟩ : ByteArray), (⟨#[61]⟩ : ByteArray), (⟨#[60]⟩ : ByteArray), (⟨#[115, 60]⟩ : ByteArray), (⟨#[106, 111, 105, 110]⟩ : ByteArray)] : List ByteArray) = a5 at H
 have a2 := am a0.symm; clear a0
 obtain rfl := oI H
 go_enter Try.func85, Try.ntmps85
 go_wp2_with (first | ((with_reducible refine qC (N := 1) rfl ?_); refine Kd.R_lit Kd.string _ 9 ?hg (N := 1) ?hd (xs := ([(⟨#[97, 110, 100]⟩ : ByteArray), (⟨#[111, 114]⟩ : ByteArray), (⟨#[120, 111, 114]⟩ : ByteArray), (⟨#[97, 100, 100]⟩ : ByteArray), (⟨#[115, 117, 98]⟩ : ByteArray), (⟨#[109, 117, 108]⟩ : ByteArray), (⟨#[100, 105, 118]⟩ : ByteArray), (⟨#[114, 101, 109]⟩ : ByteArray), (⟨#[115, 104, 108]⟩ : ByteArray), (⟨#[115, 104, 114]⟩ : ByteArray), (⟨#[61]⟩ : ByteArray), (⟨#[60]⟩ : ByteArray), (⟨#[115, 60]⟩ : ByteArray), (⟨#[106, 111, 105, 110]⟩ : ByteArray)] : List ByteArray)) (inner := [.string (⟨#[97, 110, 100]⟩ : ByteArray), .string (⟨#[111, 114]⟩ : ByteArray), .string (⟨#[120, 111, 114]⟩ : ByteArray), .string (⟨#[97, 100, 100]⟩ : ByteArray), .string (⟨#[115, 117, 98]⟩ : ByteArray), .string (⟨#[109, 117, 108]⟩ : ByteArray), .string (⟨#[100, 105, 118]⟩ : ByteArray), .string (⟨#[114, 101, 109]⟩ : ByteArray), .string (⟨#[115, 104, 108]⟩ : ByteArray), .string (⟨#[115, 104, 114]⟩ : ByteArray), .string (⟨#[61]⟩ : ByteArray), .string (⟨#[60]⟩ : ByteArray), .string (⟨#[115, 60]⟩ : ByteArray), .string (⟨#[106, 111, 105, 110]⟩ : ByteArray)]) (ok := fun _ => True) (okp := fun _ => True) ?hr ?hp (fun _ hk => hk) trivial (Below.refl _ _) (Nat.le_refl _) (by simp) ?_; (case hd => rfl); (case hg => rfl); (case hr => (go_simp; done)); (case hp => exact (Reps.one (show Kd.M Kd.string _ _ _ (⟨#[97, 110, 100]⟩ : ByteArray) [.string (⟨#[97, 110, 100]⟩ : ByteArray)] from rfl) (Reps.one (show Kd.M Kd.string _ _ _ (⟨#[111, 114]⟩ : ByteArray) [.string (⟨#[111, 114]⟩ : ByteArray)] from rfl) (Reps.one (show Kd.M Kd.string _ _ _ (⟨#[120, 111, 114]⟩ : ByteArray) [.string (⟨#[120, 111, 114]⟩ : ByteArray)] from rfl) (Reps.one (show Kd.M Kd.string _ _ _ (⟨#[97, 100, 100]⟩ : ByteArray) [.string (⟨#[97, 100, 100]⟩ : ByteArray)] from rfl) (Reps.one (show Kd.M Kd.string _ _ _ (⟨#[115, 117, 98]⟩ : ByteArray) [.string (⟨#[115, 117, 98]⟩ : ByteArray)] from rfl) (Reps.one (show Kd.M Kd.string _ _ _ (⟨#[109, 117, 108]⟩ : ByteArray) [.string (⟨#[109, 117, 108]⟩ : ByteArray)] from rfl) (Reps.one (show Kd.M Kd.string _ _ _ (⟨#[100, 105, 118]⟩ : ByteArray) [.string (⟨#[100, 105, 118]⟩ : ByteArray)] from rfl) (Reps.one (show Kd.M Kd.string _ _ _ (⟨#[114, 101, 109]⟩ : ByteArray) [.string (⟨#[114, 101, 109]⟩ : ByteArray)] from rfl) (Reps.one (show Kd.M Kd.string _ _ _ (⟨#[115, 104, 108]⟩ : ByteArray) [.string (⟨#[115, 104, 108]⟩ : ByteArray)] from rfl) (Reps.one (show Kd.M Kd.string _ _ _ (⟨#[115, 104, 114]⟩ : ByteArray) [.string (⟨#[115, 104, 114]⟩ : ByteArray)] from rfl) (Reps.one (show Kd.M Kd.string _ _ _ (⟨#[61]⟩ : ByteArray) [.string (⟨#[61]⟩ : ByteArray)] from rfl) (Reps.one (show Kd.M Kd.string _ _ _ (⟨#[60]⟩ : ByteArray) [.string (⟨#[60]⟩ : ByteArray)] from rfl) (Reps.one (show Kd.M Kd.string _ _ _ (⟨#[115, 60]⟩ : ByteArray) [.string (⟨#[115, 60]⟩ : ByteArray)] from rfl) (Reps.one (show Kd.M Kd.string _ _ _ (⟨#[106, 111, 105, 110]⟩ : ByteArray) [.string (⟨#[106, 111, 105, 110]⟩ : ByteArray)] from rfl) (Reps.none _ _)))))))))))))))); intro a6 w1 a1 hb hg_ hnew_; clear hg_ hnew_; (rw [← a2.out] at a1); have a3 := rL a1 HB; replace HB := hB HB hb; clear hb a1))
 go_ret
 exact ⟨_, rfl, sR <| a3.out, sW HB.out⟩
@[reducible] def b5s : Array Bool := #[false, false, false, false, false, false, false, false, false, false]
@[reducible] def b5q : Array Bool := #[true, false, false, false, false, false, false, false, false, false]
@[reducible] def b5h : Array Bool := #[true, false, false, false, false, true, false, false, false, false]
@[reducible] def b5c : Array Bool := #[true, true, false, false, false, true, false, false, false, false]
@[reducible] def b5b : Array Bool := #[true, true, false, false, false, true, true, false, false, false]
@[reducible] def b5a : Array Bool := #[true, true, true, false, false, true, true, false, false, false]
@[reducible] def b4y : Array Bool := #[true, true, true, true, false, true, true, false, false, false]
@[reducible] def b4x : Array Bool := #[true, true, true, true, true, true, true, false, false, false]
@[reducible] def b4w : Array Bool := #[true, true, true, true, true, true, true, true, false, false]
@[reducible] def b4v : Array Bool := #[true, true, true, true, true, true, true, true, true, false]
@[reducible] def b2m : Array Bool := #[true, true, true, true, true, true, true, true, true, true]
mutual
def rD : Nat → List ByteArray → ByteArray → Int → Int → Int → Int → Int → Int → Option (ByteArray)
 | 0, _, _, _, _, _, _, _, _ => none
 | k + 1, x1, x5, a5, a4, a3, a2, a1, a0 => (tY k a5 a4 a3 a2 a1 a0).bind fun a6 => (uE k x1 x5 a6 0)
def uE : Nat → List ByteArray → ByteArray → List Int → Int → Option (ByteArray)
 | 0, _, _, _, _ => none
 | k + 1, x1, x5, x6, x7 => if x7 < (x6.length : Int) then (if 0 ≤ x7 then (if 0 ≤ (rd x6 x7) then (if (rd x6 x7) < (x1.length : Int) then (if (vD ByteArray.empty x1 (rd x6 x7)).toList = ([] : List UInt8) then (some (⟨#[]⟩ : ByteArray)) else (if x5.size + 1 ≤ 9223372036854775807 then (if (x5 ++ (⟨#[32]⟩ : ByteArray)).size + (vD ByteArray.empty x1 (rd x6 x7)).size ≤ 9223372036854775807 then (uE k x1 ((x5 ++ (⟨#[32]⟩ : ByteArray)) ++ (vD ByteArray.empty x1 (rd x6 x7))) x6 (wrap64 (x7 + 1))) else (none)) else (none))) else (none)) else (none)) else (none)) else (if (wrap64 ((x5.size : Int) + 2)) > 4000 then (some (⟨#[]⟩ : ByteArray)) else (if 1 + x5.size ≤ 9223372036854775807 then (if ((⟨#[40]⟩ : ByteArray) ++ x5).size + 1 ≤ 9223372036854775807 then (some (((⟨#[40]⟩ : ByteArray) ++ x5) ++ (⟨#[41]⟩ : ByteArray))) else (none)) else (none)))
end
def wU (k : Nat) (a0 : Int) (a2 : Int) (a1 : Int) (a5 : Int) (a3 : Int) (a4 : Int) (l1 : List ByteArray) : Option (ByteArray) := if a0 = 0 then ((pQ k a2).bind fun aA => (if 1 + aA.size ≤ 9223372036854775807 then (if ((⟨#[35]⟩ : ByteArray) ++ aA).size + 1 ≤ 9223372036854775807 then ((pQ k a1).bind fun aG => (if (((⟨#[35]⟩ : ByteArray) ++ aA) ++ (⟨#[58]⟩ : ByteArray)).size + aG.size ≤ 9223372036854775807 then (some ((((⟨#[35]⟩ : ByteArray) ++ aA) ++ (⟨#[58]⟩ : ByteArray)) ++ aG)) else (none))) else (none)) else (none))) else (if a0 = 1 then ((pQ k a1).bind fun a9 => (if 1 + a9.size ≤ 9223372036854775807 then (if ((⟨#[118]⟩ : ByteArray) ++ a9).size + 1 ≤ 9223372036854775807 then ((pQ k a2).bind fun aF => (if (((⟨#[118]⟩ : ByteArray) ++ a9) ++ (⟨#[58]⟩ : ByteArray)).size + aF.size ≤ 9223372036854775807 then (some ((((⟨#[118]⟩ : ByteArray) ++ a9) ++ (⟨#[58]⟩ : ByteArray)) ++ aF)) else (none))) else (none)) else (none))) else (if a0 = 2 then (rD k l1 (⟨#[110, 111, 116]⟩ : ByteArray) a0 a2 a1 a5 a3 a4) else (if a0 = 17 then ((pQ k a1).bind fun a8 => (if 6 + a8.size ≤ 9223372036854775807 then (if ((⟨#[115, 108, 105, 99, 101, 32]⟩ : ByteArray) ++ a8).size + 1 ≤ 9223372036854775807 then ((pQ k a2).bind fun aE => (if (((⟨#[115, 108, 105, 99, 101, 32]⟩ : ByteArray) ++ a8) ++ (⟨#[32]⟩ : ByteArray)).size + aE.size ≤ 9223372036854775807 then (rD k l1 ((((⟨#[115, 108, 105, 99, 101, 32]⟩ : ByteArray) ++ a8) ++ (⟨#[32]⟩ : ByteArray)) ++ aE) a0 a2 a1 a5 a3 a4) else (none))) else (none)) else (none))) else (if a0 = 18 then (rD k l1 (⟨#[105, 102]⟩ : ByteArray) a0 a2 a1 a5 a3 a4) else (if a0 = 19 then ((pQ k a1).bind fun a7 => (if 5 + a7.size ≤ 9223372036854775807 then (if ((⟨#[97, 108, 108, 32, 118]⟩ : ByteArray) ++ a7).size + 1 ≤ 9223372036854775807 then ((pQ k a3).bind fun aD => (if (((⟨#[97, 108, 108, 32, 118]⟩ : ByteArray) ++ a7) ++ (⟨#[58]⟩ : ByteArray)).size + aD.size ≤ 9223372036854775807 then (rD k l1 ((((⟨#[97, 108, 108, 32, 118]⟩ : ByteArray) ++ a7) ++ (⟨#[58]⟩ : ByteArray)) ++ aD) a0 a2 a1 a5 a3 a4) else (none))) else (none)) else (none))) else (if a0 = 20 then ((pQ k a1).bind fun a6 => (if 6 + a6.size ≤ 9223372036854775807 then (if ((⟨#[115, 111, 109, 101, 32, 118]⟩ : ByteArray) ++ a6).size + 1 ≤ 9223372036854775807 then ((pQ k a3).bind fun aC => (if (((⟨#[115, 111, 109, 101, 32, 118]⟩ : ByteArray) ++ a6) ++ (⟨#[58]⟩ : ByteArray)).size + aC.size ≤ 9223372036854775807 then (rD k l1 ((((⟨#[115, 111, 109, 101, 32, 118]⟩ : ByteArray) ++ a6) ++ (⟨#[58]⟩ : ByteArray)) ++ aC) a0 a2 a1 a5 a3 a4) else (none))) else (none)) else (none))) else ((vF).bind fun aB => (if 0 ≤ (wrap64 (a0 - 3)) then (if (wrap64 (a0 - 3)) < (aB.length : Int) then (rD k l1 (vD ByteArray.empty aB (wrap64 (a0 - 3))) a0 a2 a1 a5 a3 a4) else (none)) else (none)))))))))
def a0o : Bool × List (List Nat × List Nat) := (true, [([], []), ([0], [0]), ([1], [1]), ([2], [2]), ([3], [3]), ([], []), ([5], [5]), ([6, 2], [6]), ([4, 7], [4, 7]), ([8, 7, 0, 1, 2, 3, 4, 5, 6, 7, 8], [8])])
def a5i : List Nat := [0, 1, 3, 7, 15, 0, 32, 103, 255, 511]
theorem a3b : a0r .any (a1u Try.f55 3) = a0o := by kernel_rfl
theorem a2l : vL a0o.2 a5i = true := by kernel_rfl
def a0n : Bool × List (List Nat × List Nat) := (true, [([], []), ([0], [0]), ([1], [1]), ([2], [2]), ([3], [3]), ([], []), ([5], [5]), ([6, 2], [6]), ([4, 7], [4, 7]), ([8, 7, 0, 1, 2, 3, 4, 5, 6, 7, 8], [8])])
def a5h : List Nat := [0, 1, 3, 7, 15, 0, 32, 103, 255, 511]
theorem a3a : a0r .any (a1u Try.f55 5) = a0n := by kernel_rfl
theorem a2k : vL a0n.2 a5h = true := by kernel_rfl
def a0h : Bool × List (List Nat × List Nat) := (true, [([], []), ([0], [0]), ([1], [1]), ([2], [2]), ([3], [3]), ([], []), ([5], [5]), ([6, 2], [6]), ([4, 7], [4, 7]), ([8, 7, 0, 1, 2, 3, 4, 5, 6, 7, 8], [8])])
def a3v : List Nat := [0, 1, 3, 7, 15, 0, 32, 103, 255, 511]
theorem a2j : a0r .any (a1u Try.f55 11) = a0h := by kernel_rfl
theorem a1r : vL a0h.2 a3v = true := by kernel_rfl
def a0g : Bool × List (List Nat × List Nat) := (true, [([], []), ([0], [0]), ([1], [1]), ([2], [2]), ([3], [3]), ([], []), ([5], [5]), ([6, 2], [6]), ([4, 7], [4, 7]), ([8, 7, 0, 1, 2, 3, 4, 5, 6, 7, 8], [8])])
def a3u : List Nat := [0, 1, 3, 7, 15, 0, 32, 103, 255, 511]
theorem a2i : a0r .any (a1u Try.f55 15) = a0g := by kernel_rfl
theorem a1q : vL a0g.2 a3u = true := by kernel_rfl
def a0f : Bool × List (List Nat × List Nat) := (true, [([], []), ([0], [0]), ([1], [1]), ([2], [2]), ([3], [3]), ([], []), ([5], [5]), ([6, 2], [6]), ([4, 7], [4, 7]), ([8, 7, 0, 1, 2, 3, 4, 5, 6, 7, 8], [8])])
def a3t : List Nat := [0, 1, 3, 7, 15, 0, 32, 103, 255, 511]
theorem a2h : a0r .any (a1u Try.f55 17) = a0f := by kernel_rfl
theorem a1p : vL a0f.2 a3t = true := by kernel_rfl
theorem wB {P : Prop} (h : P := by
 simp only [Act.put, List.setIfInBounds_toArray, List.set_cons_zero, List.set_cons_succ, xW, a1l]
 rfl) : P := h
theorem c1s {P : Prop} (h : P := by
 refine pT (i := 9) (N := some 4) b2m ?_
 refine yK (yP HT_.out (by kernel_rfl)) ?_
 try go_wp2
 go_ret
 exact ⟨rfl, bW⟩) : P := h
theorem c1i {P : Prop} (h : P := by
 obtain rfl := oI H
 obtain ⟨fR, fQ, rfl⟩ := Kd.R_slice aH.out
 go_wp2
 go_ret
 exact ⟨rfl, bW⟩) : P := h
theorem spec_l03Show.calls {k : Nat} {a2 a5 a3 a9 a7 a8 : Int} {A1 : Option Addr} {c1 : Nat} {l1 : List ByteArray} {r : ByteArray} {w : World} (hr1 : Kd.C Kd.string w A1 l1.length l1) (hc1 : l1.length ≤ c1) (h : wU k a2 a5 a3 a9 a7 a8 l1 = some r) :
  Calls Try.prog 55 #[.agg #[.int .i64 a2, .int .i64 a5, .int .i64 a3, .int .i64 a9, .int .i64 a7, .int .i64 a8], .slice A1 l1.length c1] w fun e w' => e = .returned (.string r) ∧ Below w.heap.size w w' := by
 have hu31 := Try.underlying31
 have bL := am hr1
 have fU := am hc1
 clear hr1 hc1
 have HB := am (Below.refl w.heap.size w)
 have H := h
 clear h
 unfold wU at H
 by_cases c3 : a2 = 0
 ·rw [if_pos c3] at H
  have cU : (a2 == 0) = true := beq_iff_eq.mpr c3
  have cT : (a2 != 0) = false := bne_eq_false_iff_eq.mpr c3
  clear c3
  replace H := oA H; obtain ⟨aG, A4, H⟩ := H
  replace H := iP H; obtain ⟨c5, H⟩ := H
  have fE := eq_true c5
  have fD : decide (1 + aG.size ≤ 9223372036854775807) = true := decide_eq_true c5
  try have fC : (9223372036854775807 < 1 + aG.size) = False := eq_false (Nat.not_lt.2 c5)
  replace H := iP H; obtain ⟨c6, H⟩ := H
  have fB := eq_true c6
  have fA : decide (((⟨#[35]⟩ : ByteArray) ++ aG).size + 1 ≤ 9223372036854775807) = true := decide_eq_true c6
  try have f9 : (9223372036854775807 < ((⟨#[35]⟩ : ByteArray) ++ aG).size + 1) = False := eq_false (Nat.not_lt.2 c6)
  have fT : (9223372036854775807 < 1 + aG.size + 1) = False := eq_false (Nat.not_lt.2 (by have h_ := c6; (repeat rw [ByteArray.size_append] at h_); exact h_))
  replace H := oA H; obtain ⟨aS, A7, H⟩ := H
  replace H := iP H; obtain ⟨c8, H⟩ := H
  have f6 := eq_true c8
  have f5 : decide ((((⟨#[35]⟩ : ByteArray) ++ aG) ++ (⟨#[58]⟩ : ByteArray)).size + aS.size ≤ 9223372036854775807) = true := decide_eq_true c8
  try have f4 : (9223372036854775807 < (((⟨#[35]⟩ : ByteArray) ++ aG) ++ (⟨#[58]⟩ : ByteArray)).size + aS.size) = False := eq_false (Nat.not_lt.2 c8)
  have fS : (9223372036854775807 < 1 + aG.size + 1 + aS.size) = False := eq_false (Nat.not_lt.2 (by have h_ := c8; (repeat rw [ByteArray.size_append] at h_); exact h_))
  obtain rfl := oI H
  go_enter Try.func55, Try.ntmps55
  try go_wp2_with (first | ((with_reducible refine gW ?_); first | (refine bX 2 31 #[.int .i64 a2, .int .i64 a5, .int .i64 a3, .int .i64 a9, .int .i64 a7, .int .i64 a8] ?_; intro a1 hg w9 hbox hb; have a0 := am hbox; have b9 := gw hg; have bA := gw hg; replace HB := hB HB hb; clear hb hbox hg; have d4 := cf6 a0.out)))
  replace a0 := am (pO a0.out)
  replace HB := am (kO HB.out)
  refine tM (n := 10) (S := fun w' => w'.cell? ⟨a1, 0, none⟩ = some (.int .i64 a2) ∧ w'.cell? ⟨a1, 1, none⟩ = some (.int .i64 a5) ∧ w'.cell? ⟨a1, 2, none⟩ = some (.int .i64 a3) ∧ w'.cell? ⟨a1, 3, none⟩ = some (.int .i64 a9) ∧ w'.cell? ⟨a1, 4, none⟩ = some (.int .i64 a7) ∧ w'.cell? ⟨a1, 5, none⟩ = some (.int .i64 a8)) (ds := []) b5s (by kernel_rfl) rfl rfl (cz6 a0.out) (fun hHeld => ?_); refine rV a3b a2l (fun HT_ HW_ => ?_)
  generalize w9.drew = w11 at a0 HB hHeld ⊢
  refine pT (i := 0) (N := some 12) b5q ?_
  refine pT (i := 5) (N := some 17) b5h ?_
  refine qF (i := 1) (N := some 13) (v := ?_) (a' := ?_) b5c rfl rfl (pE HT_.out HW_.out (by kernel_rfl)) (fun _ _ _ h => h) (Or.inl ⟨by rfl, ?_⟩) hHeld ?_ ?_
  rotate_left
  ·rintro w' ⟨s0, s1, s2, s3, s4, s5⟩
   go_simp
   with_reducible rfl
  rotate_left
  ·exact wB
  refine qF (i := 6) (N := some 18) (v := ?_) (a' := ?_) b5b rfl rfl (pE HT_.out HW_.out (by kernel_rfl)) (fun _ _ _ h => h) (Or.inl ⟨by rfl, ?_⟩) hHeld ?_ ?_
  rotate_left
  ·rintro w' ⟨s0, s1, s2, s3, s4, s5⟩
   go_simp
   with_reducible rfl
  rotate_left
  ·exact wB
  refine yN (i := 2) (N := some 14) b5a rfl rfl (uW HT_.out (by kernel_rfl)) (by decide) (fun K hK => ?_)
  refine yB Try.func84 (by kernel_rfl) rfl #[.int .i64 a5] (by rfl) rfl rfl tm ?_
  with_reducible refine (spec_l03Dec.calls A4.out).mono ?_
  rintro e w' ⟨rfl, ⟨nd, rfl⟩⟩
  refine ⟨_, rfl, ?_⟩
  refine hK.out _ _ (cz6 a0.out) (fun hHeld => ?_)
  clear hK K
  refine rO (a' := ?_) ?_ ?_
  rotate_left
  ·show Act.put _ (some 14) _ = _
   exact wB
  refine pT (i := 3) (N := some 15) b4y ?_
  refine pT (i := 4) (N := some 16) b4x ?_
  refine yN (i := 7) (N := some 19) b4w rfl rfl (uW HT_.out (by kernel_rfl)) (by decide) (fun K hK => ?_)
  refine yB Try.func84 (by kernel_rfl) rfl #[.int .i64 a3] (by rfl) rfl rfl tm ?_
  with_reducible refine (spec_l03Dec.calls A7.out).mono ?_
  rintro e w' ⟨rfl, ⟨nd, rfl⟩⟩
  refine ⟨_, rfl, ?_⟩
  refine hK.out _ _ (cz6 a0.out) (fun hHeld => ?_)
  clear hK K
  refine rO (a' := ?_) ?_ ?_
  rotate_left
  ·show Act.put _ (some 19) _ = _
   exact wB
  refine pT (i := 8) (N := some 20) b4v ?_
  exact c1s
 rw [if_neg c3] at H
 have cU : (a2 == 0) = false := beq_eq_false_iff_ne.mpr c3
 have cT : (a2 != 0) = true := bne_iff_ne.mpr c3
 replace H := iE H; rcases H with ⟨cF, cE, H⟩ | ⟨cF, cE, H⟩
 ·replace H := oA H; obtain ⟨aF, dE, H⟩ := H
  replace H := iP H; obtain ⟨bK, H⟩ := H
  have eV := eq_true bK
  have eU : decide (1 + aF.size ≤ 9223372036854775807) = true := decide_eq_true bK
  try have eT : (9223372036854775807 < 1 + aF.size) = False := eq_false (Nat.not_lt.2 bK)
  replace H := iP H; obtain ⟨b5, H⟩ := H
  have eS := eq_true b5
  have eR : decide (((⟨#[118]⟩ : ByteArray) ++ aF).size + 1 ≤ 9223372036854775807) = true := decide_eq_true b5
  try have eQ : (9223372036854775807 < ((⟨#[118]⟩ : ByteArray) ++ aF).size + 1) = False := eq_false (Nat.not_lt.2 b5)
  have fM : (9223372036854775807 < 1 + aF.size + 1) = False := eq_false (Nat.not_lt.2 (by have h_ := b5; (repeat rw [ByteArray.size_append] at h_); exact h_))
  replace H := oA H; obtain ⟨aR, dD, H⟩ := H
  replace H := iP H; obtain ⟨b4, H⟩ := H
  have eP := eq_true b4
  have eO : decide ((((⟨#[118]⟩ : ByteArray) ++ aF) ++ (⟨#[58]⟩ : ByteArray)).size + aR.size ≤ 9223372036854775807) = true := decide_eq_true b4
  try have eN : (9223372036854775807 < (((⟨#[118]⟩ : ByteArray) ++ aF) ++ (⟨#[58]⟩ : ByteArray)).size + aR.size) = False := eq_false (Nat.not_lt.2 b4)
  have fL : (9223372036854775807 < 1 + aF.size + 1 + aR.size) = False := eq_false (Nat.not_lt.2 (by have h_ := b4; (repeat rw [ByteArray.size_append] at h_); exact h_))
  obtain rfl := oI H
  go_enter Try.func55, Try.ntmps55
  try go_wp2_with (first | ((with_reducible refine gW ?_); first | (refine bX 2 31 #[.int .i64 a2, .int .i64 a5, .int .i64 a3, .int .i64 a9, .int .i64 a7, .int .i64 a8] ?_; intro a1 hg w18 hbox hb; have a0 := am hbox; have b9 := gw hg; have bA := gw hg; replace HB := hB HB hb; clear hb hbox hg; have d3 := cf6 a0.out)))
  replace a0 := am (pO a0.out)
  replace HB := am (kO HB.out)
  refine tM (n := 10) (S := fun w' => w'.cell? ⟨a1, 0, none⟩ = some (.int .i64 a2) ∧ w'.cell? ⟨a1, 1, none⟩ = some (.int .i64 a5) ∧ w'.cell? ⟨a1, 2, none⟩ = some (.int .i64 a3) ∧ w'.cell? ⟨a1, 3, none⟩ = some (.int .i64 a9) ∧ w'.cell? ⟨a1, 4, none⟩ = some (.int .i64 a7) ∧ w'.cell? ⟨a1, 5, none⟩ = some (.int .i64 a8)) (ds := []) b5s (by kernel_rfl) rfl rfl (cz6 a0.out) (fun hHeld => ?_); refine rV a3a a2k (fun HT_ HW_ => ?_)
  generalize w18.drew = w20 at a0 HB hHeld ⊢
  refine pT (i := 0) (N := some 23) b5q ?_
  refine pT (i := 5) (N := some 28) b5h ?_
  refine qF (i := 1) (N := some 24) (v := ?_) (a' := ?_) b5c rfl rfl (pE HT_.out HW_.out (by kernel_rfl)) (fun _ _ _ h => h) (Or.inl ⟨by rfl, ?_⟩) hHeld ?_ ?_
  rotate_left
  ·rintro w' ⟨s0, s1, s2, s3, s4, s5⟩
   go_simp
   with_reducible rfl
  rotate_left
  ·exact wB
  refine qF (i := 6) (N := some 29) (v := ?_) (a' := ?_) b5b rfl rfl (pE HT_.out HW_.out (by kernel_rfl)) (fun _ _ _ h => h) (Or.inl ⟨by rfl, ?_⟩) hHeld ?_ ?_
  rotate_left
  ·rintro w' ⟨s0, s1, s2, s3, s4, s5⟩
   go_simp
   with_reducible rfl
  rotate_left
  ·exact wB
  refine yN (i := 2) (N := some 25) b5a rfl rfl (uW HT_.out (by kernel_rfl)) (by decide) (fun K hK => ?_)
  refine yB Try.func84 (by kernel_rfl) rfl #[.int .i64 a3] (by rfl) rfl rfl tm ?_
  with_reducible refine (spec_l03Dec.calls dE.out).mono ?_
  rintro e w' ⟨rfl, ⟨nd, rfl⟩⟩
  refine ⟨_, rfl, ?_⟩
  refine hK.out _ _ (cz6 a0.out) (fun hHeld => ?_)
  clear hK K
  refine rO (a' := ?_) ?_ ?_
  rotate_left
  ·show Act.put _ (some 25) _ = _
   exact wB
  refine pT (i := 3) (N := some 26) b4y ?_
  refine pT (i := 4) (N := some 27) b4x ?_
  refine yN (i := 7) (N := some 30) b4w rfl rfl (uW HT_.out (by kernel_rfl)) (by decide) (fun K hK => ?_)
  refine yB Try.func84 (by kernel_rfl) rfl #[.int .i64 a5] (by rfl) rfl rfl tm ?_
  with_reducible refine (spec_l03Dec.calls dD.out).mono ?_
  rintro e w' ⟨rfl, ⟨nd, rfl⟩⟩
  refine ⟨_, rfl, ?_⟩
  refine hK.out _ _ (cz6 a0.out) (fun hHeld => ?_)
  clear hK K
  refine rO (a' := ?_) ?_ ?_
  rotate_left
  ·show Act.put _ (some 30) _ = _
   exact wB
  refine pT (i := 8) (N := some 31) b4v ?_
  exact c1s
 have aV := am H; clear H
 go_enter Try.func55, Try.ntmps55
 go_upto_block 1 with (first | ((with_reducible refine gW ?_); first | (refine bX 2 31 #[.int .i64 a2, .int .i64 a5, .int .i64 a3, .int .i64 a9, .int .i64 a7, .int .i64 a8] ?_; intro a1 hg w22 hbox hb; have a0 := am hbox; have b9 := gw hg; have bA := gw hg; replace HB := hB HB hb; clear hb hbox hg; have d2 := cf6 a0.out)))
 (try simp only [Act.put, List.setIfInBounds_toArray, List.set_cons_zero, List.set_cons_succ])
 go_cut [5] (fun v5 wc => ∃ (kq : Nat) (aI : ByteArray), v5 = .string aI ∧ Aside0 (rD kq l1 aI a2 a5 a3 a9 a7 a8 = some r) ∧ Aside0 (kq ≤ k) ∧ Aside0 (wc.heap[a1]? = some (.cells #[.int .i64 a2, .int .i64 a5, .int .i64 a3, .int .i64 a9, .int .i64 a7, .int .i64 a8] 31 (0, 0))) ∧ Aside0 (Below w.heap.size w wc))
 case first =>
  have H := aV.out
  clear aV
  replace H := iE H; rcases H with ⟨cC, cB, H⟩ | ⟨cC, cB, H⟩
  ·replace H := am H
   have d1 := cf6 a0.out
   go_wp2
   go_meet
   case rel => exact ⟨_, ((⟨#[110, 111, 116]⟩ : ByteArray)), rfl, H, ⟨oM⟩, ⟨sB <| a0.out⟩, ⟨bW⟩⟩
  replace H := iE H; rcases H with ⟨c0, b_, H⟩ | ⟨c0, b_, H⟩
  ·replace H := oA H; obtain ⟨aE, dC, H⟩ := H
   replace H := iP H; obtain ⟨bJ, H⟩ := H
   have eM := eq_true bJ
   have eL : decide (6 + aE.size ≤ 9223372036854775807) = true := decide_eq_true bJ
   try have eK : (9223372036854775807 < 6 + aE.size) = False := eq_false (Nat.not_lt.2 bJ)
   replace H := iP H; obtain ⟨b3, H⟩ := H
   have eJ := eq_true b3
   have eI : decide (((⟨#[115, 108, 105, 99, 101, 32]⟩ : ByteArray) ++ aE).size + 1 ≤ 9223372036854775807) = true := decide_eq_true b3
   try have eH : (9223372036854775807 < ((⟨#[115, 108, 105, 99, 101, 32]⟩ : ByteArray) ++ aE).size + 1) = False := eq_false (Nat.not_lt.2 b3)
   have fK : (9223372036854775807 < 6 + aE.size + 1) = False := eq_false (Nat.not_lt.2 (by have h_ := b3; (repeat rw [ByteArray.size_append] at h_); exact h_))
   replace H := oA H; obtain ⟨aN, dB, H⟩ := H
   replace H := iP H; obtain ⟨b2, H⟩ := H
   have eG := eq_true b2
   have eF : decide ((((⟨#[115, 108, 105, 99, 101, 32]⟩ : ByteArray) ++ aE) ++ (⟨#[32]⟩ : ByteArray)).size + aN.size ≤ 9223372036854775807) = true := decide_eq_true b2
   try have eE : (9223372036854775807 < (((⟨#[115, 108, 105, 99, 101, 32]⟩ : ByteArray) ++ aE) ++ (⟨#[32]⟩ : ByteArray)).size + aN.size) = False := eq_false (Nat.not_lt.2 b2)
   have fJ : (9223372036854775807 < 6 + aE.size + 1 + aN.size) = False := eq_false (Nat.not_lt.2 (by have h_ := b2; (repeat rw [ByteArray.size_append] at h_); exact h_))
   replace H := am H
   have d0 := cf6 a0.out
   try go_wp2
   replace a0 := am (pO a0.out)
   replace HB := am (kO HB.out)
   refine tM (n := 10) (S := fun w' => w'.cell? ⟨a1, 0, none⟩ = some (.int .i64 a2) ∧ w'.cell? ⟨a1, 1, none⟩ = some (.int .i64 a5) ∧ w'.cell? ⟨a1, 2, none⟩ = some (.int .i64 a3) ∧ w'.cell? ⟨a1, 3, none⟩ = some (.int .i64 a9) ∧ w'.cell? ⟨a1, 4, none⟩ = some (.int .i64 a7) ∧ w'.cell? ⟨a1, 5, none⟩ = some (.int .i64 a8)) (ds := []) b5s (by kernel_rfl) rfl rfl (cz6 a0.out) (fun hHeld => ?_); refine rV a2j a1r (fun HT_ HW_ => ?_)
   generalize w22.drew = w33 at a0 HB hHeld ⊢
   refine pT (i := 0) (N := some 46) b5q ?_
   refine pT (i := 5) (N := some 51) b5h ?_
   refine qF (i := 1) (N := some 47) (v := ?_) (a' := ?_) b5c rfl rfl (pE HT_.out HW_.out (by kernel_rfl)) (fun _ _ _ h => h) (Or.inl ⟨by rfl, ?_⟩) hHeld ?_ ?_
   rotate_left
   ·rintro w' ⟨s0, s1, s2, s3, s4, s5⟩
    go_simp
    with_reducible rfl
   rotate_left
   ·exact wB
   refine qF (i := 6) (N := some 52) (v := ?_) (a' := ?_) b5b rfl rfl (pE HT_.out HW_.out (by kernel_rfl)) (fun _ _ _ h => h) (Or.inl ⟨by rfl, ?_⟩) hHeld ?_ ?_
   rotate_left
   ·rintro w' ⟨s0, s1, s2, s3, s4, s5⟩
    go_simp
    with_reducible rfl
   rotate_left
   ·exact wB
   refine yN (i := 2) (N := some 48) b5a rfl rfl (uW HT_.out (by kernel_rfl)) (by decide) (fun K hK => ?_)
   refine yB Try.func84 (by kernel_rfl) rfl #[.int .i64 a3] (by rfl) rfl rfl tm ?_
   with_reducible refine (spec_l03Dec.calls dC.out).mono ?_
   rintro e w' ⟨rfl, ⟨nd, rfl⟩⟩
   refine ⟨_, rfl, ?_⟩
   refine hK.out _ _ (cz6 a0.out) (fun hHeld => ?_)
   clear hK K
   refine rO (a' := ?_) ?_ ?_
   rotate_left
   ·show Act.put _ (some 48) _ = _
    exact wB
   refine pT (i := 3) (N := some 49) b4y ?_
   refine pT (i := 4) (N := some 50) b4x ?_
   refine yN (i := 7) (N := some 53) b4w rfl rfl (uW HT_.out (by kernel_rfl)) (by decide) (fun K hK => ?_)
   refine yB Try.func84 (by kernel_rfl) rfl #[.int .i64 a5] (by rfl) rfl rfl tm ?_
   with_reducible refine (spec_l03Dec.calls dB.out).mono ?_
   rintro e w' ⟨rfl, ⟨nd, rfl⟩⟩
   refine ⟨_, rfl, ?_⟩
   refine hK.out _ _ (cz6 a0.out) (fun hHeld => ?_)
   clear hK K
   refine rO (a' := ?_) ?_ ?_
   rotate_left
   ·show Act.put _ (some 53) _ = _
    exact wB
   refine pT (i := 8) (N := some 54) b4v ?_
   refine pT (i := 9) (N := some 5) b2m ?_
   refine yK (yP HT_.out (by kernel_rfl)) ?_
   try go_wp2
   go_meet
   case rel => exact ⟨_, ((((⟨#[115, 108, 105, 99, 101, 32]⟩ : ByteArray) ++ aE) ++ (⟨#[32]⟩ : ByteArray)) ++ aN), rfl, H, ⟨oM⟩, ⟨sB <| a0.out⟩, ⟨bW⟩⟩
  replace H := iE H; rcases H with ⟨bZ, bV, H⟩ | ⟨bZ, bV, H⟩
  ·replace H := am H
   have c_ := cf6 a0.out
   go_wp2
   go_meet
   case rel => exact ⟨_, ((⟨#[105, 102]⟩ : ByteArray)), rfl, H, ⟨oM⟩, ⟨sB <| a0.out⟩, ⟨bW⟩⟩
  replace H := iE H; rcases H with ⟨bU, bT, H⟩ | ⟨bU, bT, H⟩
  ·replace H := oA H; obtain ⟨aD, dA, H⟩ := H
   replace H := iP H; obtain ⟨bI, H⟩ := H
   have eD := eq_true bI
   have eC : decide (5 + aD.size ≤ 9223372036854775807) = true := decide_eq_true bI
   try have eB : (9223372036854775807 < 5 + aD.size) = False := eq_false (Nat.not_lt.2 bI)
   replace H := iP H; obtain ⟨b1, H⟩ := H
   have eA := eq_true b1
   have e9 : decide (((⟨#[97, 108, 108, 32, 118]⟩ : ByteArray) ++ aD).size + 1 ≤ 9223372036854775807) = true := decide_eq_true b1
   try have e8 : (9223372036854775807 < ((⟨#[97, 108, 108, 32, 118]⟩ : ByteArray) ++ aD).size + 1) = False := eq_false (Nat.not_lt.2 b1)
   have fI : (9223372036854775807 < 5 + aD.size + 1) = False := eq_false (Nat.not_lt.2 (by have h_ := b1; (repeat rw [ByteArray.size_append] at h_); exact h_))
   replace H := oA H; obtain ⟨aM, d9, H⟩ := H
   replace H := iP H; obtain ⟨b0, H⟩ := H
   have e7 := eq_true b0
   have e6 : decide ((((⟨#[97, 108, 108, 32, 118]⟩ : ByteArray) ++ aD) ++ (⟨#[58]⟩ : ByteArray)).size + aM.size ≤ 9223372036854775807) = true := decide_eq_true b0
   try have e5 : (9223372036854775807 < (((⟨#[97, 108, 108, 32, 118]⟩ : ByteArray) ++ aD) ++ (⟨#[58]⟩ : ByteArray)).size + aM.size) = False := eq_false (Nat.not_lt.2 b0)
   have fH : (9223372036854775807 < 5 + aD.size + 1 + aM.size) = False := eq_false (Nat.not_lt.2 (by have h_ := b0; (repeat rw [ByteArray.size_append] at h_); exact h_))
   replace H := am H
   have cZ := cf6 a0.out
   try go_wp2
   replace a0 := am (pO a0.out)
   replace HB := am (kO HB.out)
   refine tM (n := 10) (S := fun w' => w'.cell? ⟨a1, 0, none⟩ = some (.int .i64 a2) ∧ w'.cell? ⟨a1, 1, none⟩ = some (.int .i64 a5) ∧ w'.cell? ⟨a1, 2, none⟩ = some (.int .i64 a3) ∧ w'.cell? ⟨a1, 3, none⟩ = some (.int .i64 a9) ∧ w'.cell? ⟨a1, 4, none⟩ = some (.int .i64 a7) ∧ w'.cell? ⟨a1, 5, none⟩ = some (.int .i64 a8)) (ds := []) b5s (by kernel_rfl) rfl rfl (cz6 a0.out) (fun hHeld => ?_); refine rV a2i a1q (fun HT_ HW_ => ?_)
   generalize w22.drew = w43 at a0 HB hHeld ⊢
   refine pT (i := 0) (N := some 63) b5q ?_
   refine pT (i := 5) (N := some 68) b5h ?_
   refine qF (i := 1) (N := some 64) (v := ?_) (a' := ?_) b5c rfl rfl (pE HT_.out HW_.out (by kernel_rfl)) (fun _ _ _ h => h) (Or.inl ⟨by rfl, ?_⟩) hHeld ?_ ?_
   rotate_left
   ·rintro w' ⟨s0, s1, s2, s3, s4, s5⟩
    go_simp
    with_reducible rfl
   rotate_left
   ·exact wB
   refine qF (i := 6) (N := some 69) (v := ?_) (a' := ?_) b5b rfl rfl (pE HT_.out HW_.out (by kernel_rfl)) (fun _ _ _ h => h) (Or.inl ⟨by rfl, ?_⟩) hHeld ?_ ?_
   rotate_left
   ·rintro w' ⟨s0, s1, s2, s3, s4, s5⟩
    go_simp
    with_reducible rfl
   rotate_left
   ·exact wB
   refine yN (i := 2) (N := some 65) b5a rfl rfl (uW HT_.out (by kernel_rfl)) (by decide) (fun K hK => ?_)
   refine yB Try.func84 (by kernel_rfl) rfl #[.int .i64 a3] (by rfl) rfl rfl tm ?_
   with_reducible refine (spec_l03Dec.calls dA.out).mono ?_
   rintro e w' ⟨rfl, ⟨nd, rfl⟩⟩
   refine ⟨_, rfl, ?_⟩
   refine hK.out _ _ (cz6 a0.out) (fun hHeld => ?_)
   clear hK K
   refine rO (a' := ?_) ?_ ?_
   rotate_left
   ·show Act.put _ (some 65) _ = _
    exact wB
   refine pT (i := 3) (N := some 66) b4y ?_
   refine pT (i := 4) (N := some 67) b4x ?_
   refine yN (i := 7) (N := some 70) b4w rfl rfl (uW HT_.out (by kernel_rfl)) (by decide) (fun K hK => ?_)
   refine yB Try.func84 (by kernel_rfl) rfl #[.int .i64 a7] (by rfl) rfl rfl tm ?_
   with_reducible refine (spec_l03Dec.calls d9.out).mono ?_
   rintro e w' ⟨rfl, ⟨nd, rfl⟩⟩
   refine ⟨_, rfl, ?_⟩
   refine hK.out _ _ (cz6 a0.out) (fun hHeld => ?_)
   clear hK K
   refine rO (a' := ?_) ?_ ?_
   rotate_left
   ·show Act.put _ (some 70) _ = _
    exact wB
   refine pT (i := 8) (N := some 71) b4v ?_
   refine pT (i := 9) (N := some 5) b2m ?_
   refine yK (yP HT_.out (by kernel_rfl)) ?_
   try go_wp2
   go_meet
   case rel => exact ⟨_, ((((⟨#[97, 108, 108, 32, 118]⟩ : ByteArray) ++ aD) ++ (⟨#[58]⟩ : ByteArray)) ++ aM), rfl, H, ⟨oM⟩, ⟨sB <| a0.out⟩, ⟨bW⟩⟩
  replace H := iE H; rcases H with ⟨bS, bR, H⟩ | ⟨bS, bR, H⟩
  ·replace H := oA H; obtain ⟨aC, d8, H⟩ := H
   replace H := iP H; obtain ⟨bH, H⟩ := H
   have e4 := eq_true bH
   have e3 : decide (6 + aC.size ≤ 9223372036854775807) = true := decide_eq_true bH
   try have e2 : (9223372036854775807 < 6 + aC.size) = False := eq_false (Nat.not_lt.2 bH)
   replace H := iP H; obtain ⟨a_, H⟩ := H
   have e1 := eq_true a_
   have e0 : decide (((⟨#[115, 111, 109, 101, 32, 118]⟩ : ByteArray) ++ aC).size + 1 ≤ 9223372036854775807) = true := decide_eq_true a_
   try have d_ : (9223372036854775807 < ((⟨#[115, 111, 109, 101, 32, 118]⟩ : ByteArray) ++ aC).size + 1) = False := eq_false (Nat.not_lt.2 a_)
   have fG : (9223372036854775807 < 6 + aC.size + 1) = False := eq_false (Nat.not_lt.2 (by have h_ := a_; (repeat rw [ByteArray.size_append] at h_); exact h_))
   replace H := oA H; obtain ⟨aL, d7, H⟩ := H
   replace H := iP H; obtain ⟨aZ, H⟩ := H
   have dZ := eq_true aZ
   have dY : decide ((((⟨#[115, 111, 109, 101, 32, 118]⟩ : ByteArray) ++ aC) ++ (⟨#[58]⟩ : ByteArray)).size + aL.size ≤ 9223372036854775807) = true := decide_eq_true aZ
   try have dX : (9223372036854775807 < (((⟨#[115, 111, 109, 101, 32, 118]⟩ : ByteArray) ++ aC) ++ (⟨#[58]⟩ : ByteArray)).size + aL.size) = False := eq_false (Nat.not_lt.2 aZ)
   have fF : (9223372036854775807 < 6 + aC.size + 1 + aL.size) = False := eq_false (Nat.not_lt.2 (by have h_ := aZ; (repeat rw [ByteArray.size_append] at h_); exact h_))
   replace H := am H
   have cY := cf6 a0.out
   try go_wp2
   replace a0 := am (pO a0.out)
   replace HB := am (kO HB.out)
   refine tM (n := 10) (S := fun w' => w'.cell? ⟨a1, 0, none⟩ = some (.int .i64 a2) ∧ w'.cell? ⟨a1, 1, none⟩ = some (.int .i64 a5) ∧ w'.cell? ⟨a1, 2, none⟩ = some (.int .i64 a3) ∧ w'.cell? ⟨a1, 3, none⟩ = some (.int .i64 a9) ∧ w'.cell? ⟨a1, 4, none⟩ = some (.int .i64 a7) ∧ w'.cell? ⟨a1, 5, none⟩ = some (.int .i64 a8)) (ds := []) b5s (by kernel_rfl) rfl rfl (cz6 a0.out) (fun hHeld => ?_); refine rV a2h a1p (fun HT_ HW_ => ?_)
   generalize w22.drew = w51 at a0 HB hHeld ⊢
   refine pT (i := 0) (N := some 76) b5q ?_
   refine pT (i := 5) (N := some 81) b5h ?_
   refine qF (i := 1) (N := some 77) (v := ?_) (a' := ?_) b5c rfl rfl (pE HT_.out HW_.out (by kernel_rfl)) (fun _ _ _ h => h) (Or.inl ⟨by rfl, ?_⟩) hHeld ?_ ?_
   rotate_left
   ·rintro w' ⟨s0, s1, s2, s3, s4, s5⟩
    go_simp
    with_reducible rfl
   rotate_left
   ·exact wB
   refine qF (i := 6) (N := some 82) (v := ?_) (a' := ?_) b5b rfl rfl (pE HT_.out HW_.out (by kernel_rfl)) (fun _ _ _ h => h) (Or.inl ⟨by rfl, ?_⟩) hHeld ?_ ?_
   rotate_left
   ·rintro w' ⟨s0, s1, s2, s3, s4, s5⟩
    go_simp
    with_reducible rfl
   rotate_left
   ·exact wB
   refine yN (i := 2) (N := some 78) b5a rfl rfl (uW HT_.out (by kernel_rfl)) (by decide) (fun K hK => ?_)
   refine yB Try.func84 (by kernel_rfl) rfl #[.int .i64 a3] (by rfl) rfl rfl tm ?_
   with_reducible refine (spec_l03Dec.calls d8.out).mono ?_
   rintro e w' ⟨rfl, ⟨nd, rfl⟩⟩
   refine ⟨_, rfl, ?_⟩
   refine hK.out _ _ (cz6 a0.out) (fun hHeld => ?_)
   clear hK K
   refine rO (a' := ?_) ?_ ?_
   rotate_left
   ·show Act.put _ (some 78) _ = _
    exact wB
   refine pT (i := 3) (N := some 79) b4y ?_
   refine pT (i := 4) (N := some 80) b4x ?_
   refine yN (i := 7) (N := some 83) b4w rfl rfl (uW HT_.out (by kernel_rfl)) (by decide) (fun K hK => ?_)
   refine yB Try.func84 (by kernel_rfl) rfl #[.int .i64 a7] (by rfl) rfl rfl tm ?_
   with_reducible refine (spec_l03Dec.calls d7.out).mono ?_
   rintro e w' ⟨rfl, ⟨nd, rfl⟩⟩
   refine ⟨_, rfl, ?_⟩
   refine hK.out _ _ (cz6 a0.out) (fun hHeld => ?_)
   clear hK K
   refine rO (a' := ?_) ?_ ?_
   rotate_left
   ·show Act.put _ (some 83) _ = _
    exact wB
   refine pT (i := 8) (N := some 84) b4v ?_
   refine pT (i := 9) (N := some 5) b2m ?_
   refine yK (yP HT_.out (by kernel_rfl)) ?_
   try go_wp2
   go_meet
   case rel => exact ⟨_, ((((⟨#[115, 111, 109, 101, 32, 118]⟩ : ByteArray) ++ aC) ++ (⟨#[58]⟩ : ByteArray)) ++ aL), rfl, H, ⟨oM⟩, ⟨sB <| a0.out⟩, ⟨bW⟩⟩
  replace H := oA H; obtain ⟨bD, cK, H⟩ := H
  generalize aW : wrap64 (a2 - 3) = aO at H
  (try rw [aW] at cK)
  have d5 : (IntKind.i64.wrap (a2 - 3)) = aO := (xW _).trans aW
  replace H := iN H; obtain ⟨dW, H⟩ := H
  replace H := iN H; obtain ⟨dV, H⟩ := H
  replace H := am H
  have cX := cf6 a0.out
  try go_wp2
  replace a0 := am (pO a0.out)
  replace HB := am (kO HB.out)
  refine tM (n := 7) (S := fun w' => w'.cell? ⟨a1, 0, none⟩ = some (.int .i64 a2) ∧ w'.cell? ⟨a1, 1, none⟩ = some (.int .i64 a5) ∧ w'.cell? ⟨a1, 2, none⟩ = some (.int .i64 a3) ∧ w'.cell? ⟨a1, 3, none⟩ = some (.int .i64 a9) ∧ w'.cell? ⟨a1, 4, none⟩ = some (.int .i64 a7) ∧ w'.cell? ⟨a1, 5, none⟩ = some (.int .i64 a8)) (ds := []) #[false, false, false, false, false, false, false] (by kernel_rfl) rfl rfl (cz6 a0.out) (fun hHeld => ?_)
  generalize w22.drew = w57 at a0 HB hHeld ⊢
  refine pS (i := 1) (N := some 33) #[false, true, false, false, false, false, false] ?_
  refine qF (i := 2) (N := some 34) (v := ?_) (a' := ?_) #[false, true, true, false, false, false, false] rfl rfl (by kernel_rfl) (fun _ _ _ h => h) (Or.inl ⟨by rfl, ?_⟩) hHeld ?_ ?_
  rotate_left
  ·rintro w' ⟨s0, s1, s2, s3, s4, s5⟩
   go_simp
   with_reducible rfl
  rotate_left
  ·exact wB
  refine pS (i := 3) (N := some 35) #[false, true, true, true, false, false, false] ?_
  refine yN (i := 0) (N := some 32) #[true, true, true, true, false, false, false] rfl rfl (by kernel_rfl) (by decide) (fun K hK => ?_)
  refine yB Try.func85 (by kernel_rfl) rfl #[] (by rfl) rfl rfl (by (try simp only [List.map_toArray, List.map_cons, List.map_nil]); done) ?_
  with_reducible refine (spec_l03Words.calls _ _ cK.out).mono ?_
  rintro e w58 ⟨eX, rfl, aQ, hb⟩
  refine ⟨_, rfl, ?_⟩
  have b8 := am (Kd.R_lower aQ (kJ (by exact bW)))
  replace a0 := gB a0 hb
  replace HB := hX hb
  clear hb
  clear aQ
  obtain ⟨fP, f3, cQ⟩ := Kd.R_slice b8.out
  (subst cQ)
  obtain ⟨f0, eZ, eW, rfl, cW⟩ := ix (Kd.at_string (Kd.R_reads' b8.out).2.2 (aO))
  refine hK.out _ _ (cz6 a0.out) (fun hHeld => ?_)
  clear hK K
  refine rO (a' := ?_) ?_ ?_
  rotate_left
  ·show Act.put _ (some 32) _ = _
   exact wB
  refine pS (i := 4) (N := some 36) #[true, true, true, true, true, false, false] ?_
  refine yN (i := 5) (N := some 37) #[true, true, true, true, true, true, false] rfl rfl (by kernel_rfl) (by decide) (fun K hK => ?_)
  refine c9y (v := .string (vD ByteArray.empty bD (aO))) (w1 := w58) (by rfl) rfl (by go_simp) ?_
  refine hK.out _ _ (cz6 a0.out) (fun hHeld => ?_)
  clear hK K
  refine rO (a' := ?_) ?_ ?_
  rotate_left
  ·show Act.put _ (some 37) _ = _
   exact wB
  refine pS (i := 6) (N := some 5) #[true, true, true, true, true, true, true] ?_
  refine yK (by kernel_rfl) ?_
  try go_wp2
  go_meet
  case rel => exact ⟨_, (vD ByteArray.empty bD (aO)), rfl, H, ⟨oM⟩, ⟨sB <| a0.out⟩, ⟨bW⟩⟩
 clear aV
 clear c3
 obtain ⟨kq, aI, rfl, HA, bM, a0, HB⟩ := hcut
 cases kq with
 | zero => cases HA.out
 | succ bE =>
  obtain ⟨H⟩ := HA
  simp only [rD] at H
  replace H := oA H; obtain ⟨aA, d6, H⟩ := H
  replace H := am H
  have bC := cf6 a0.out
  go_wp2_with (first | ((with_reducible refine gW ?_); first | (refine gF 70 (some 86) rfl ?_; refine gT Try.func70 (spec_Parts.calls d6.out) ?_; rintro cL w62 ⟨aQ, hb⟩; have cI := am (Kd.R_lower aQ (kJ (by exact bW))); replace a0 := gB a0 hb; replace HB := hX hb; (try clear hb); (try clear aQ))))
  go_loopg [5, 7] bE (fun kq v5 v7 w' => ∃ (a4 : ByteArray) (a6 : Int), v5 = .string a4 ∧ v7 = .int .i64 a6 ∧ Aside0 (uE kq l1 a4 aA a6 = some r) ∧ Aside0 (kq ≤ bE) ∧ Aside0 (Kd.R (Kd.int .i64) 3 w' w.heap.size (fun _ => True) cL aA) ∧ Aside0 (w'.heap[a1]? = some (.cells #[.int .i64 a2, .int .i64 a5, .int .i64 a3, .int .i64 a9, .int .i64 a7, .int .i64 a8] 31 (0, 0))) ∧ Aside0 (Below w.heap.size w w'))
  case atStart => exact ⟨aI, 0, rfl, rfl, H, ⟨Nat.le_refl _⟩, ⟨sR <| cI.out⟩, ⟨sB <| a0.out⟩, ⟨bW⟩⟩
  clear H
  clear bC
  obtain ⟨a4, a6, rfl, rfl, HA, cJ, aH, a0, HB⟩ := hrel
  cases gk with
  | zero => cases HA.out
  | succ k2 =>
   obtain ⟨H⟩ := HA
   simp only [uE] at H
   replace H := iD H; rcases H with ⟨bQ, H⟩ | ⟨bQ, H⟩
   rotate_left
   ·by_cases aK : (wrap64 ((a4.size : Int) + 2)) > 4000
    ·rw [if_pos aK] at H
     have bN : decide (4000 < (wrap64 ((a4.size : Int) + 2))) = true := decide_eq_true aK
     clear aK
     exact c1i
    rw [if_neg aK] at H
    have bN : decide (4000 < (wrap64 ((a4.size : Int) + 2))) = false := decide_eq_false aK
    clear aK
    replace H := iP H; obtain ⟨bF, H⟩ := H
    have dK := eq_true bF
    have dJ : decide (1 + a4.size ≤ 9223372036854775807) = true := decide_eq_true bF
    try have dI : (9223372036854775807 < 1 + a4.size) = False := eq_false (Nat.not_lt.2 bF)
    replace H := iP H; obtain ⟨aX, H⟩ := H
    have dH := eq_true aX
    have dG : decide (((⟨#[40]⟩ : ByteArray) ++ a4).size + 1 ≤ 9223372036854775807) = true := decide_eq_true aX
    try have dF : (9223372036854775807 < ((⟨#[40]⟩ : ByteArray) ++ a4).size + 1) = False := eq_false (Nat.not_lt.2 aX)
    have f7 : (9223372036854775807 < 1 + a4.size + 1) = False := eq_false (Nat.not_lt.2 (by have h_ := aX; (repeat rw [ByteArray.size_append] at h_); exact h_))
    exact c1i
   replace H := iN H; obtain ⟨dU, H⟩ := H
   replace H := iN H; obtain ⟨dT, H⟩ := H
   replace H := iN H; obtain ⟨dS, H⟩ := H
   replace H := iE H; rcases H with ⟨bP, bO, H⟩ | ⟨bP, bO, H⟩
   ·obtain rfl := oI H
    obtain ⟨fO, f2, rfl⟩ := Kd.R_slice aH.out
    obtain ⟨cP, cN, b7, rfl, bB⟩ := ix (Kd.at_int (Kd.R_reads' aH.out).2.2 a6)
    obtain ⟨cO, cM, b6, rfl, aB⟩ := ix (Kd.at_string bL.out (rd aA a6))
    replace aB := kC HB.out aB
    go_wp2
    go_ret
    exact ⟨rfl, bW⟩
   replace H := iP H; obtain ⟨bG, H⟩ := H
   have dQ := eq_true bG
   have dP : decide (a4.size + 1 ≤ 9223372036854775807) = true := decide_eq_true bG
   try have dO : (9223372036854775807 < a4.size + 1) = False := eq_false (Nat.not_lt.2 bG)
   replace H := iP H; obtain ⟨aY, H⟩ := H
   have dN := eq_true aY
   have dM : decide ((a4 ++ (⟨#[32]⟩ : ByteArray)).size + (vD ByteArray.empty l1 (rd aA a6)).size ≤ 9223372036854775807) = true := decide_eq_true aY
   try have dL : (9223372036854775807 < (a4 ++ (⟨#[32]⟩ : ByteArray)).size + (vD ByteArray.empty l1 (rd aA a6)).size) = False := eq_false (Nat.not_lt.2 aY)
   have f8 : (9223372036854775807 < a4.size + 1 + (vD ByteArray.empty l1 (rd aA a6)).size) = False := eq_false (Nat.not_lt.2 (by have h_ := aY; (repeat rw [ByteArray.size_append] at h_); exact h_))
   replace H := am H
   obtain ⟨fN, f1, rfl⟩ := Kd.R_slice aH.out
   obtain ⟨cP, cN, b7, rfl, bB⟩ := ix (Kd.at_int (Kd.R_reads' aH.out).2.2 a6)
   obtain ⟨cO, cM, b6, rfl, aB⟩ := ix (Kd.at_string bL.out (rd aA a6))
   replace aB := kC HB.out aB
   obtain ⟨e_, eY, cH, cS, cV⟩ := ix (Kd.at_int (Kd.R_reads' aH.out).2.2 a6)
   obtain rfl : b7 = cH := (by injection cS)
   have aU : 0 ≤ ((rd aA a6) : Int) := oD (by assumption)
   have aT : (rd aA a6) < (l1.length : Int) := oD (by assumption)
   obtain ⟨cG, cR, aJ⟩ := Kd.at_string bL.out (rd aA a6) aU aT
   obtain rfl : b6 = cG := (by injection cR)
   replace aJ := kC HB.out aJ
   replace aU := eq_true aU
   replace aT := eq_true aT
   go_wp2
   go_roundg k2
   case measure => have := bM.out; have := cJ.out; omega
   case rel => exact ⟨((a4 ++ (⟨#[32]⟩ : ByteArray)) ++ (vD ByteArray.empty l1 (rd aA a6))), (wrap64 (a6 + 1)), rfl, rfl, H, ⟨by have := bM.out; have := cJ.out; omega⟩, ⟨sR <| aH.out⟩, ⟨sB <| a0.out⟩, ⟨bW⟩⟩
end Go.Proofs.Ytkpipmojkhikaaa.PAll
