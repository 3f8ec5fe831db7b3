/- Written by a program of this session over the loaded program, and by hand: Go functions as plain Lean functions, and that a call comes to what they say. -/
import Derived.Test.YtkpipmojkhikaaaVText0
import Derived.Test.YtkpipmojkhikaaaVText1
import Derived.Test.YtkpipmojkhikaaaVText10
import Derived.Test.YtkpipmojkhikaaaVText11
import Derived.Test.YtkpipmojkhikaaaVText18
import Derived.Test.YtkpipmojkhikaaaBase
import Derived.Test.YtkpipmojkhikaaaSq
namespace Go.Proofs.Ytkpipmojkhikaaa.PAll
open Go.RowKit Go.Proofs.YtkpipmojkhikaaaW.PrintWords Go.Proofs.YtkpipmojkhikaaaW.PrintLast Go.Proofs.YtkpipmojkhikaaaW.PrintMore Go.Proofs.YtkpipmojkhikaaaW.Sq
attribute [local go_sem] sD rZ uM uL qV qU sA rY
set_option linter.unusedVariables false
set_option maxHeartbeats 8000000
set_option maxRecDepth 100000
set_option linter.unusedSimpArgs false
mutual
def vU : Nat → ByteArray → Int → Bool → Option (Int)
 | 0, _, _, _ => none
 | k + 1, x0, x3, a2 => if a2 = true then (some (-1)) else (vA k x0 x3 0)
def vA : Nat → ByteArray → Int → Int → Option (Int)
 | 0, _, _, _ => none
 | k + 1, x0, x3, x4 => if x4 < (x0.size : Int) then (if 0 ≤ x4 then ((pW (wrap64 (bt x0 x4)) 48 57).bind fun a1 => (if a1 = true then (vA k x0 (wrap64 ((wrap64 ((wrap64 (10 * x3)) + (wrap64 (bt x0 x4)))) - 48)) (wrap64 (x4 + 1))) else (some (-1)))) else (none)) else ((pQ k x3).bind fun a0 => (if a0.toList = x0.toList then (some x3) else (some (-1))))
end
def sX (k : Nat) (a0 : ByteArray) : Option (Int) := if (a0.size : Int) = 0 then (vU k a0 0 true) else (vU k a0 0 (decide ((a0.size : Int) > 9)))
theorem c2f {P : Prop} (h : P := by
 obtain rfl := oI H
 go_wp2_with (first | ((with_reducible refine gW ?_); first | (refine gD (some 34) Try.func84 rfl (spec_l03Dec.calls aH.out) fun nd => ?_)))
 go_ret
 exact ⟨rfl, dR⟩) : P := h
theorem spec_l03Num.calls (k : Nat) (a0 : ByteArray) (r : Int) (w : World) (h : sX k a0 = some r) :
  Calls Try.prog 126 #[.string a0] w fun e w' => e = .returned (.int .i64 r) ∧ Drawn0 w w' := by
 have H := h
 clear h
 unfold sX at H
 have a4 := am H; clear H
 go_enter Try.func126, Try.ntmps126
 go_upto_region 2 with (fail)
 go_cut [12] (fun aF wc => ∃ (kq : Nat) (a3 : Bool), aF = .bool a3 ∧ Aside0 (vU kq a0 0 a3 = some r) ∧ Aside0 (kq ≤ k) ∧ Drawn0 w wc)
 case first =>
  have H := a4.out
  clear a4
  replace H := iE H; rcases H with ⟨aE, aD, H⟩ | ⟨aE, aD, H⟩
  ·replace H := am H
   go_wp2
   go_meet
   case rel => exact ⟨_, true, rfl, H, ⟨oM⟩, dR⟩
  replace H := am H
  go_wp2
  go_meet
  case rel => exact ⟨_, (decide ((a0.size : Int) > 9)), rfl, H, ⟨oM⟩, dR⟩
 clear a4
 obtain ⟨kq, a3, rfl, HA, aB, ⟨aM, rfl⟩⟩ := hcut
 cases kq with
 | zero => cases HA.out
 | succ a9 =>
  obtain ⟨H⟩ := HA
  simp only [vU] at H
  replace H := iB H; rcases H with ⟨rfl, H⟩ | ⟨rfl, H⟩
  ·obtain rfl := oI H
   go_wp2
   go_ret
   exact ⟨rfl, dR⟩
  replace H := am H
  go_wp2
  go_loopg [3, 4] a9 (fun kq v3 v4 w' => ∃ (a2 : Int) (a1 : Int), v3 = .int .i64 a2 ∧ v4 = .int .i64 a1 ∧ Aside0 (vA kq a0 a2 a1 = some r) ∧ Aside0 (kq ≤ a9) ∧ Drawn0 w w')
  case atStart => exact ⟨0, 0, rfl, rfl, H, ⟨Nat.le_refl _⟩, dR⟩
  clear H
  obtain ⟨a2, a1, rfl, rfl, HA, aA, ⟨m2, rfl⟩⟩ := hrel
  cases gk with
  | zero => cases HA.out
  | succ k2 =>
   obtain ⟨H⟩ := HA
   simp only [vA] at H
   replace H := iD H; rcases H with ⟨aC, H⟩ | ⟨aC, H⟩
   rotate_left
   ·replace H := oA H; obtain ⟨aI, aH, H⟩ := H
    replace H := iE H; rcases H with ⟨a6, a5, H⟩ | ⟨a6, a5, H⟩
    ·exact c2f
    exact c2f
   replace H := iN H; obtain ⟨aL, H⟩ := H
   replace H := oA H; obtain ⟨aJ, A8, H⟩ := H
   replace H := iB H; rcases H with ⟨rfl, H⟩ | ⟨rfl, H⟩
   ·replace H := am H
    have p7 : 0 ≤ (a1 : Int) := oD (by assumption)
    have q7 : a1 < (a0.size : Int) := oD (by assumption)
    have aG := xG a0 a1
    replace p7 := eq_true p7
    replace q7 := eq_true q7
    go_wp2_with (first | ((with_reducible refine gW ?_); first | (refine gD (some 23) Try.func42 rfl (spec_l01In.calls _ _ _ _ _ A8.out) fun nd => ?_; have a8 : 0 ≤ (a1 : Int) := oD (by assumption); have a7 : a1 < (a0.size : Int) := oD (by assumption); have aK := xG a0 a1; replace a8 := eq_true a8; replace a7 := eq_true a7)))
    go_roundg k2
    case measure => have := aB.out; have := aA.out; omega
    case rel => exact ⟨(wrap64 ((wrap64 ((wrap64 (10 * a2)) + (wrap64 (bt a0 a1)))) - 48)), (wrap64 (a1 + 1)), rfl, rfl, H, ⟨by have := aB.out; have := aA.out; omega⟩, dR⟩
   obtain rfl := oI H
   have p7 : 0 ≤ (a1 : Int) := oD (by assumption)
   have q7 : a1 < (a0.size : Int) := oD (by assumption)
   have aG := xG a0 a1
   replace p7 := eq_true p7
   replace q7 := eq_true q7
   go_wp2_with (first | ((with_reducible refine gW ?_); first | (refine gD (some 23) Try.func42 rfl (spec_l01In.calls _ _ _ _ _ A8.out) fun nd => ?_)))
   go_ret
   exact ⟨rfl, dR⟩
mutual
def uZ : Nat → ByteArray → Bool → Option (Int × Int)
 | 0, _, _ => none
 | k + 1, x0, a2 => if a2 = true then (some ((-1), (-1))) else (uY k x0 1)
def uY : Nat → ByteArray → Int → Option (Int × Int)
 | 0, _, _ => none
 | k + 1, x0, x6 => if x6 < (x0.size : Int) then (if 0 ≤ x6 then (if (bt x0 x6) = 58 then (if 1 ≤ x6 then (if x6 ≤ (x0.size : Int) then ((sX k (x0.extract 1 (x6 : Int).toNat)).bind fun a1 => (if 0 ≤ (wrap64 (x6 + 1)) then (if (wrap64 (x6 + 1)) ≤ (x0.size : Int) then ((sX k (x0.extract ((wrap64 (x6 + 1)) : Int).toNat x0.size)).bind fun a0 => (if a1 < 0 then (some ((-1), (-1))) else (if a0 < 0 then (some ((-1), (-1))) else (some (a1, a0))))) else (none)) else (none))) else (none)) else (none)) else (uY k x0 (wrap64 (x6 + 1)))) else (none)) else (some ((-1), (-1)))
end
def uR (k : Nat) (a0 : ByteArray) (a1 : Int) : Option (Int × Int) := if (a0.size : Int) = 0 then (uZ k a0 true) else (if 0 < (a0.size : Int) then (uZ k a0 ((bt a0 0) != a1)) else (none))
theorem b4t {P : Prop} (h : P := by
 simp only [Option.some.injEq, Prod.mk.injEq] at H
 obtain ⟨rfl, rfl⟩ := H
 have a5 : 0 ≤ (a2 : Int) := oD (by assumption)
 have a4 : a2 < (a0.size : Int) := oD (by assumption)
 have aI := xG a0 a2
 replace a5 := eq_true a5
 replace a4 := eq_true a4
 go_wp2_with (first | (go_at_call 126; refine cD (spec_l03Num.calls _ _ _ _ a7.out) fun nd => ?_; (try exact dq)) | (go_at_call 126; refine cD (spec_l03Num.calls _ _ _ _ a9.out) fun nd => ?_; (try exact dq)))
 repeat (go_quiet (first | (go_at_call 126; refine cD (spec_l03Num.calls _ _ _ _ a7.out) fun nd => ?_; (try exact dq)) | (go_at_call 126; refine cD (spec_l03Num.calls _ _ _ _ a9.out) fun nd => ?_; (try exact dq))); try go_wp2_with (first | (go_at_call 126; refine cD (spec_l03Num.calls _ _ _ _ a7.out) fun nd => ?_; (try exact dq)) | (go_at_call 126; refine cD (spec_l03Num.calls _ _ _ _ a9.out) fun nd => ?_; (try exact dq))))
 go_ret2
 exact ⟨rfl, dR⟩) : P := h
theorem c1o {P : Prop} (h : P := by
 simp only [Option.some.injEq, Prod.mk.injEq] at H
 obtain ⟨rfl, rfl⟩ := H
 go_wp2
 repeat (go_quiet (fail); try go_wp2)
 go_ret2
 exact ⟨rfl, dR⟩) : P := h
theorem spec_l03Two.calls (k : Nat) (a0 : ByteArray) (a1 r1 r2 : Int) (w : World) (h : uR k a0 a1 = some (r1, r2)) :
  Calls Try.prog 99 #[.string a0, .int .u8 a1] w fun e w' => e = .returned (.tuple #[.int .i64 r1, .int .i64 r2]) ∧ Drawn0 w w' := by
 have H := h
 clear h
 unfold uR at H
 have a8 := am H; clear H
 go_enter Try.func99, Try.ntmps99
 go_upto_region 1 with (fail)
 repeat (go_quiet (fail); go_upto_region 1 with (fail))
 go_cut [17] (fun aM wc => ∃ (kq : Nat) (a3 : Bool), aM = .bool a3 ∧ Aside0 (uZ kq a0 a3 = some (r1, r2)) ∧ Aside0 (kq ≤ k) ∧ Drawn0 w wc)
 case first =>
  have H := a8.out
  clear a8
  replace H := iE H; rcases H with ⟨aL, aK, H⟩ | ⟨aL, aK, H⟩
  ·replace H := am H
   go_wp2
   repeat (go_quiet (fail); try go_wp2)
   go_meet
   case rel => exact ⟨_, true, rfl, H, ⟨oM⟩, dR⟩
  replace H := iP H; obtain ⟨c5, H⟩ := H
  have b0 : decide (0 < (a0.size : Int)) = true := decide_eq_true c5
  have a_ : decide (0 < a0.size) = true := decide_eq_true oM
  clear c5
  replace H := am H
  have p6 : 0 ≤ (0 : Int) := oM
  have q6 : 0 < a0.size := (by have : (0 : Int) < (a0.size : Int) := oD (by assumption); omega)
  have b3 : ∀ h : 0 < a0.size, ((a0[0]'h).toNat : Int) = bt a0 0 := xG a0 0
  clear p6
  have b1 : (0 < (a0.size : Int)) = True := eq_true (oD (by assumption))
  replace q6 := eq_true q6
  go_wp2
  repeat (go_quiet (fail); try go_wp2)
  go_meet
  case rel => exact ⟨_, (((bt a0 0) != a1)), rfl, H, ⟨oM⟩, dR⟩
 clear a8
 obtain ⟨kq, a3, rfl, HA, aG, ⟨b2, rfl⟩⟩ := hcut
 cases kq with
 | zero => cases HA.out
 | succ aE =>
  obtain ⟨H⟩ := HA
  simp only [uZ] at H
  replace H := iB H; rcases H with ⟨rfl, H⟩ | ⟨rfl, H⟩
  ·exact c1o
  replace H := am H
  go_wp2
  repeat (go_quiet (fail); try go_wp2)
  go_loopg [6] aE (fun kq v6 w' => ∃ (a2 : Int), v6 = .int .i64 a2 ∧ Aside0 (uY kq a0 a2 = some (r1, r2)) ∧ Aside0 (kq ≤ aE) ∧ Drawn0 w w')
  case atStart => exact ⟨1, rfl, H, ⟨Nat.le_refl _⟩, dR⟩
  clear H
  obtain ⟨a2, rfl, HA, aF, ⟨m2, rfl⟩⟩ := hrel
  cases gk with
  | zero => cases HA.out
  | succ k2 =>
   obtain ⟨H⟩ := HA
   simp only [uY] at H
   replace H := iD H; rcases H with ⟨aJ, H⟩ | ⟨aJ, H⟩
   rotate_left
   ·exact c1o
   replace H := iN H; obtain ⟨aZ, H⟩ := H
   replace H := iE H; rcases H with ⟨aD, aC, H⟩ | ⟨aD, aC, H⟩
   ·replace H := iTD H; obtain ⟨aW, aV, H⟩ := H
    replace H := iTD H; obtain ⟨aU, aT, H⟩ := H
    replace H := oA H; obtain ⟨aY, a7, H⟩ := H
    generalize a6 : wrap64 (a2 + 1) = aH at H
    (try rw [a6] at a7)
    have aN : (IntKind.i64.wrap (a2 + 1)) = aH := (xW _).trans a6
    replace H := iTD H; obtain ⟨aS, aR, H⟩ := H
    replace H := iTD H; obtain ⟨aQ, aO, H⟩ := H
    replace H := oA H; obtain ⟨aX, a9, H⟩ := H
    replace H := iD H; rcases H with ⟨aB, H⟩ | ⟨aB, H⟩
    ·exact b4t
    replace H := iD H; rcases H with ⟨aA, H⟩ | ⟨aA, H⟩
    ·exact b4t
    exact b4t
   replace H := am H
   have a5 : 0 ≤ (a2 : Int) := oD (by assumption)
   have a4 : a2 < (a0.size : Int) := oD (by assumption)
   have aI := xG a0 a2
   replace a5 := eq_true a5
   replace a4 := eq_true a4
   go_wp2
   repeat (go_quiet (fail); try go_wp2)
   go_roundg k2
   case measure => have := aG.out; have := aF.out; omega
   case rel => exact ⟨(wrap64 (a2 + 1)), rfl, H, ⟨by have := aG.out; have := aF.out; omega⟩, dR⟩
variable {Ax : Option Addr} {cx : Nat}
def rC : Nat → Int → ByteArray → Int → List (S31) → Int → Int → Option (ByteArray × ByteArray × Int × Int × Int)
 | 0, _, _, _, _, _, _ => none
 | k + 1, x3, a1, a0, a4, a3, a2 => if a0 < (a1.size : Int) then (if 0 ≤ a0 then (if (bt a1 a0) = 32 then (if 0 ≤ x3 then (if x3 ≤ a0 then (if a0 ≤ (a1.size : Int) then (some (a1.extract (x3 : Int).toNat (a0 : Int).toNat, a1, a0, a3, a2)) else (none)) else (none)) else (none)) else (if (bt a1 a0) = 41 then (if 0 ≤ x3 then (if x3 ≤ a0 then (if a0 ≤ (a1.size : Int) then (some (a1.extract (x3 : Int).toNat (a0 : Int).toNat, a1, a0, a3, a2)) else (none)) else (none)) else (none)) else (rC k x3 a1 (wrap64 (a0 + 1)) a4 a3 a2))) else (none)) else (if 0 ≤ x3 then (if x3 ≤ a0 then (if a0 ≤ (a1.size : Int) then (some (a1.extract (x3 : Int).toNat (a0 : Int).toNat, a1, a0, a3, a2)) else (none)) else (none)) else (none))
def wT (k : Nat) (a4 : ByteArray) (a0 : Int) (a3 : List (S31)) (a2 : Int) (a1 : Int) : Option (ByteArray × ByteArray × Int × Int × Int) := rC k a0 a4 a0 a3 a2 a1
theorem b4o {P : Prop} (h : P := by
 go_wp2
 repeat (go_quiet (fail); try go_wp2)
 go_ret
 exact ⟨rfl, by repeat (first | (with_reducible first | exact HI0.out | apply IsS88.alloc | apply IsS88.drewN | apply IsS88.drew | apply zD | apply xI | apply zC | apply zB) | exact HI0.out), b0x, kB⟩) : P := h
theorem spec_l03Word.calls (k g : Nat) (a1 : ByteArray) (a5 : Int) (a2 : List (S31)) (a4 a3 : Int) (r1 r2 : ByteArray) (r3 r4 r5 : Int) (w0 w : World) (hI : IsS88 Ax cx w0 w g a1 a5 a2 a4 a3) (hB : Below w0.heap.size w0 w) (h : wT k a1 a5 a2 a4 a3 = some (r1, r2, r3, r4, r5)) :
  Calls Try.prog 98 #[.pointer (some ⟨g, 0, none⟩)] w fun e w' => e = .returned (.string r1) ∧ IsS88 Ax cx w0 w' g r2 r3 a2 r4 r5 ∧ Below w0.heap.size w0 w' ∧ KeepBut w w' g none := by
 have HI0 := am hI
 have HK := am (KeepBut.refl w g none)
 have HL := am hB.size
 clear hI
 have HW0 := am hB.size
 have HB := am hB
 clear hB
 have H := h
 clear h
 unfold wT at H
 replace H := am H
 obtain ⟨ASz2_2, cSz2_2, HGz2, hgz2, HSz2_2⟩ := HI0.out
 have aG := xC HGz2
 have aF := xB HGz2
 have aE := xA HGz2
 have aD := wZ HGz2
 have aC := wY HGz2
 have aB := kE HGz2 0
 have aA := kE HGz2 1
 have a9 := kE HGz2 3
 have a8 := kE HGz2 4
 clear HGz2 hgz2
 go_enter Try.func98, Try.ntmps98
 go_wp2
 repeat (go_quiet (fail); try go_wp2)
 go_loopg [] k (fun kq w' => ∃ (a0 : Int), Aside0 (rC kq a5 a1 a0 a2 a4 a3 = some (r1, r2, r3, r4, r5)) ∧ Aside0 (kq ≤ k) ∧ Aside0 (IsS88 Ax cx w0 w' g a1 a0 a2 a4 a3) ∧ Aside0 (KeepBut w w' g none) ∧ Aside0 (Below w0.heap.size w0 w'))
 case atStart => exact ⟨a5, H, ⟨Nat.le_refl _⟩, ⟨by repeat (first | (with_reducible first | exact HI0.out | apply IsS88.alloc | apply IsS88.drewN | apply IsS88.drew | apply zD | apply xI | apply zC | apply zB) | exact HI0.out)⟩, ⟨kB⟩, ⟨b0x⟩⟩
 clear H
 clear aG aF aE aD aC aB aA a9 a8
 obtain ⟨a0, HA, aK, HI0, HK, HB⟩ := hrel
 cases gk with
 | zero => cases HA.out
 | succ k1 =>
  obtain ⟨H⟩ := HA
  simp only [rC] at H
  replace H := iD H; rcases H with ⟨aO, H⟩ | ⟨aO, H⟩
  rotate_left
  ·replace H := iTD H; obtain ⟨bU, bT, H⟩ := H
   replace H := iTD H; obtain ⟨bS, bR, H⟩ := H
   replace H := iTD H; obtain ⟨bQ, bP, H⟩ := H
   simp only [Option.some.injEq, Prod.mk.injEq] at H
   obtain ⟨rfl, rfl, rfl, rfl, rfl⟩ := H
   obtain ⟨ASz21_2, cSz21_2, HGz21, hgz21, HSz21_2⟩ := HI0.out
   have b9 := xC HGz21
   have b8 := xB HGz21
   have b7 := xA HGz21
   have b6 := wZ HGz21
   have b5 := wY HGz21
   have aT := kE HGz21 0
   have aS := kE HGz21 1
   have aR := kE HGz21 3
   have aQ := kE HGz21 4
   clear HGz21 hgz21
   exact b4o
  replace H := iN H; obtain ⟨cJ, H⟩ := H
  replace H := iE H; rcases H with ⟨aN, aM, H⟩ | ⟨aN, aM, H⟩
  ·replace H := iTD H; obtain ⟨cI, cH, H⟩ := H
   replace H := iTD H; obtain ⟨cG, cF, H⟩ := H
   replace H := iTD H; obtain ⟨cE, cC, H⟩ := H
   simp only [Option.some.injEq, Prod.mk.injEq] at H
   obtain ⟨rfl, rfl, rfl, rfl, rfl⟩ := H
   obtain ⟨ASz10_2, cSz10_2, HGz10, hgz10, HSz10_2⟩ := HI0.out
   have bO := xC HGz10
   have bN := xB HGz10
   have bM := xA HGz10
   have bL := wZ HGz10
   have bK := wY HGz10
   have b4 := kE HGz10 0
   have b3 := kE HGz10 1
   have b2 := kE HGz10 3
   have b1 := kE HGz10 4
   clear HGz10 hgz10
   have p5 : 0 ≤ (a0 : Int) := oD (by assumption)
   have q5 : a0 < (a1.size : Int) := oD (by assumption)
   have aJ := xG a1 a0
   replace p5 := eq_true p5
   replace q5 := eq_true q5
   exact b4o
  replace H := iE H; rcases H with ⟨aI, aH, H⟩ | ⟨aI, aH, H⟩
  ·replace H := iTD H; obtain ⟨cB, c1, H⟩ := H
   replace H := iTD H; obtain ⟨c0, b_, H⟩ := H
   replace H := iTD H; obtain ⟨bZ, bV, H⟩ := H
   simp only [Option.some.injEq, Prod.mk.injEq] at H
   obtain ⟨rfl, rfl, rfl, rfl, rfl⟩ := H
   obtain ⟨ASz16_2, cSz16_2, HGz16, hgz16, HSz16_2⟩ := HI0.out
   have bJ := xC HGz16
   have bI := xB HGz16
   have bH := xA HGz16
   have bG := wZ HGz16
   have bF := wY HGz16
   have b0 := kE HGz16 0
   have a_ := kE HGz16 1
   have aZ := kE HGz16 3
   have aY := kE HGz16 4
   clear HGz16 hgz16
   have p5 : 0 ≤ (a0 : Int) := oD (by assumption)
   have q5 : a0 < (a1.size : Int) := oD (by assumption)
   have aJ := xG a1 a0
   replace p5 := eq_true p5
   replace q5 := eq_true q5
   have a7 : 0 ≤ (a0 : Int) := oD (by assumption)
   have a6 : a0 < (a1.size : Int) := oD (by assumption)
   have aL := xG a1 a0
   replace a7 := eq_true a7
   replace a6 := eq_true a6
   exact b4o
  replace H := am H
  obtain ⟨ASz17_2, cSz17_2, HGz17, hgz17, HSz17_2⟩ := HI0.out
  have bE := xC HGz17
  have bD := xB HGz17
  have bC := xA HGz17
  have bB := wZ HGz17
  have bA := wY HGz17
  have aX := kE HGz17 0
  have aW := kE HGz17 1
  have aV := kE HGz17 3
  have aU := kE HGz17 4
  clear HGz17 hgz17
  have p5 : 0 ≤ (a0 : Int) := oD (by assumption)
  have q5 : a0 < (a1.size : Int) := oD (by assumption)
  have aJ := xG a1 a0
  replace p5 := eq_true p5
  replace q5 := eq_true q5
  have a7 : 0 ≤ (a0 : Int) := oD (by assumption)
  have a6 : a0 < (a1.size : Int) := oD (by assumption)
  have aL := xG a1 a0
  replace a7 := eq_true a7
  replace a6 := eq_true a6
  go_wp2
  repeat (go_quiet (fail); try go_wp2)
  go_roundg k1
  case measure => have := aK.out; omega
  case rel => exact ⟨(wrap64 (a0 + 1)), H, ⟨by have := aK.out; omega⟩, ⟨by repeat (first | (with_reducible first | exact HI0.out | apply IsS88.alloc | apply IsS88.drewN | apply IsS88.drew | apply zD | apply xI | apply zC | apply zB) | exact HI0.out)⟩, ⟨kB⟩, ⟨b0x⟩⟩
variable {Ax : Option Addr} {cx : Nat}
theorem b1y {s : ByteArray} {l : List (S31)} {c b : Int} {r1 r2 : ByteArray} {r3 r4 r5 : Int} {x : Int} (k : Nat) : ∀ a : Int, rC k x s a l c b = some (r1, r2, r3, r4, r5) → r2 = s ∧ r4 = c ∧ r5 = b := by
 induction k with
 | zero => intro a h; simp [rC] at h
 | succ k ih =>
  intro a h
  simp only [rC] at h
  repeat' split at h
  all_goals first
   | (simp only [Option.some.injEq, Prod.mk.injEq] at h; exact ⟨h.2.1.symm, h.2.2.2.1.symm, h.2.2.2.2.symm⟩)
   | exact ih _ h
   | cases h
theorem b0u {s : ByteArray} {a : Int} {l : List (S31)} {c b : Int} {r1 : Bool} {r2 : ByteArray} {r3 r4 r5 : Int} (h : vG s a l c b = some (r1, r2, r3, r4, r5)) : r2 = s ∧ r4 = c ∧ r5 = b := by
 unfold vG at h
 repeat' split at h
 all_goals first
  | (simp only [Option.some.injEq, Prod.mk.injEq] at h; exact ⟨h.2.1.symm, h.2.2.2.1.symm, h.2.2.2.2.symm⟩)
  | cases h
def cbF (s : ByteArray) (a : Int) (l : List (S31)) : Option (Bool × Int) := (vG s a l 0 0).map fun r => (r.1, r.2.2.1)
def cwF (k : Nat) (s : ByteArray) (a : Int) (l : List (S31)) : Option (ByteArray × Int) := (wT k s a l 0 0).map fun r => (r.1, r.2.2.1)
theorem IsCu.below {w0 w w' : World} {g : Nat} {s : ByteArray} {a : Int} {l : List (S31)} {code bad : Int} {A : Option Addr} {c : Nat} (h : IsCu w0 w g s a l code bad A c) (hb : Below w.heap.size w w') : IsCu w0 w' g s a l code bad A c :=
 ⟨IsS88.below h.1 hb, Kd.R_below h.2.1 hb, h.2.2.trans (hb.mono h.2.2.size)⟩
theorem IsCu.far {w0 w : World} {g : Nat} {s : ByteArray} {a : Int} {l : List (S31)} {code bad : Int} {A : Option Addr} {c : Nat} (h : IsCu w0 w g s a l code bad A c) {x j : Nat} (hg : g ≠ x) (ho : ∀ k, (Value.slice A l.length c).ownBlock = some k → k ≠ x) (h0 : w0.heap.size ≤ x) (u : Value) : IsCu w0 (w.setCell ⟨x, j, none⟩ u) g s a l code bad A c := by
 refine ⟨?_, Kd.R_mono (Kd.R_far (p := ⟨x, j, none⟩) (Kd.R_mono (Kd.R_tight rfl h.2.1) (ok' := fun k => k ≠ g ∧ k ≠ x) (fun k e => ⟨h.2.1.1 k e.symm, ho k e.symm⟩)) (fun k h => h.2) u) (fun k h => h.1), kZ h.2.2 h0⟩
 obtain ⟨A2, c2, hb, hg2, hr2⟩ := h.1
 exact ⟨A2, c2, xH (p := ⟨x, j, none⟩) hb hg u, hg2, hr2⟩
theorem IsCu.grown {w0 w w' : World} {g : Nat} {s : ByteArray} {a : Int} {l : List (S31)} {code bad : Int} {A : Option Addr} {c : Nat} {row : Option Nat} (h : IsCu w0 w g s a l code bad A c) (hg : w.grownBy w' row) (hne : some g ≠ row) (ho : ∀ k, (Value.slice A l.length c).ownBlock = some k → some k ≠ row) (hb : Below w0.heap.size w0 w') : IsCu w0 w' g s a l code bad A c := by
 refine ⟨IsS88.grown h.1 hg hne, Kd.R_mono (Kd.R_step (Kd.R_mono (Kd.R_tight rfl h.2.1) (ok' := fun k => k ≠ g ∧ some k ≠ row) (fun k e => ⟨h.2.1.1 k e.symm, ho k e.symm⟩)) (fun k hk hl => hg.block k hl hk.2)) (fun k h => h.1), hb⟩
theorem IsCu.keep {w0 w w' : World} {g : Nat} {s : ByteArray} {a a' : Int} {l : List (S31)} {code bad code' bad' : Int} {A : Option Addr} {c : Nat} (h : IsCu w0 w g s a l code bad A c) (hi : IsS88 A c w0 w' g s a' l code' bad') (hb : Below w0.heap.size w0 w') (hk : KeepBut w w' g none) : IsCu w0 w' g s a' l code' bad' A c := ⟨hi, Kd.R_keep h.2.1 hk (fun _ h => h), hb⟩
theorem a8s (g : Nat) (s : ByteArray) (a : Int) (l : List (S31)) (r : Bool) (a' : Int) (A : Option Addr) (c : Nat) (w0 w : World) (hI : IsCu w0 w g s a l 0 0 A c) (h : cbF s a l = some (r, a')) :
  Calls Try.prog 125 #[.pointer (some ⟨g, 0, none⟩)] w fun e w' => e = .returned (.bool r) ∧ IsCu w0 w' g s a' l 0 0 A c ∧ KeepBut w w' g none := by
 obtain ⟨⟨r1, r2, r3, r4, r5⟩, h1, h2⟩ := Option.map_eq_some_iff.mp h
 simp only [Prod.mk.injEq] at h2
 obtain ⟨rfl, rfl⟩ := h2
 obtain ⟨e1, e2, e3⟩ := b0u h1
 subst e1 e2 e3
 exact (spec_l03Blank.calls g _ a l 0 0 r1 _ r3 0 0 w0 w hI.1 hI.2.2 h1).mono (fun e w' ⟨h1, h2, h3, h4⟩ => ⟨h1, hI.keep h2 h3 h4, h4⟩)
theorem b0o (k g : Nat) (s : ByteArray) (a : Int) (l : List (S31)) (r : ByteArray) (a' : Int) (A : Option Addr) (c : Nat) (w0 w : World) (hI : IsCu w0 w g s a l 0 0 A c) (h : cwF k s a l = some (r, a')) :
  Calls Try.prog 98 #[.pointer (some ⟨g, 0, none⟩)] w fun e w' => e = .returned (.string r) ∧ IsCu w0 w' g s a' l 0 0 A c ∧ KeepBut w w' g none := by
 obtain ⟨⟨r1, r2, r3, r4, r5⟩, h1, h2⟩ := Option.map_eq_some_iff.mp h
 simp only [Prod.mk.injEq] at h2
 obtain ⟨rfl, rfl⟩ := h2
 have a0 := h1
 unfold wT at a0
 obtain ⟨e1, e2, e3⟩ := b1y k _ a0
 subst e1 e2 e3
 exact (spec_l03Word.calls k g _ a l 0 0 r1 _ r3 0 0 w0 w hI.1 hI.2.2 h1).mono (fun e w' ⟨h1, h2, h3, h4⟩ => ⟨h1, hI.keep h2 h3 h4, h4⟩)
theorem a1o (g : Nat) (s : ByteArray) (a : Int) (l : List (S31)) (x y : Int) (A : Option Addr) (c : Nat) (w0 w : World) (hI : IsCu w0 w g s a l 0 0 A c) :
  Calls Try.prog 63 #[.pointer (some ⟨g, 0, none⟩), .int .i64 x, .int .i64 y] w fun e w' => e = .returned (.int .i64 0) ∧ IsCu w0 w' g s a l x y A c ∧ KeepBut w w' g none :=
 (spec_l03Fail.calls g s a l 0 0 x y 0 s a x y w0 w hI.1 hI.2.2 rfl).mono (fun e w' ⟨h1, h2, h3, h4⟩ => ⟨h1, hI.keep h2 h3 h4, h4⟩)
abbrev CdV := Int → List (S31) → Option (Int × Int × List (S31) × Int × Int)
def a4g (s : ByteArray) (V : CdV) : Prop :=
 ∀ (g : Nat) (a : Int) (l : List (S31)) (p a' : Int) (l' : List (S31)) (code' bad' : Int) (A : Option Addr) (c : Nat) (w0 w : World), IsCu w0 w g s a l 0 0 A c → l.length ≤ 80 → V a l = some (p, a', l', code', bad') →
  Calls Try.prog 62 #[.pointer (some ⟨g, 0, none⟩)] w fun e w' => e = .returned (.int .i64 p) ∧ c6x w0 w w' g s a' l' code' bad' A c l.length
end Go.Proofs.Ytkpipmojkhikaaa.PAll
