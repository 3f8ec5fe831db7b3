/- Written by a program of this session over the loaded program, and by hand: Go functions as plain Lean functions, and that a call comes to what they say. -/
import Derived.Test.YtkpipmojkhikaaaVText0
import Derived.Test.YtkpipmojkhikaaaVText13
import Derived.Test.YtkpipmojkhikaaaBase
import Derived.Test.YtkpipmojkhikaaaSq
namespace Go.Proofs.Ytkpipmojkhikaaa.PAll
open Go.RowKit Go.Proofs.YtkpipmojkhikaaaW.PrintWords Go.Proofs.YtkpipmojkhikaaaW.PrintLast Go.Proofs.YtkpipmojkhikaaaW.PrintMore Go.Proofs.YtkpipmojkhikaaaW.Sq
attribute [local go_sem] sD rZ uM uL qV qU sA rY
set_option linter.unusedVariables false
set_option maxHeartbeats 8000000
set_option maxRecDepth 100000
set_option linter.unusedSimpArgs false
@[reducible] def a9r : Array Bool := #[false, false, false, false, false, false, false, false, false, false]
@[reducible] def a9q : Array Bool := #[true, false, false, false, false, false, false, false, false, false]
@[reducible] def a9p : Array Bool := #[true, false, false, false, false, true, false, false, false, false]
@[reducible] def a9o : Array Bool := #[true, true, false, false, false, true, false, false, false, false]
@[reducible] def a9n : Array Bool := #[true, true, false, false, false, true, true, false, false, false]
@[reducible] def a9m : Array Bool := #[true, true, true, false, false, true, true, false, false, false]
@[reducible] def a9l : Array Bool := #[true, true, true, true, false, true, true, false, false, false]
@[reducible] def a9k : Array Bool := #[true, true, true, true, true, true, true, false, false, false]
@[reducible] def a9j : Array Bool := #[true, true, true, true, true, true, true, true, false, false]
@[reducible] def a9i : Array Bool := #[true, true, true, true, true, true, true, true, true, false]
@[reducible] def c3t : Array Bool := #[true, true, true, true, true, true, true, true, true, true]
def yX (k : Nat) (a0 : Int) (a7 : Int) (a1 : Int) (aG : Int) (aE : Int) (aF : Int) : Option (ByteArray) := if a0 = 0 then ((qE k a7).bind fun a6 => (if 1 + a6.size ≤ 9223372036854775807 then (if ((⟨#[35]⟩ : ByteArray) ++ a6).size + 1 ≤ 9223372036854775807 then ((qE k a1).bind fun aD => (if (((⟨#[35]⟩ : ByteArray) ++ a6) ++ (⟨#[58]⟩ : ByteArray)).size + aD.size ≤ 9223372036854775807 then (some ((((⟨#[35]⟩ : ByteArray) ++ a6) ++ (⟨#[58]⟩ : ByteArray)) ++ aD)) else (none))) else (none)) else (none))) else (if a0 = 1 then ((qE k a1).bind fun a5 => (if 1 + a5.size ≤ 9223372036854775807 then (if ((⟨#[118]⟩ : ByteArray) ++ a5).size + 1 ≤ 9223372036854775807 then ((qE k a7).bind fun aC => (if (((⟨#[118]⟩ : ByteArray) ++ a5) ++ (⟨#[58]⟩ : ByteArray)).size + aC.size ≤ 9223372036854775807 then (some ((((⟨#[118]⟩ : ByteArray) ++ a5) ++ (⟨#[58]⟩ : ByteArray)) ++ aC)) else (none))) else (none)) else (none))) else (if a0 = 2 then (some (⟨#[40, 110, 111, 116]⟩ : ByteArray)) else (if a0 = 17 then ((qE k a1).bind fun a4 => (if 7 + a4.size ≤ 9223372036854775807 then (if ((⟨#[40, 115, 108, 105, 99, 101, 32]⟩ : ByteArray) ++ a4).size + 1 ≤ 9223372036854775807 then ((qE k a7).bind fun aB => (if (((⟨#[40, 115, 108, 105, 99, 101, 32]⟩ : ByteArray) ++ a4) ++ (⟨#[32]⟩ : ByteArray)).size + aB.size ≤ 9223372036854775807 then (some ((((⟨#[40, 115, 108, 105, 99, 101, 32]⟩ : ByteArray) ++ a4) ++ (⟨#[32]⟩ : ByteArray)) ++ aB)) else (none))) else (none)) else (none))) else (if a0 = 18 then (some (⟨#[40, 105, 102]⟩ : ByteArray)) else (if a0 = 19 then ((qE k a1).bind fun a3 => (if 6 + a3.size ≤ 9223372036854775807 then (if ((⟨#[40, 97, 108, 108, 32, 118]⟩ : ByteArray) ++ a3).size + 1 ≤ 9223372036854775807 then ((qE k aE).bind fun aA => (if (((⟨#[40, 97, 108, 108, 32, 118]⟩ : ByteArray) ++ a3) ++ (⟨#[58]⟩ : ByteArray)).size + aA.size ≤ 9223372036854775807 then (some ((((⟨#[40, 97, 108, 108, 32, 118]⟩ : ByteArray) ++ a3) ++ (⟨#[58]⟩ : ByteArray)) ++ aA)) else (none))) else (none)) else (none))) else (if a0 = 20 then ((qE k a1).bind fun a2 => (if 7 + a2.size ≤ 9223372036854775807 then (if ((⟨#[40, 115, 111, 109, 101, 32, 118]⟩ : ByteArray) ++ a2).size + 1 ≤ 9223372036854775807 then ((qE k aE).bind fun a9 => (if (((⟨#[40, 115, 111, 109, 101, 32, 118]⟩ : ByteArray) ++ a2) ++ (⟨#[58]⟩ : ByteArray)).size + a9.size ≤ 9223372036854775807 then (some ((((⟨#[40, 115, 111, 109, 101, 32, 118]⟩ : ByteArray) ++ a2) ++ (⟨#[58]⟩ : ByteArray)) ++ a9)) else (none))) else (none)) else (none))) else ((vP a0).bind fun a8 => (if 1 + a8.size ≤ 9223372036854775807 then (some ((⟨#[40]⟩ : ByteArray) ++ a8)) else (none)))))))))
def a3q : Bool × List (List Nat × List Nat) := (true, [([], []), ([0], [0]), ([1], [1]), ([2], [2]), ([3], [3]), ([], []), ([5], [5]), ([6, 2], [6]), ([4, 7], [4, 7]), ([8, 7, 0, 1, 2, 3, 4, 5, 6, 7, 8], [8])])
def b0i : List Nat := [0, 1, 3, 7, 15, 0, 32, 103, 255, 511]
theorem a6w : a0r .any (a1u Try.f57 3) = a3q := by kernel_rfl
theorem a6a : vL a3q.2 b0i = true := by kernel_rfl
def a3p : Bool × List (List Nat × List Nat) := (true, [([], []), ([0], [0]), ([1], [1]), ([2], [2]), ([3], [3]), ([], []), ([5], [5]), ([6, 2], [6]), ([4, 7], [4, 7]), ([8, 7, 0, 1, 2, 3, 4, 5, 6, 7, 8], [8])])
def b0h : List Nat := [0, 1, 3, 7, 15, 0, 32, 103, 255, 511]
theorem a6v : a0r .any (a1u Try.f57 5) = a3p := by kernel_rfl
theorem a5z : vL a3p.2 b0h = true := by kernel_rfl
def a3o : Bool × List (List Nat × List Nat) := (true, [([], []), ([0], [0]), ([1], [1]), ([2], [2]), ([3], [3]), ([], []), ([5], [5]), ([6, 2], [6]), ([4, 7], [4, 7]), ([8, 7, 0, 1, 2, 3, 4, 5, 6, 7, 8], [8])])
def b0g : List Nat := [0, 1, 3, 7, 15, 0, 32, 103, 255, 511]
theorem a6u : a0r .any (a1u Try.f57 9) = a3o := by kernel_rfl
theorem a5y : vL a3o.2 b0g = true := by kernel_rfl
def a2u : Bool × List (List Nat × List Nat) := (true, [([], []), ([0], [0]), ([1], [1]), ([2], [2]), ([3], [3]), ([], []), ([5], [5]), ([6, 2], [6]), ([4, 7], [4, 7]), ([8, 7, 0, 1, 2, 3, 4, 5, 6, 7, 8], [8])])
def a8m : List Nat := [0, 1, 3, 7, 15, 0, 32, 103, 255, 511]
theorem a5x : a0r .any (a1u Try.f57 13) = a2u := by kernel_rfl
theorem a4b : vL a2u.2 a8m = true := by kernel_rfl
def a2t : Bool × List (List Nat × List Nat) := (true, [([], []), ([0], [0]), ([1], [1]), ([2], [2]), ([3], [3]), ([], []), ([5], [5]), ([6, 2], [6]), ([4, 7], [4, 7]), ([8, 7, 0, 1, 2, 3, 4, 5, 6, 7, 8], [8])])
def a8l : List Nat := [0, 1, 3, 7, 15, 0, 32, 103, 255, 511]
theorem a5w : a0r .any (a1u Try.f57 15) = a2t := by kernel_rfl
theorem a4a : vL a2t.2 a8l = true := by kernel_rfl
theorem xK {P : Prop} (h : P := by
 simp only [Act.put, List.setIfInBounds_toArray, List.set_cons_zero, List.set_cons_succ, xW, a1l]
 rfl) : P := h
theorem a9f {P : Prop} (h : P := by
 refine pT (i := 9) (N := some 2) c3t ?_
 refine yK (yP HT_.out (by kernel_rfl)) ?_
 try go_wp2
 go_ret
 exact ⟨rfl, bW⟩) : P := h
theorem c1q {P : Prop} (h : P := by
 obtain rfl := oI H
 go_enter Try.func57, Try.ntmps57
 go_wp2_with (first | ((with_reducible refine gW ?_); first | (refine bX 1 31 #[.int .i64 a7, .int .i64 a3, .int .i64 a2, .int .i64 a6, .int .i64 a4, .int .i64 a5] ?_; intro a1 hg dN hbox hb; have a0 := am hbox; have aD := gw hg; have aE := gw hg; replace HB := hB HB hb; clear hb hbox hg; have dM := cf6 a0.out)))
 go_ret
 exact ⟨rfl, bW⟩) : P := h
theorem impl_head.calls {k : Nat} {a7 a3 a2 a6 a4 a5 : Int} {r : ByteArray} {w : World} (h : yX k a7 a3 a2 a6 a4 a5 = some r) :
  Calls Try.prog 57 #[.agg #[.int .i64 a7, .int .i64 a3, .int .i64 a2, .int .i64 a6, .int .i64 a4, .int .i64 a5]] w fun e w' => e = .returned (.string r) ∧ Below w.heap.size w w' := by
 have hu31 := Try.underlying31
 have HB := am (Below.refl w.heap.size w)
 have H := h
 clear h
 unfold yX at H
 replace H := iE H; rcases H with ⟨bB, bA, H⟩ | ⟨bB, bA, H⟩
 ·replace H := oA H; obtain ⟨aC, A3, H⟩ := H
  replace H := iP H; obtain ⟨c4, H⟩ := H
  have dF := eq_true c4
  have dE : decide (1 + aC.size ≤ 9223372036854775807) = true := decide_eq_true c4
  try have dD : (9223372036854775807 < 1 + aC.size) = False := eq_false (Nat.not_lt.2 c4)
  replace H := iP H; obtain ⟨c5, H⟩ := H
  have dA := eq_true c5
  have d9 : decide (((⟨#[35]⟩ : ByteArray) ++ aC).size + 1 ≤ 9223372036854775807) = true := decide_eq_true c5
  try have d8 : (9223372036854775807 < ((⟨#[35]⟩ : ByteArray) ++ aC).size + 1) = False := eq_false (Nat.not_lt.2 c5)
  have dP : (9223372036854775807 < 1 + aC.size + 1) = False := eq_false (Nat.not_lt.2 (by have h_ := c5; (repeat rw [ByteArray.size_append] at h_); exact h_))
  replace H := oA H; obtain ⟨aJ, A6, H⟩ := H
  replace H := iP H; obtain ⟨c7, H⟩ := H
  have d7 := eq_true c7
  have d6 : decide ((((⟨#[35]⟩ : ByteArray) ++ aC) ++ (⟨#[58]⟩ : ByteArray)).size + aJ.size ≤ 9223372036854775807) = true := decide_eq_true c7
  try have d5 : (9223372036854775807 < (((⟨#[35]⟩ : ByteArray) ++ aC) ++ (⟨#[58]⟩ : ByteArray)).size + aJ.size) = False := eq_false (Nat.not_lt.2 c7)
  have dO : (9223372036854775807 < 1 + aC.size + 1 + aJ.size) = False := eq_false (Nat.not_lt.2 (by have h_ := c7; (repeat rw [ByteArray.size_append] at h_); exact h_))
  obtain rfl := oI H
  go_enter Try.func57, Try.ntmps57
  try go_wp2_with (first | ((with_reducible refine gW ?_); first | (refine bX 1 31 #[.int .i64 a7, .int .i64 a3, .int .i64 a2, .int .i64 a6, .int .i64 a4, .int .i64 a5] ?_; intro a1 hg w8 hbox hb; have a0 := am hbox; have aD := gw hg; have aE := gw hg; replace HB := hB HB hb; clear hb hbox hg; have bH := cf6 a0.out)))
  replace a0 := am (pO a0.out)
  replace HB := am (kO HB.out)
  refine tM (n := 10) (S := fun w' => w'.cell? ⟨a1, 0, none⟩ = some (.int .i64 a7) ∧ w'.cell? ⟨a1, 1, none⟩ = some (.int .i64 a3) ∧ w'.cell? ⟨a1, 2, none⟩ = some (.int .i64 a2) ∧ w'.cell? ⟨a1, 3, none⟩ = some (.int .i64 a6) ∧ w'.cell? ⟨a1, 4, none⟩ = some (.int .i64 a4) ∧ w'.cell? ⟨a1, 5, none⟩ = some (.int .i64 a5)) (ds := []) a9r (by kernel_rfl) rfl rfl (cz6 a0.out) (fun hHeld => ?_); refine rV a6w a6a (fun HT_ HW_ => ?_)
  generalize w8.drew = w10 at a0 HB hHeld ⊢
  refine pT (i := 0) (N := some 7) a9q ?_
  refine pT (i := 5) (N := some 12) a9p ?_
  refine qF (i := 1) (N := some 8) (v := ?_) (a' := ?_) a9o rfl rfl (pE HT_.out HW_.out (by kernel_rfl)) (fun _ _ _ h => h) (Or.inl ⟨by rfl, ?_⟩) hHeld ?_ ?_
  rotate_left
  ·rintro w' ⟨s0, s1, s2, s3, s4, s5⟩
   go_simp
   with_reducible rfl
  rotate_left
  ·exact xK
  refine qF (i := 6) (N := some 13) (v := ?_) (a' := ?_) a9n rfl rfl (pE HT_.out HW_.out (by kernel_rfl)) (fun _ _ _ h => h) (Or.inl ⟨by rfl, ?_⟩) hHeld ?_ ?_
  rotate_left
  ·rintro w' ⟨s0, s1, s2, s3, s4, s5⟩
   go_simp
   with_reducible rfl
  rotate_left
  ·exact xK
  refine yN (i := 2) (N := some 9) a9m rfl rfl (uW HT_.out (by kernel_rfl)) (by decide) (fun K hK => ?_)
  refine yB Try.func86 (by kernel_rfl) rfl #[.int .i64 a3] (by rfl) rfl rfl tm ?_
  with_reducible refine (impl_decimal.calls A3.out).mono ?_
  rintro e w11 ⟨rfl, hb⟩
  refine ⟨_, rfl, ?_⟩
  replace a0 := gB a0 hb
  replace HB := hX hb
  clear hb
  refine hK.out _ _ (cz6 a0.out) (fun hHeld => ?_)
  clear hK K
  refine rO (a' := ?_) ?_ ?_
  rotate_left
  ·show Act.put _ (some 9) _ = _
   exact xK
  refine pT (i := 3) (N := some 10) a9l ?_
  refine pT (i := 4) (N := some 11) a9k ?_
  refine yN (i := 7) (N := some 14) a9j rfl rfl (uW HT_.out (by kernel_rfl)) (by decide) (fun K hK => ?_)
  refine yB Try.func86 (by kernel_rfl) rfl #[.int .i64 a2] (by rfl) rfl rfl tm ?_
  with_reducible refine (impl_decimal.calls A6.out).mono ?_
  rintro e w12 ⟨rfl, hb⟩
  refine ⟨_, rfl, ?_⟩
  replace a0 := gB a0 hb
  replace HB := hX hb
  clear hb
  refine hK.out _ _ (cz6 a0.out) (fun hHeld => ?_)
  clear hK K
  refine rO (a' := ?_) ?_ ?_
  rotate_left
  ·show Act.put _ (some 14) _ = _
   exact xK
  refine pT (i := 8) (N := some 15) a9i ?_
  exact a9f
 replace H := iE H; rcases H with ⟨b9, b8, H⟩ | ⟨b9, b8, H⟩
 ·replace H := oA H; obtain ⟨aB, bQ, H⟩ := H
  replace H := iP H; obtain ⟨aY, H⟩ := H
  have d4 := eq_true aY
  have d3 : decide (1 + aB.size ≤ 9223372036854775807) = true := decide_eq_true aY
  try have d2 : (9223372036854775807 < 1 + aB.size) = False := eq_false (Nat.not_lt.2 aY)
  replace H := iP H; obtain ⟨aS, H⟩ := H
  have d1 := eq_true aS
  have d0 : decide (((⟨#[118]⟩ : ByteArray) ++ aB).size + 1 ≤ 9223372036854775807) = true := decide_eq_true aS
  try have c_ : (9223372036854775807 < ((⟨#[118]⟩ : ByteArray) ++ aB).size + 1) = False := eq_false (Nat.not_lt.2 aS)
  have dL : (9223372036854775807 < 1 + aB.size + 1) = False := eq_false (Nat.not_lt.2 (by have h_ := aS; (repeat rw [ByteArray.size_append] at h_); exact h_))
  replace H := oA H; obtain ⟨aI, bP, H⟩ := H
  replace H := iP H; obtain ⟨aR, H⟩ := H
  have cZ := eq_true aR
  have cY : decide ((((⟨#[118]⟩ : ByteArray) ++ aB) ++ (⟨#[58]⟩ : ByteArray)).size + aI.size ≤ 9223372036854775807) = true := decide_eq_true aR
  try have cX : (9223372036854775807 < (((⟨#[118]⟩ : ByteArray) ++ aB) ++ (⟨#[58]⟩ : ByteArray)).size + aI.size) = False := eq_false (Nat.not_lt.2 aR)
  have dK : (9223372036854775807 < 1 + aB.size + 1 + aI.size) = False := eq_false (Nat.not_lt.2 (by have h_ := aR; (repeat rw [ByteArray.size_append] at h_); exact h_))
  obtain rfl := oI H
  go_enter Try.func57, Try.ntmps57
  try go_wp2_with (first | ((with_reducible refine gW ?_); first | (refine bX 1 31 #[.int .i64 a7, .int .i64 a3, .int .i64 a2, .int .i64 a6, .int .i64 a4, .int .i64 a5] ?_; intro a1 hg w19 hbox hb; have a0 := am hbox; have aD := gw hg; have aE := gw hg; replace HB := hB HB hb; clear hb hbox hg; have bG := cf6 a0.out)))
  replace a0 := am (pO a0.out)
  replace HB := am (kO HB.out)
  refine tM (n := 10) (S := fun w' => w'.cell? ⟨a1, 0, none⟩ = some (.int .i64 a7) ∧ w'.cell? ⟨a1, 1, none⟩ = some (.int .i64 a3) ∧ w'.cell? ⟨a1, 2, none⟩ = some (.int .i64 a2) ∧ w'.cell? ⟨a1, 3, none⟩ = some (.int .i64 a6) ∧ w'.cell? ⟨a1, 4, none⟩ = some (.int .i64 a4) ∧ w'.cell? ⟨a1, 5, none⟩ = some (.int .i64 a5)) (ds := []) a9r (by kernel_rfl) rfl rfl (cz6 a0.out) (fun hHeld => ?_); refine rV a6v a5z (fun HT_ HW_ => ?_)
  generalize w19.drew = w21 at a0 HB hHeld ⊢
  refine pT (i := 0) (N := some 18) a9q ?_
  refine pT (i := 5) (N := some 23) a9p ?_
  refine qF (i := 1) (N := some 19) (v := ?_) (a' := ?_) a9o rfl rfl (pE HT_.out HW_.out (by kernel_rfl)) (fun _ _ _ h => h) (Or.inl ⟨by rfl, ?_⟩) hHeld ?_ ?_
  rotate_left
  ·rintro w' ⟨s0, s1, s2, s3, s4, s5⟩
   go_simp
   with_reducible rfl
  rotate_left
  ·exact xK
  refine qF (i := 6) (N := some 24) (v := ?_) (a' := ?_) a9n rfl rfl (pE HT_.out HW_.out (by kernel_rfl)) (fun _ _ _ h => h) (Or.inl ⟨by rfl, ?_⟩) hHeld ?_ ?_
  rotate_left
  ·rintro w' ⟨s0, s1, s2, s3, s4, s5⟩
   go_simp
   with_reducible rfl
  rotate_left
  ·exact xK
  refine yN (i := 2) (N := some 20) a9m rfl rfl (uW HT_.out (by kernel_rfl)) (by decide) (fun K hK => ?_)
  refine yB Try.func86 (by kernel_rfl) rfl #[.int .i64 a2] (by rfl) rfl rfl tm ?_
  with_reducible refine (impl_decimal.calls bQ.out).mono ?_
  rintro e w22 ⟨rfl, hb⟩
  refine ⟨_, rfl, ?_⟩
  replace a0 := gB a0 hb
  replace HB := hX hb
  clear hb
  refine hK.out _ _ (cz6 a0.out) (fun hHeld => ?_)
  clear hK K
  refine rO (a' := ?_) ?_ ?_
  rotate_left
  ·show Act.put _ (some 20) _ = _
   exact xK
  refine pT (i := 3) (N := some 21) a9l ?_
  refine pT (i := 4) (N := some 22) a9k ?_
  refine yN (i := 7) (N := some 25) a9j rfl rfl (uW HT_.out (by kernel_rfl)) (by decide) (fun K hK => ?_)
  refine yB Try.func86 (by kernel_rfl) rfl #[.int .i64 a3] (by rfl) rfl rfl tm ?_
  with_reducible refine (impl_decimal.calls bP.out).mono ?_
  rintro e w23 ⟨rfl, hb⟩
  refine ⟨_, rfl, ?_⟩
  replace a0 := gB a0 hb
  replace HB := hX hb
  clear hb
  refine hK.out _ _ (cz6 a0.out) (fun hHeld => ?_)
  clear hK K
  refine rO (a' := ?_) ?_ ?_
  rotate_left
  ·show Act.put _ (some 25) _ = _
   exact xK
  refine pT (i := 8) (N := some 26) a9i ?_
  exact a9f
 replace H := iE H; rcases H with ⟨b7, b6, H⟩ | ⟨b7, b6, H⟩
 ·exact c1q
 replace H := iE H; rcases H with ⟨b5, b4, H⟩ | ⟨b5, b4, H⟩
 ·replace H := oA H; obtain ⟨aA, bO, H⟩ := H
  replace H := iP H; obtain ⟨aX, H⟩ := H
  have cW := eq_true aX
  have cV : decide (7 + aA.size ≤ 9223372036854775807) = true := decide_eq_true aX
  try have cU : (9223372036854775807 < 7 + aA.size) = False := eq_false (Nat.not_lt.2 aX)
  replace H := iP H; obtain ⟨aQ, H⟩ := H
  have cT := eq_true aQ
  have cS : decide (((⟨#[40, 115, 108, 105, 99, 101, 32]⟩ : ByteArray) ++ aA).size + 1 ≤ 9223372036854775807) = true := decide_eq_true aQ
  try have cR : (9223372036854775807 < ((⟨#[40, 115, 108, 105, 99, 101, 32]⟩ : ByteArray) ++ aA).size + 1) = False := eq_false (Nat.not_lt.2 aQ)
  have dJ : (9223372036854775807 < 7 + aA.size + 1) = False := eq_false (Nat.not_lt.2 (by have h_ := aQ; (repeat rw [ByteArray.size_append] at h_); exact h_))
  replace H := oA H; obtain ⟨aH, bN, H⟩ := H
  replace H := iP H; obtain ⟨aO, H⟩ := H
  have cQ := eq_true aO
  have cP : decide ((((⟨#[40, 115, 108, 105, 99, 101, 32]⟩ : ByteArray) ++ aA) ++ (⟨#[32]⟩ : ByteArray)).size + aH.size ≤ 9223372036854775807) = true := decide_eq_true aO
  try have cO : (9223372036854775807 < (((⟨#[40, 115, 108, 105, 99, 101, 32]⟩ : ByteArray) ++ aA) ++ (⟨#[32]⟩ : ByteArray)).size + aH.size) = False := eq_false (Nat.not_lt.2 aO)
  have dI : (9223372036854775807 < 7 + aA.size + 1 + aH.size) = False := eq_false (Nat.not_lt.2 (by have h_ := aO; (repeat rw [ByteArray.size_append] at h_); exact h_))
  obtain rfl := oI H
  go_enter Try.func57, Try.ntmps57
  try go_wp2_with (first | ((with_reducible refine gW ?_); first | (refine bX 1 31 #[.int .i64 a7, .int .i64 a3, .int .i64 a2, .int .i64 a6, .int .i64 a4, .int .i64 a5] ?_; intro a1 hg w33 hbox hb; have a0 := am hbox; have aD := gw hg; have aE := gw hg; replace HB := hB HB hb; clear hb hbox hg; have bF := cf6 a0.out)))
  replace a0 := am (pO a0.out)
  replace HB := am (kO HB.out)
  refine tM (n := 10) (S := fun w' => w'.cell? ⟨a1, 0, none⟩ = some (.int .i64 a7) ∧ w'.cell? ⟨a1, 1, none⟩ = some (.int .i64 a3) ∧ w'.cell? ⟨a1, 2, none⟩ = some (.int .i64 a2) ∧ w'.cell? ⟨a1, 3, none⟩ = some (.int .i64 a6) ∧ w'.cell? ⟨a1, 4, none⟩ = some (.int .i64 a4) ∧ w'.cell? ⟨a1, 5, none⟩ = some (.int .i64 a5)) (ds := []) a9r (by kernel_rfl) rfl rfl (cz6 a0.out) (fun hHeld => ?_); refine rV a6u a5y (fun HT_ HW_ => ?_)
  generalize w33.drew = w35 at a0 HB hHeld ⊢
  refine pT (i := 0) (N := some 31) a9q ?_
  refine pT (i := 5) (N := some 36) a9p ?_
  refine qF (i := 1) (N := some 32) (v := ?_) (a' := ?_) a9o rfl rfl (pE HT_.out HW_.out (by kernel_rfl)) (fun _ _ _ h => h) (Or.inl ⟨by rfl, ?_⟩) hHeld ?_ ?_
  rotate_left
  ·rintro w' ⟨s0, s1, s2, s3, s4, s5⟩
   go_simp
   with_reducible rfl
  rotate_left
  ·exact xK
  refine qF (i := 6) (N := some 37) (v := ?_) (a' := ?_) a9n rfl rfl (pE HT_.out HW_.out (by kernel_rfl)) (fun _ _ _ h => h) (Or.inl ⟨by rfl, ?_⟩) hHeld ?_ ?_
  rotate_left
  ·rintro w' ⟨s0, s1, s2, s3, s4, s5⟩
   go_simp
   with_reducible rfl
  rotate_left
  ·exact xK
  refine yN (i := 2) (N := some 33) a9m rfl rfl (uW HT_.out (by kernel_rfl)) (by decide) (fun K hK => ?_)
  refine yB Try.func86 (by kernel_rfl) rfl #[.int .i64 a2] (by rfl) rfl rfl tm ?_
  with_reducible refine (impl_decimal.calls bO.out).mono ?_
  rintro e w36 ⟨rfl, hb⟩
  refine ⟨_, rfl, ?_⟩
  replace a0 := gB a0 hb
  replace HB := hX hb
  clear hb
  refine hK.out _ _ (cz6 a0.out) (fun hHeld => ?_)
  clear hK K
  refine rO (a' := ?_) ?_ ?_
  rotate_left
  ·show Act.put _ (some 33) _ = _
   exact xK
  refine pT (i := 3) (N := some 34) a9l ?_
  refine pT (i := 4) (N := some 35) a9k ?_
  refine yN (i := 7) (N := some 38) a9j rfl rfl (uW HT_.out (by kernel_rfl)) (by decide) (fun K hK => ?_)
  refine yB Try.func86 (by kernel_rfl) rfl #[.int .i64 a3] (by rfl) rfl rfl tm ?_
  with_reducible refine (impl_decimal.calls bN.out).mono ?_
  rintro e w37 ⟨rfl, hb⟩
  refine ⟨_, rfl, ?_⟩
  replace a0 := gB a0 hb
  replace HB := hX hb
  clear hb
  refine hK.out _ _ (cz6 a0.out) (fun hHeld => ?_)
  clear hK K
  refine rO (a' := ?_) ?_ ?_
  rotate_left
  ·show Act.put _ (some 38) _ = _
   exact xK
  refine pT (i := 8) (N := some 39) a9i ?_
  exact a9f
 replace H := iE H; rcases H with ⟨b3, b2, H⟩ | ⟨b3, b2, H⟩
 ·exact c1q
 replace H := iE H; rcases H with ⟨b1, b0, H⟩ | ⟨b1, b0, H⟩
 ·replace H := oA H; obtain ⟨a9, bM, H⟩ := H
  replace H := iP H; obtain ⟨aW, H⟩ := H
  have cN := eq_true aW
  have cM : decide (6 + a9.size ≤ 9223372036854775807) = true := decide_eq_true aW
  try have cL : (9223372036854775807 < 6 + a9.size) = False := eq_false (Nat.not_lt.2 aW)
  replace H := iP H; obtain ⟨aN, H⟩ := H
  have cK := eq_true aN
  have cJ : decide (((⟨#[40, 97, 108, 108, 32, 118]⟩ : ByteArray) ++ a9).size + 1 ≤ 9223372036854775807) = true := decide_eq_true aN
  try have cI : (9223372036854775807 < ((⟨#[40, 97, 108, 108, 32, 118]⟩ : ByteArray) ++ a9).size + 1) = False := eq_false (Nat.not_lt.2 aN)
  have dH : (9223372036854775807 < 6 + a9.size + 1) = False := eq_false (Nat.not_lt.2 (by have h_ := aN; (repeat rw [ByteArray.size_append] at h_); exact h_))
  replace H := oA H; obtain ⟨aG, bL, H⟩ := H
  replace H := iP H; obtain ⟨aM, H⟩ := H
  have cH := eq_true aM
  have cG : decide ((((⟨#[40, 97, 108, 108, 32, 118]⟩ : ByteArray) ++ a9) ++ (⟨#[58]⟩ : ByteArray)).size + aG.size ≤ 9223372036854775807) = true := decide_eq_true aM
  try have cF : (9223372036854775807 < (((⟨#[40, 97, 108, 108, 32, 118]⟩ : ByteArray) ++ a9) ++ (⟨#[58]⟩ : ByteArray)).size + aG.size) = False := eq_false (Nat.not_lt.2 aM)
  have dG : (9223372036854775807 < 6 + a9.size + 1 + aG.size) = False := eq_false (Nat.not_lt.2 (by have h_ := aM; (repeat rw [ByteArray.size_append] at h_); exact h_))
  obtain rfl := oI H
  go_enter Try.func57, Try.ntmps57
  try go_wp2_with (first | ((with_reducible refine gW ?_); first | (refine bX 1 31 #[.int .i64 a7, .int .i64 a3, .int .i64 a2, .int .i64 a6, .int .i64 a4, .int .i64 a5] ?_; intro a1 hg w47 hbox hb; have a0 := am hbox; have aD := gw hg; have aE := gw hg; replace HB := hB HB hb; clear hb hbox hg; have bE := cf6 a0.out)))
  replace a0 := am (pO a0.out)
  replace HB := am (kO HB.out)
  refine tM (n := 10) (S := fun w' => w'.cell? ⟨a1, 0, none⟩ = some (.int .i64 a7) ∧ w'.cell? ⟨a1, 1, none⟩ = some (.int .i64 a3) ∧ w'.cell? ⟨a1, 2, none⟩ = some (.int .i64 a2) ∧ w'.cell? ⟨a1, 3, none⟩ = some (.int .i64 a6) ∧ w'.cell? ⟨a1, 4, none⟩ = some (.int .i64 a4) ∧ w'.cell? ⟨a1, 5, none⟩ = some (.int .i64 a5)) (ds := []) a9r (by kernel_rfl) rfl rfl (cz6 a0.out) (fun hHeld => ?_); refine rV a5x a4b (fun HT_ HW_ => ?_)
  generalize w47.drew = w49 at a0 HB hHeld ⊢
  refine pT (i := 0) (N := some 44) a9q ?_
  refine pT (i := 5) (N := some 49) a9p ?_
  refine qF (i := 1) (N := some 45) (v := ?_) (a' := ?_) a9o rfl rfl (pE HT_.out HW_.out (by kernel_rfl)) (fun _ _ _ h => h) (Or.inl ⟨by rfl, ?_⟩) hHeld ?_ ?_
  rotate_left
  ·rintro w' ⟨s0, s1, s2, s3, s4, s5⟩
   go_simp
   with_reducible rfl
  rotate_left
  ·exact xK
  refine qF (i := 6) (N := some 50) (v := ?_) (a' := ?_) a9n rfl rfl (pE HT_.out HW_.out (by kernel_rfl)) (fun _ _ _ h => h) (Or.inl ⟨by rfl, ?_⟩) hHeld ?_ ?_
  rotate_left
  ·rintro w' ⟨s0, s1, s2, s3, s4, s5⟩
   go_simp
   with_reducible rfl
  rotate_left
  ·exact xK
  refine yN (i := 2) (N := some 46) a9m rfl rfl (uW HT_.out (by kernel_rfl)) (by decide) (fun K hK => ?_)
  refine yB Try.func86 (by kernel_rfl) rfl #[.int .i64 a2] (by rfl) rfl rfl tm ?_
  with_reducible refine (impl_decimal.calls bM.out).mono ?_
  rintro e w50 ⟨rfl, hb⟩
  refine ⟨_, rfl, ?_⟩
  replace a0 := gB a0 hb
  replace HB := hX hb
  clear hb
  refine hK.out _ _ (cz6 a0.out) (fun hHeld => ?_)
  clear hK K
  refine rO (a' := ?_) ?_ ?_
  rotate_left
  ·show Act.put _ (some 46) _ = _
   exact xK
  refine pT (i := 3) (N := some 47) a9l ?_
  refine pT (i := 4) (N := some 48) a9k ?_
  refine yN (i := 7) (N := some 51) a9j rfl rfl (uW HT_.out (by kernel_rfl)) (by decide) (fun K hK => ?_)
  refine yB Try.func86 (by kernel_rfl) rfl #[.int .i64 a4] (by rfl) rfl rfl tm ?_
  with_reducible refine (impl_decimal.calls bL.out).mono ?_
  rintro e w51 ⟨rfl, hb⟩
  refine ⟨_, rfl, ?_⟩
  replace a0 := gB a0 hb
  replace HB := hX hb
  clear hb
  refine hK.out _ _ (cz6 a0.out) (fun hHeld => ?_)
  clear hK K
  refine rO (a' := ?_) ?_ ?_
  rotate_left
  ·show Act.put _ (some 51) _ = _
   exact xK
  refine pT (i := 8) (N := some 52) a9i ?_
  exact a9f
 replace H := iE H; rcases H with ⟨a_, aZ, H⟩ | ⟨a_, aZ, H⟩
 rotate_left
 ·replace H := oA H; obtain ⟨aT, bI, H⟩ := H
  replace H := iP H; obtain ⟨aU, H⟩ := H
  have bT := eq_true aU
  have bS : decide (1 + aT.size ≤ 9223372036854775807) = true := decide_eq_true aU
  try have bR : (9223372036854775807 < 1 + aT.size) = False := eq_false (Nat.not_lt.2 aU)
  obtain rfl := oI H
  go_enter Try.func57, Try.ntmps57
  go_wp2_with (first | ((with_reducible refine gW ?_); first | (refine bX 1 31 #[.int .i64 a7, .int .i64 a3, .int .i64 a2, .int .i64 a6, .int .i64 a4, .int .i64 a5] ?_; intro a1 hg w65 hbox hb; have a0 := am hbox; have aD := gw hg; have aE := gw hg; replace HB := hB HB hb; clear hb hbox hg; have bC := cf6 a0.out) | (refine gF 87 (some 66) rfl ?_; refine gS Try.func87 (impl_opWord.calls bI.out) ?_; rintro w67 hb; replace a0 := gB a0 hb; replace HB := hX hb; (try clear hb))))
  go_ret
  exact ⟨rfl, bW⟩
 replace H := oA H; obtain ⟨a8, bK, H⟩ := H
 replace H := iP H; obtain ⟨aV, H⟩ := H
 have cE := eq_true aV
 have cC : decide (7 + a8.size ≤ 9223372036854775807) = true := decide_eq_true aV
 try have cB : (9223372036854775807 < 7 + a8.size) = False := eq_false (Nat.not_lt.2 aV)
 replace H := iP H; obtain ⟨aL, H⟩ := H
 have c1 := eq_true aL
 have c0 : decide (((⟨#[40, 115, 111, 109, 101, 32, 118]⟩ : ByteArray) ++ a8).size + 1 ≤ 9223372036854775807) = true := decide_eq_true aL
 try have b_ : (9223372036854775807 < ((⟨#[40, 115, 111, 109, 101, 32, 118]⟩ : ByteArray) ++ a8).size + 1) = False := eq_false (Nat.not_lt.2 aL)
 have dC : (9223372036854775807 < 7 + a8.size + 1) = False := eq_false (Nat.not_lt.2 (by have h_ := aL; (repeat rw [ByteArray.size_append] at h_); exact h_))
 replace H := oA H; obtain ⟨aF, bJ, H⟩ := H
 replace H := iP H; obtain ⟨aK, H⟩ := H
 have bZ := eq_true aK
 have bV : decide ((((⟨#[40, 115, 111, 109, 101, 32, 118]⟩ : ByteArray) ++ a8) ++ (⟨#[58]⟩ : ByteArray)).size + aF.size ≤ 9223372036854775807) = true := decide_eq_true aK
 try have bU : (9223372036854775807 < (((⟨#[40, 115, 111, 109, 101, 32, 118]⟩ : ByteArray) ++ a8) ++ (⟨#[58]⟩ : ByteArray)).size + aF.size) = False := eq_false (Nat.not_lt.2 aK)
 have dB : (9223372036854775807 < 7 + a8.size + 1 + aF.size) = False := eq_false (Nat.not_lt.2 (by have h_ := aK; (repeat rw [ByteArray.size_append] at h_); exact h_))
 obtain rfl := oI H
 go_enter Try.func57, Try.ntmps57
 try go_wp2_with (first | ((with_reducible refine gW ?_); first | (refine bX 1 31 #[.int .i64 a7, .int .i64 a3, .int .i64 a2, .int .i64 a6, .int .i64 a4, .int .i64 a5] ?_; intro a1 hg w58 hbox hb; have a0 := am hbox; have aD := gw hg; have aE := gw hg; replace HB := hB HB hb; clear hb hbox hg; have bD := cf6 a0.out)))
 replace a0 := am (pO a0.out)
 replace HB := am (kO HB.out)
 refine tM (n := 10) (S := fun w' => w'.cell? ⟨a1, 0, none⟩ = some (.int .i64 a7) ∧ w'.cell? ⟨a1, 1, none⟩ = some (.int .i64 a3) ∧ w'.cell? ⟨a1, 2, none⟩ = some (.int .i64 a2) ∧ w'.cell? ⟨a1, 3, none⟩ = some (.int .i64 a6) ∧ w'.cell? ⟨a1, 4, none⟩ = some (.int .i64 a4) ∧ w'.cell? ⟨a1, 5, none⟩ = some (.int .i64 a5)) (ds := []) a9r (by kernel_rfl) rfl rfl (cz6 a0.out) (fun hHeld => ?_); refine rV a5w a4a (fun HT_ HW_ => ?_)
 generalize w58.drew = w60 at a0 HB hHeld ⊢
 refine pT (i := 0) (N := some 55) a9q ?_
 refine pT (i := 5) (N := some 60) a9p ?_
 refine qF (i := 1) (N := some 56) (v := ?_) (a' := ?_) a9o rfl rfl (pE HT_.out HW_.out (by kernel_rfl)) (fun _ _ _ h => h) (Or.inl ⟨by rfl, ?_⟩) hHeld ?_ ?_
 rotate_left
 ·rintro w' ⟨s0, s1, s2, s3, s4, s5⟩
  go_simp
  with_reducible rfl
 rotate_left
 ·exact xK
 refine qF (i := 6) (N := some 61) (v := ?_) (a' := ?_) a9n rfl rfl (pE HT_.out HW_.out (by kernel_rfl)) (fun _ _ _ h => h) (Or.inl ⟨by rfl, ?_⟩) hHeld ?_ ?_
 rotate_left
 ·rintro w' ⟨s0, s1, s2, s3, s4, s5⟩
  go_simp
  with_reducible rfl
 rotate_left
 ·exact xK
 refine yN (i := 2) (N := some 57) a9m rfl rfl (uW HT_.out (by kernel_rfl)) (by decide) (fun K hK => ?_)
 refine yB Try.func86 (by kernel_rfl) rfl #[.int .i64 a2] (by rfl) rfl rfl tm ?_
 with_reducible refine (impl_decimal.calls bK.out).mono ?_
 rintro e w61 ⟨rfl, hb⟩
 refine ⟨_, rfl, ?_⟩
 replace a0 := gB a0 hb
 replace HB := hX hb
 clear hb
 refine hK.out _ _ (cz6 a0.out) (fun hHeld => ?_)
 clear hK K
 refine rO (a' := ?_) ?_ ?_
 rotate_left
 ·show Act.put _ (some 57) _ = _
  exact xK
 refine pT (i := 3) (N := some 58) a9l ?_
 refine pT (i := 4) (N := some 59) a9k ?_
 refine yN (i := 7) (N := some 62) a9j rfl rfl (uW HT_.out (by kernel_rfl)) (by decide) (fun K hK => ?_)
 refine yB Try.func86 (by kernel_rfl) rfl #[.int .i64 a4] (by rfl) rfl rfl tm ?_
 with_reducible refine (impl_decimal.calls bJ.out).mono ?_
 rintro e w62 ⟨rfl, hb⟩
 refine ⟨_, rfl, ?_⟩
 replace a0 := gB a0 hb
 replace HB := hX hb
 clear hb
 refine hK.out _ _ (cz6 a0.out) (fun hHeld => ?_)
 clear hK K
 refine rO (a' := ?_) ?_ ?_
 rotate_left
 ·show Act.put _ (some 62) _ = _
  exact xK
 refine pT (i := 8) (N := some 63) a9i ?_
 exact a9f
end Go.Proofs.Ytkpipmojkhikaaa.PAll
