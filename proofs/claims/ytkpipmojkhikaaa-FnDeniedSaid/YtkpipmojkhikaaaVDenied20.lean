/- Written by a program of this session over the loaded program, and by hand: Go functions as plain Lean functions, and that a call comes to what they say. -/
import Derived.Test.YtkpipmojkhikaaaVDenied0
import Derived.Test.YtkpipmojkhikaaaVDenied1
import Derived.Test.YtkpipmojkhikaaaBase
import Derived.Test.YtkpipmojkhikaaaSq
namespace Go.Proofs.Ytkpipmojkhikaaa.PAll
open Go.RowKit Go.Proofs.YtkpipmojkhikaaaW.PrintWords Go.Proofs.YtkpipmojkhikaaaW.PrintLast Go.Proofs.YtkpipmojkhikaaaW.PrintMore Go.Proofs.YtkpipmojkhikaaaW.Sq
attribute [local go_sem] qZ qX sT sS qC qB qY qW
set_option linter.unusedVariables false
set_option maxHeartbeats 8000000
set_option maxRecDepth 100000
set_option linter.unusedSimpArgs false
mutual
def sL : Nat → List (S31) → List Int → List (List Int) → Int → Option (Bool)
 | 0, _, _, _, _ => none
 | k + 1, x0, x1, x5, x6 => if x6 < (x0.length : Int) then (if 0 ≤ x6 then ((rW k ((kA x0 x6).f0) ((kA x0 x6).f1) ((kA x0 x6).f2) ((kA x0 x6).f3) ((kA x0 x6).f4) ((kA x0 x6).f5)).bind fun aG => (rN k x0 x1 x5 x6 (([] : List Int)) aG 0 ((kA x0 x6).f0) ((kA x0 x6).f1) ((kA x0 x6).f2) ((kA x0 x6).f3) ((kA x0 x6).f4) ((kA x0 x6).f5))) else (none)) else (sJ k x0 x1 x5 0)
def rN : Nat → List (S31) → List Int → List (List Int) → Int → List Int → List Int → Int → Int → Int → Int → Int → Int → Int → Option (Bool)
 | 0, _, _, _, _, _, _, _, _, _, _, _, _, _ => none
 | k + 1, x0, x1, x5, x6, x8, x9, a6, a1, a3, a0, a5, a2, a4 => if a6 < 8 then (if a1 = 1 then (tS k x0 x1 x5 x6 x8 x9 a6 0 (a0 == a6) a1 a3 a0 a5 a2 a4) else (tS k x0 x1 x5 x6 x8 x9 a6 0 false a1 a3 a0 a5 a2 a4)) else (if x5.length < 5864062014805 then (sL k x0 x1 (x5 ++ [x8]) (wrap64 (x6 + 1))) else (none))
def tS : Nat → List (S31) → List Int → List (List Int) → Int → List Int → List Int → Int → Int → Bool → Int → Int → Int → Int → Int → Int → Option (Bool)
 | 0, _, _, _, _, _, _, _, _, _, _, _, _, _, _, _ => none
 | k + 1, x0, x1, x5, x6, x8, x9, a6, a8, aI, a1, a3, a0, a5, a2, a4 => if aI = true then ((kZ k a3).bind fun aF => (tR k x0 x1 x5 x6 x8 x9 a6 aF a1 a3 a0 a5 a2 a4)) else (tR k x0 x1 x5 x6 x8 x9 a6 a8 a1 a3 a0 a5 a2 a4)
def tR : Nat → List (S31) → List Int → List (List Int) → Int → List Int → List Int → Int → Int → Int → Int → Int → Int → Int → Int → Option (Bool)
 | 0, _, _, _, _, _, _, _, _, _, _, _, _, _, _ => none
 | k + 1, x0, x1, x5, x6, x8, x9, a6, a8, a1, a3, a0, a5, a2, a4 => tQ k x0 x1 x5 x6 x8 x9 a6 a8 0 a1 a3 a0 a5 a2 a4
def tQ : Nat → List (S31) → List Int → List (List Int) → Int → List Int → List Int → Int → Int → Int → Int → Int → Int → Int → Int → Int → Option (Bool)
 | 0, _, _, _, _, _, _, _, _, _, _, _, _, _, _, _ => none
 | k + 1, x0, x1, x5, x6, x8, x9, a6, a8, a9, a1, a3, a0, a5, a2, a4 => if a9 < (x9.length : Int) then (if 0 ≤ a9 then (if 0 ≤ (rd x9 a9) then (if (rd x9 a9) < (x5.length : Int) then (if 0 ≤ a6 then (if a6 < ((a0h x5 (rd x9 a9)).length : Int) then (tQ k x0 x1 x5 x6 x8 x9 a6 (Go.bits .or .i64 a8 (rd (a0h x5 (rd x9 a9)) a6)) (wrap64 (a9 + 1)) a1 a3 a0 a5 a2 a4) else (none)) else (none)) else (none)) else (none)) else (none)) else ((rC a1).bind fun aE => (if aE = true then (pX k x0 x1 x5 x6 x8 x9 a6 a8 (a0 == a6) a1 a3 a0 a5 a2 a4) else (pX k x0 x1 x5 x6 x8 x9 a6 a8 false a1 a3 a0 a5 a2 a4)))
def pX : Nat → List (S31) → List Int → List (List Int) → Int → List Int → List Int → Int → Int → Bool → Int → Int → Int → Int → Int → Int → Option (Bool)
 | 0, _, _, _, _, _, _, _, _, _, _, _, _, _, _, _ => none
 | k + 1, x0, x1, x5, x6, x8, x9, a6, a8, aH, a1, a3, a0, a5, a2, a4 => if aH = true then (if a8 = 0 then (if x8.length < 17592186044416 then (rN k x0 x1 x5 x6 (x8 ++ [0]) x9 (wrap64 (a6 + 1)) a1 a3 a0 a5 a2 a4) else (none)) else ((kZ k a2).bind fun aD => (if a8 = aD then (if x8.length < 17592186044416 then (rN k x0 x1 x5 x6 (x8 ++ [0]) x9 (wrap64 (a6 + 1)) a1 a3 a0 a5 a2 a4) else (none)) else (some false)))) else (if x8.length < 17592186044416 then (rN k x0 x1 x5 x6 (x8 ++ [a8]) x9 (wrap64 (a6 + 1)) a1 a3 a0 a5 a2 a4) else (none))
def sJ : Nat → List (S31) → List Int → List (List Int) → Int → Option (Bool)
 | 0, _, _, _, _ => none
 | k + 1, x0, x1, x5, a7 => if a7 < 8 then (qO k x0 x1 x5 a7 1) else (some true)
def qO : Nat → List (S31) → List Int → List (List Int) → Int → Int → Option (Bool)
 | 0, _, _, _, _, _ => none
 | k + 1, x0, x1, x5, a7, aA => if aA ≤ 8 then (if 0 ≤ (wrap64 ((x0.length : Int) - 1)) then (if (wrap64 ((x0.length : Int) - 1)) < (x5.length : Int) then (if 0 ≤ a7 then (if a7 < ((a0h x5 (wrap64 ((x0.length : Int) - 1))).length : Int) then ((kZ k aA).bind fun aB => (if aB = 0 then (none) else (if (Int.tmod (wrap64 (Int.tdiv (rd (a0h x5 (wrap64 ((x0.length : Int) - 1))) a7) aB)) 2) = 1 then (if a7 < (x1.length : Int) then ((rF k aA (rd x1 a7)).bind fun aC => (if aC = true then (qO k x0 x1 x5 a7 (wrap64 (aA + 1))) else (some false))) else (none)) else (qO k x0 x1 x5 a7 (wrap64 (aA + 1)))))) else (none)) else (none)) else (none)) else (none)) else (sJ k x0 x1 x5 (wrap64 (a7 + 1)))
end
def vL (k : Nat) (l0 : List (S31)) (l1 : List Int) : Option (Bool) := sL k l0 l1 (([] : List (List Int))) 0
theorem b9s {P : Prop} (h : P := by
 go_roundg k3
 case measure => have := aJ.out; have := aE.out; have := cN.out; omega
 case rel => exact ⟨(wrap64 (b1 + 1)), rfl, H, ⟨by have := aJ.out; have := aE.out; have := cN.out; omega⟩, ⟨by (with_reducible repeat (first | apply Kd.S_alloc | apply Kd.S_drewN | apply Kd.S_drew)); exact a1.out⟩, ⟨sW HB.out⟩⟩) : P := h
theorem spec_l04Fits.calls {k : Nat} {A0 : Option Addr} {c0 : Nat} {l0 : List (S31)} {A1 : Option Addr} {c1 : Nat} {l1 : List Int} {r : Bool} {w : World} (hr0 : Kd.C k31 w A0 l0.length l0) (hc0 : l0.length ≤ c0) (hr1 : Kd.C (Kd.int .i64) w A1 l1.length l1) (hc1 : l1.length ≤ c1) (h : vL k l0 l1 = some r) :
  Calls Try.prog 51 #[.slice A0 l0.length c0, .slice A1 l1.length c1] w fun e w' => e = .returned (.bool r) ∧ Below w.heap.size w w' := by
 have hu31 := Try.underlying31
 have eV := am hr0
 have g8 := am hc0
 clear hr0 hc0
 have bH := am hr1
 have g7 := am hc1
 clear hr1 hc1
 have HB := am (Below.refl w.heap.size w)
 have H := h
 clear h
 unfold vL at H
 generalize cF : ([] : List (List Int)) = e2 at H
 have dG := am cF.symm; clear cF
 replace H := am H
 go_enter Try.func51, Try.ntmps51
 go_wp2_with (first | ((with_reducible refine qF (N := 15) rfl ?_); refine Kd.S_lit (Kd.slice 3 (Kd.int .i64)) _ 25 ?hg (N := 15) ?hd (xs := ([] : List (List Int))) (inner := []) (ok := fun _ => True) (okp := fun _ => True) ?hr ?hp (fun _ hk => hk) trivial (Below.refl _ _) (Nat.le_refl _) (by simp) ?_; (case hd => rfl); (case hg => rfl); (case hr => (go_simp; done)); (case hp => exact (Reps.none _ _)); intro fR w3 c_ hb hg_ hnew_; clear hg_ hnew_; (rw [← dG.out] at c_); have dQ := am (Kd.S_lower c_ (kE (by exact sW HB.out))); replace HB := hB HB hb; clear hb c_))
 go_loopg [5, 6] k (fun kq v5 v6 w' => ∃ (a3 : List (List Int)) (a0 : Int), v6 = .int .i64 a0 ∧ Aside0 (sL kq l0 l1 a3 a0 = some r) ∧ Aside0 (kq ≤ k) ∧ Aside0 (Kd.S (Kd.slice 3 (Kd.int .i64)) 25 w' w.heap.size (fun _ => True) v5 a3) ∧ Aside0 (Below w.heap.size w w'))
 case atStart => exact ⟨e2, 0, rfl, H, ⟨Nat.le_refl _⟩, ⟨by (with_reducible repeat (first | apply Kd.S_alloc | apply Kd.S_drewN | apply Kd.S_drew)); exact dQ.out⟩, ⟨sW HB.out⟩⟩
 clear H
 obtain ⟨a3, a0, rfl, HA, aJ, a1, HB⟩ := hrel
 cases gk with
 | zero => cases HA.out
 | succ k1 =>
  obtain ⟨H⟩ := HA
  simp only [sL] at H
  replace H := iD H; rcases H with ⟨bS, H⟩ | ⟨bS, H⟩
  rotate_left
  ·replace H := am H
   go_wp2
   repeat (go_quiet (fail); try go_wp2)
   go_loopg [13] k1 (fun kq eQ w' => ∃ (a8 : Int), eQ = .int .i64 a8 ∧ Aside0 (sJ kq l0 l1 a3 a8 = some r) ∧ Aside0 (kq ≤ k1) ∧ Aside0 (Kd.S (Kd.slice 3 (Kd.int .i64)) 25 w' w.heap.size (fun _ => True) u5 a3) ∧ Aside0 (Below w.heap.size w w'))
   case atStart => exact ⟨0, rfl, H, ⟨Nat.le_refl _⟩, ⟨by (with_reducible repeat (first | apply Kd.S_alloc | apply Kd.S_drewN | apply Kd.S_drew)); exact a1.out⟩, ⟨sW HB.out⟩⟩
   clear H
   clear bS
   obtain ⟨a8, rfl, HA, aE, a1, HB⟩ := hrel
   cases gk with
   | zero => cases HA.out
   | succ k2 =>
    obtain ⟨H⟩ := HA
    simp only [sJ] at H
    replace H := iD H; rcases H with ⟨cI, H⟩ | ⟨cI, H⟩
    rotate_left
    ·obtain rfl := oI H
     go_wp2
     repeat (go_quiet (fail); try go_wp2)
     go_ret
     exact ⟨rfl, sW HB.out⟩
    replace H := am H
    go_wp2
    repeat (go_quiet (fail); try go_wp2)
    go_loopg [14] k2 (fun kq eP w' => ∃ (b1 : Int), eP = .int .i64 b1 ∧ Aside0 (qO kq l0 l1 a3 a8 b1 = some r) ∧ Aside0 (kq ≤ k2) ∧ Aside0 (Kd.S (Kd.slice 3 (Kd.int .i64)) 25 w' w.heap.size (fun _ => True) u5 a3) ∧ Aside0 (Below w.heap.size w w'))
    case atStart => exact ⟨1, rfl, H, ⟨Nat.le_refl _⟩, ⟨by (with_reducible repeat (first | apply Kd.S_alloc | apply Kd.S_drewN | apply Kd.S_drew)); exact a1.out⟩, ⟨sW HB.out⟩⟩
    clear H
    clear cI
    obtain ⟨b1, rfl, HA, cN, a1, HB⟩ := hrel
    cases gk with
    | zero => cases HA.out
    | succ k3 =>
     obtain ⟨H⟩ := HA
     simp only [qO] at H
     replace H := iD H; rcases H with ⟨d4, H⟩ | ⟨d4, H⟩
     rotate_left
     ·replace H := am H
      go_wp2
      repeat (go_quiet (fail); try go_wp2)
      go_roundg k3
      case measure => have := aJ.out; have := aE.out; have := cN.out; omega
      case rel => exact ⟨(wrap64 (a8 + 1)), rfl, H, ⟨by have := aJ.out; have := aE.out; have := cN.out; omega⟩, ⟨by (with_reducible repeat (first | apply Kd.S_alloc | apply Kd.S_drewN | apply Kd.S_drew)); exact a1.out⟩, ⟨sW HB.out⟩⟩
     generalize d3 : wrap64 ((l0.length : Int) - 1) = aC at H
     have eT : (IntKind.i64.wrap ((l0.length : Int) - 1)) = aC := (vY _).trans d3
     replace H := iN H; obtain ⟨fA, H⟩ := H
     replace H := iN H; obtain ⟨f9, H⟩ := H
     replace H := iN H; obtain ⟨f8, H⟩ := H
     replace H := iN H; obtain ⟨f7, H⟩ := H
     replace H := oA H; obtain ⟨aW, a_, H⟩ := H
     by_cases cH : aW = 0
     ·rw [if_pos cH] at H
      exact absurd H (by simp)
     rw [if_neg cH] at H
     have f6 : (aW == 0) = false := beq_eq_false_iff_ne.mpr cH
     have eZ : (aW != 0) = true := bne_iff_ne.mpr cH
     by_cases bB : (Int.tmod (wrap64 (Int.tdiv (rd (a0h a3 (aC)) a8) aW)) 2) = 1
     rotate_left
     ·rw [if_neg bB] at H
      have bO : ((Int.tmod (wrap64 (Int.tdiv (rd (a0h a3 (aC)) a8) aW)) 2) == 1) = false := beq_eq_false_iff_ne.mpr bB
      have bA := bO
      simp only [← vY] at bA
      have bN : ((Int.tmod (wrap64 (Int.tdiv (rd (a0h a3 (aC)) a8) aW)) 2) != 1) = true := bne_iff_ne.mpr bB
      have b9 := bN
      simp only [← vY] at b9
      replace H := am H
      obtain ⟨g2, fY, e7⟩ := Kd.S_slice a1.out
      subst e7
      have aN : 0 ≤ ((aC) : Int) := oD (by assumption)
      have aM : (aC) < (a3.length : Int) := oD (by assumption)
      obtain ⟨cM, bQ, bP, b8, aT, hl847_0, hi847_0⟩ := b8b (Kd.S_reads' a1.out).2.2 (aC) aN aM
      cases b8
      obtain ⟨ce847, hce847, hMe847, hcc847⟩ := Kd.S_get a1.out [] (aC) aN (by exact aM)
      obtain ⟨ve847_0, rfl, ge847_0⟩ := hMe847
      have hv847_0 := hcc847 0 _ rfl
      rw [Nat.add_zero, show ((Kd.slice 3 (Kd.int .i64))).sz = 1 from rfl, Nat.mul_one] at hv847_0
      replace hv847_0 := oI (hv847_0.symm.trans aT)
      rw [hv847_0] at ge847_0
      have HL847_0 := am (show Kd.R (Kd.int .i64) 3 _ _ _ _ (a0h a3 (aC)) from ge847_0)
      clear hv847_0 ge847_0
      clear hcc847 hce847
      have aI := am hi847_0
      have bI := am hl847_0
      clear hi847_0 hl847_0
      replace aN := eq_true aN
      replace aM := eq_true aM
      obtain ⟨cY, cX, cL, rfl, bF⟩ := ix (Kd.at_int (by repeat (first | (with_reducible exact aI.out) | (with_reducible refine Kd.C_alloc ?_ _) | (with_reducible refine Kd.C_drewN ?_ _) | (with_reducible refine Kd.C_drew ?_) | exact aI.out)) a8)
      go_wp2_with (first | (go_at_call 81; refine cD (spec_l01Pow2.calls a_.out) fun nd => ?_; (try exact dq)))
      repeat (go_quiet (first | (go_at_call 81; refine cD (spec_l01Pow2.calls a_.out) fun nd => ?_; (try exact dq))); try go_wp2_with (first | (go_at_call 81; refine cD (spec_l01Pow2.calls a_.out) fun nd => ?_; (try exact dq))))
      exact b9s
     rw [if_pos bB] at H
     have bO : ((Int.tmod (wrap64 (Int.tdiv (rd (a0h a3 (aC)) a8) aW)) 2) == 1) = true := beq_iff_eq.mpr bB
     have bA := bO
     simp only [← vY] at bA
     have bN : ((Int.tmod (wrap64 (Int.tdiv (rd (a0h a3 (aC)) a8) aW)) 2) != 1) = false := bne_eq_false_iff_eq.mpr bB
     have b9 := bN
     simp only [← vY] at b9
     clear bB
     replace H := iN H; obtain ⟨eY, H⟩ := H
     replace H := oA H; obtain ⟨fS, bJ, H⟩ := H
     replace H := iB H; rcases H with ⟨rfl, H⟩ | ⟨rfl, H⟩
     ·replace H := am H
      obtain ⟨g4, f_, e9⟩ := Kd.S_slice a1.out
      subst e9
      have aN : 0 ≤ ((aC) : Int) := oD (by assumption)
      have aM : (aC) < (a3.length : Int) := oD (by assumption)
      obtain ⟨cM, bQ, bP, b8, aT, hl847_0, hi847_0⟩ := b8b (Kd.S_reads' a1.out).2.2 (aC) aN aM
      cases b8
      obtain ⟨ce847, hce847, hMe847, hcc847⟩ := Kd.S_get a1.out [] (aC) aN (by exact aM)
      obtain ⟨ve847_0, rfl, ge847_0⟩ := hMe847
      have hv847_0 := hcc847 0 _ rfl
      rw [Nat.add_zero, show ((Kd.slice 3 (Kd.int .i64))).sz = 1 from rfl, Nat.mul_one] at hv847_0
      replace hv847_0 := oI (hv847_0.symm.trans aT)
      rw [hv847_0] at ge847_0
      have HL847_0 := am (show Kd.R (Kd.int .i64) 3 _ _ _ _ (a0h a3 (aC)) from ge847_0)
      clear hv847_0 ge847_0
      clear hcc847 hce847
      have aI := am hi847_0
      have bI := am hl847_0
      clear hi847_0 hl847_0
      replace aN := eq_true aN
      replace aM := eq_true aM
      obtain ⟨cY, cX, cL, rfl, bF⟩ := ix (Kd.at_int (by repeat (first | (with_reducible exact aI.out) | (with_reducible refine Kd.C_alloc ?_ _) | (with_reducible refine Kd.C_drewN ?_ _) | (with_reducible refine Kd.C_drew ?_) | exact aI.out)) a8)
      go_wp2_with (first | (go_at_call 81; refine cD (spec_l01Pow2.calls a_.out) fun nd => ?_; (try exact dq); obtain ⟨b7, b6, aZ, rfl, a4⟩ := ix (Kd.at_int bH.out a8); replace a4 := kC HB.out a4) | (go_at_call 71; refine cD (spec_WordOk.calls bJ.out) fun nd => ?_; (try exact dq)))
      repeat (go_quiet (first | (go_at_call 81; refine cD (spec_l01Pow2.calls a_.out) fun nd => ?_; (try exact dq); obtain ⟨b7, b6, aZ, rfl, a4⟩ := ix (Kd.at_int bH.out a8); replace a4 := kC HB.out a4) | (go_at_call 71; refine cD (spec_WordOk.calls bJ.out) fun nd => ?_; (try exact dq))); try go_wp2_with (first | (go_at_call 81; refine cD (spec_l01Pow2.calls a_.out) fun nd => ?_; (try exact dq); obtain ⟨b7, b6, aZ, rfl, a4⟩ := ix (Kd.at_int bH.out a8); replace a4 := kC HB.out a4) | (go_at_call 71; refine cD (spec_WordOk.calls bJ.out) fun nd => ?_; (try exact dq))))
      exact b9s
     obtain rfl := oI H
     obtain ⟨g3, fZ, e8⟩ := Kd.S_slice a1.out
     subst e8
     have aN : 0 ≤ ((aC) : Int) := oD (by assumption)
     have aM : (aC) < (a3.length : Int) := oD (by assumption)
     obtain ⟨cM, bQ, bP, b8, aT, hl847_0, hi847_0⟩ := b8b (Kd.S_reads' a1.out).2.2 (aC) aN aM
     cases b8
     obtain ⟨ce847, hce847, hMe847, hcc847⟩ := Kd.S_get a1.out [] (aC) aN (by exact aM)
     obtain ⟨ve847_0, rfl, ge847_0⟩ := hMe847
     have hv847_0 := hcc847 0 _ rfl
     rw [Nat.add_zero, show ((Kd.slice 3 (Kd.int .i64))).sz = 1 from rfl, Nat.mul_one] at hv847_0
     replace hv847_0 := oI (hv847_0.symm.trans aT)
     rw [hv847_0] at ge847_0
     have HL847_0 := am (show Kd.R (Kd.int .i64) 3 _ _ _ _ (a0h a3 (aC)) from ge847_0)
     clear hv847_0 ge847_0
     clear hcc847 hce847
     have aI := am hi847_0
     have bI := am hl847_0
     clear hi847_0 hl847_0
     replace aN := eq_true aN
     replace aM := eq_true aM
     obtain ⟨cY, cX, cL, rfl, bF⟩ := ix (Kd.at_int (by repeat (first | (with_reducible exact aI.out) | (with_reducible refine Kd.C_alloc ?_ _) | (with_reducible refine Kd.C_drewN ?_ _) | (with_reducible refine Kd.C_drew ?_) | exact aI.out)) a8)
     go_wp2_with (first | (go_at_call 81; refine cD (spec_l01Pow2.calls a_.out) fun nd => ?_; (try exact dq); obtain ⟨b7, b6, aZ, rfl, a4⟩ := ix (Kd.at_int bH.out a8); replace a4 := kC HB.out a4) | (go_at_call 71; refine cD (spec_WordOk.calls bJ.out) fun nd => ?_; (try exact dq)))
     repeat (go_quiet (first | (go_at_call 81; refine cD (spec_l01Pow2.calls a_.out) fun nd => ?_; (try exact dq); obtain ⟨b7, b6, aZ, rfl, a4⟩ := ix (Kd.at_int bH.out a8); replace a4 := kC HB.out a4) | (go_at_call 71; refine cD (spec_WordOk.calls bJ.out) fun nd => ?_; (try exact dq))); try go_wp2_with (first | (go_at_call 81; refine cD (spec_l01Pow2.calls a_.out) fun nd => ?_; (try exact dq); obtain ⟨b7, b6, aZ, rfl, a4⟩ := ix (Kd.at_int bH.out a8); replace a4 := kC HB.out a4) | (go_at_call 71; refine cD (spec_WordOk.calls bJ.out) fun nd => ?_; (try exact dq))))
     go_ret
     exact ⟨rfl, sW HB.out⟩
  replace H := iN H; obtain ⟨eC, H⟩ := H
  generalize cE : ([] : List Int) = e1 at H
  have dF := am cE.symm; clear cE
  replace H := oA H; obtain ⟨a6, A7, H⟩ := H
  replace H := am H
  obtain ⟨e5, e4, fJ, rfl, cU, cT, cS, cR, cQ, cP⟩ := ix (oZ (Kd.C_below eV.out HB.out) a0)
  go_wp2_with (first | (go_at_call 70; refine (spec_Parts.calls A7.out).mono ?_; rintro e w13 ⟨aH, rfl, cG, hb⟩; replace a1 := am (Kd.S_elder' (by (with_reducible repeat (first | apply Kd.S_alloc | apply Kd.S_drewN | apply Kd.S_drew)); exact a1.out) (Kd.R_base cG) hb); have dP := am (Kd.R_lower (Kd.R_new' cG (Kd.R_lt (by exact sR <| b2.out))) (kE (by exact bW))); replace b2 := rE b2 cG hb; replace a2 := gB a2 hb; replace HB := hX hb; (try clear hb); (try clear cG)) | ((with_reducible refine gW ?_); first | (refine bX 7 31 #[.int .i64 0, .int .i64 0, .int .i64 0, .int .i64 0, .int .i64 0, .int .i64 0] ?_; intro aG hg w8 hbox hb; replace a1 := am (Kd.S_below (by (with_reducible repeat (first | apply Kd.S_alloc | apply Kd.S_drewN | apply Kd.S_drew)); exact a1.out) hb); have a2 := am hbox; have fK := gw hg; have fL := gw hg; replace HB := hB HB hb; clear hb hbox hg; have d0 := cf6 a2.out) | (refine lE (Kd.int .i64) 3 26 ?_; intro fQ w10 bM hb; (rw [← dF.out] at bM); replace a1 := am (Kd.S_elder' (by (with_reducible repeat (first | apply Kd.S_alloc | apply Kd.S_drewN | apply Kd.S_drew)); exact (Kd.S_mono (Kd.S_far (p := ⟨aG, 5, none⟩) (Kd.S_far (p := ⟨aG, 4, none⟩) (Kd.S_far (p := ⟨aG, 3, none⟩) (Kd.S_far (p := ⟨aG, 2, none⟩) (Kd.S_far (p := ⟨aG, 1, none⟩) (Kd.S_far (p := ⟨aG, 0, none⟩) (Kd.S_types a1.out a2.out (by decide)) (fun _ hk => hk.2) (.int .i64 ((kA l0 a0).f0))) (fun _ hk => hk.2) (.int .i64 ((kA l0 a0).f1))) (fun _ hk => hk.2) (.int .i64 ((kA l0 a0).f2))) (fun _ hk => hk.2) (.int .i64 ((kA l0 a0).f3))) (fun _ hk => hk.2) (.int .i64 ((kA l0 a0).f4))) (fun _ hk => hk.2) (.int .i64 ((kA l0 a0).f5))) (fun _ h_ => h_.1))) (Kd.R_base bM) hb); have b2 := am (Kd.R_lower bM (kE (by exact bW))); replace a2 := am (kM (by exact sB <| pn (by exact sB <| a2.out)) hb); replace HB := hX hb; clear hb bM; have cV := cf6 a2.out)))
  go_loopg [8, 10] k1 (fun kq v8 eS w' => ∃ (aA : List Int) (aD : Int), eS = .int .i64 aD ∧ Aside0 (rN kq l0 l1 a3 a0 aA a6 aD ((kA l0 a0).f0) ((kA l0 a0).f1) ((kA l0 a0).f2) ((kA l0 a0).f3) ((kA l0 a0).f4) ((kA l0 a0).f5) = some r) ∧ Aside0 (kq ≤ k1) ∧ Aside0 (Kd.S (Kd.slice 3 (Kd.int .i64)) 25 w' w.heap.size (fun k_ => some k_ ≠ (v8 : Value).ownBlock ∧ some k_ ≠ (aH : Value).ownBlock) u5 a3) ∧ Aside0 (Kd.R (Kd.int .i64) 3 w' w.heap.size (fun k_ => some k_ ≠ (aH : Value).ownBlock) v8 aA) ∧ Aside0 (Kd.R (Kd.int .i64) 3 w' w.heap.size (fun k_ => some k_ ≠ (v8 : Value).ownBlock) aH a6) ∧ Aside0 (w'.heap[aG]? = some (.cells #[.int .i64 ((kA l0 a0).f0), .int .i64 ((kA l0 a0).f1), .int .i64 ((kA l0 a0).f2), .int .i64 ((kA l0 a0).f3), .int .i64 ((kA l0 a0).f4), .int .i64 ((kA l0 a0).f5)] 31 (0, 0))) ∧ Aside0 (Below w.heap.size w w'))
  case atStart => exact ⟨e1, 0, rfl, H, ⟨Nat.le_refl _⟩, ⟨by (with_reducible repeat (first | apply Kd.S_alloc | apply Kd.S_drewN | apply Kd.S_drew)); exact Kd.S_mono a1.out (fun _ hk => ⟨hk.1.2, hk.2⟩)⟩, ⟨sR <| Kd.R_mono b2.out (fun _ hk => hk.2)⟩, ⟨sR <| Kd.R_mono dP.out (fun _ hk => hk.2)⟩, ⟨sB <| a2.out⟩, ⟨bW⟩⟩
  clear H
  clear bS eC cV d0 cU cT cS cR cQ cP e5 e4
  obtain ⟨aA, aD, rfl, HA, aE, a1, a7, a5, a2, HB⟩ := hrel
  cases gk with
  | zero => cases HA.out
  | succ k2 =>
   obtain ⟨H⟩ := HA
   simp only [rN] at H
   replace H := iD H; rcases H with ⟨cK, H⟩ | ⟨cK, H⟩
   rotate_left
   ·replace H := iP H; obtain ⟨dS, H⟩ := H
    have dH := am dS
    clear dS
    generalize cC : a3 ++ [aA] = e0 at H
    have dE := am cC.symm; clear cC
    replace H := am H
    obtain ⟨d2, d1, rfl⟩ := Kd.R_slice a7.out
    go_wp2_with (first | ((with_reducible refine kW (b := .append) (xs := #[.tmp 85, .tmp 87]) rfl ?_); at_builtin; refine Kd.S_append (Kd.slice 3 (Kd.int .i64)) (w0 := w) w.heap.size rfl (.tmp 85) (.tmp 87) 103 25 (.slice none 0 0) 24 rfl Try.underlying103 c7n rfl (by decide) oM u5 a3 aA [.slice d2 aA.length d1] (fun k_ => some k_ ≠ (aH : Value).ownBlock) (fun k_ => some k_ = (.slice d2 aA.length d1 : Value).ownBlock) rfl rfl ?aP (fun k_ hk_ => ((Kd.R_mono (ok' := fun k_ => ((fun k_ => some k_ ≠ (aH : Value).ownBlock)) k_ ∧ some k_ ≠ (u5 : Value).ownBlock) (Kd.R_apart' (a7.out) (Kd.S_typed a1.out) (by decide)) (fun k_ hk => ⟨hk.1, hk.2⟩))).1 k_ hk_.symm) ?aF ?aO ?aB ?aS ?aL ?_; (case aP => exact Kd.M_row (Kd.R_mono (Kd.R_tight rfl (Kd.R_mono (ok' := fun k_ => ((fun k_ => some k_ ≠ (aH : Value).ownBlock)) k_ ∧ some k_ ≠ (u5 : Value).ownBlock) (Kd.R_apart' (a7.out) (Kd.S_typed a1.out) (by decide)) (fun k_ hk => ⟨hk.1, hk.2⟩))) (fun _ h_ => h_))); (case aB => exact (by exact bW)); (case aF => exact (fun k_ hk => Kd.fresh' (Kd.R_lt (by exact sR <| a5.out)) k_ hk)); (case aO => exact (by (with_reducible repeat (first | apply Kd.S_alloc | apply Kd.S_drewN | apply Kd.S_drew)); exact Kd.S_mono a1.out (fun k_ hk => ⟨hk.2, fun e_ => hk.1 e_⟩))); (case aS => exact (kE (by exact bW))); (case aL => have := dH.out; omega); intro fP w50 ho hb hg hat; rw [← dE.out] at ho; replace a5 := am (Kd.R_over' (by exact sR <| a5.out) (Kd.S_typed (by (with_reducible repeat (first | apply Kd.S_alloc | apply Kd.S_drewN | apply Kd.S_drew)); exact a1.out)) (by decide) hg); replace a2 := am (tF (g := aG) (o := .cells #[.int .i64 ((kA l0 a0).f0), .int .i64 ((kA l0 a0).f1), .int .i64 ((kA l0 a0).f2), .int .i64 ((kA l0 a0).f3), .int .i64 ((kA l0 a0).f4), .int .i64 ((kA l0 a0).f5)] 31 (0, 0)) (by exact sB <| a2.out) hg (Kd.S_ne a1.out a2.out (by decide))); replace HB := am hb; have dO := am ho; clear a1 a7; clear ho hb hg hat))
    go_roundg k2
    case measure => have := aJ.out; have := aE.out; omega
    case rel => exact ⟨e0, (wrap64 (a0 + 1)), rfl, H, ⟨by have := aJ.out; have := aE.out; omega⟩, ⟨by (with_reducible repeat (first | apply Kd.S_alloc | apply Kd.S_drewN | apply Kd.S_drew)); exact Kd.S_mono dO.out (fun _ hk => trivial)⟩, ⟨bW⟩⟩
   have bV := am H; clear H
   go_upto_region 12 with (fail)
   repeat (go_quiet (fail); go_upto_region 12 with (fail))
   go_cut [41] (fun eO wc => ∃ (kq : Nat) (b4 : Bool), eO = .bool b4 ∧ Aside0 (tS kq l0 l1 a3 a0 aA a6 aD 0 b4 ((kA l0 a0).f0) ((kA l0 a0).f1) ((kA l0 a0).f2) ((kA l0 a0).f3) ((kA l0 a0).f4) ((kA l0 a0).f5) = some r) ∧ Aside0 (kq ≤ k2) ∧ Aside0 (Kd.S (Kd.slice 3 (Kd.int .i64)) 25 wc w.heap.size (fun k_ => some k_ ≠ (u8 : Value).ownBlock ∧ some k_ ≠ (aH : Value).ownBlock) u5 a3) ∧ Aside0 (Kd.R (Kd.int .i64) 3 wc w.heap.size (fun k_ => some k_ ≠ (aH : Value).ownBlock) u8 aA) ∧ Aside0 (Kd.R (Kd.int .i64) 3 wc w.heap.size (fun k_ => some k_ ≠ (u8 : Value).ownBlock) aH a6) ∧ Aside0 (wc.heap[aG]? = some (.cells #[.int .i64 ((kA l0 a0).f0), .int .i64 ((kA l0 a0).f1), .int .i64 ((kA l0 a0).f2), .int .i64 ((kA l0 a0).f3), .int .i64 ((kA l0 a0).f4), .int .i64 ((kA l0 a0).f5)] 31 (0, 0))) ∧ Aside0 (Below w.heap.size w wc))
   case first =>
    have H := bV.out
    clear bV
    by_cases bE : ((kA l0 a0).f0) = 1
    ·rw [if_pos bE] at H
     have dA : (((kA l0 a0).f0) == 1) = true := beq_iff_eq.mpr bE
     have d9 : (((kA l0 a0).f0) != 1) = false := bne_eq_false_iff_eq.mpr bE
     clear bE
     replace H := am H
     have eL := cf6 a2.out
     go_wp2
     repeat (go_quiet (fail); try go_wp2)
     go_meet
     case rel => exact ⟨_, ((((kA l0 a0).f2) == aD)), rfl, H, ⟨by have := aJ.out; have := aE.out; omega⟩, ⟨by (with_reducible repeat (first | apply Kd.S_alloc | apply Kd.S_drewN | apply Kd.S_drew)); exact a1.out⟩, ⟨sR <| a7.out⟩, ⟨sR <| a5.out⟩, ⟨sB <| a2.out⟩, ⟨bW⟩⟩
    rw [if_neg bE] at H
    have dA : (((kA l0 a0).f0) == 1) = false := beq_eq_false_iff_ne.mpr bE
    have d9 : (((kA l0 a0).f0) != 1) = true := bne_iff_ne.mpr bE
    replace H := am H
    have eK := cf6 a2.out
    go_wp2
    repeat (go_quiet (fail); try go_wp2)
    go_meet
    case rel => exact ⟨_, false, rfl, H, ⟨by have := aJ.out; have := aE.out; omega⟩, ⟨by (with_reducible repeat (first | apply Kd.S_alloc | apply Kd.S_drewN | apply Kd.S_drew)); exact a1.out⟩, ⟨sR <| a7.out⟩, ⟨sR <| a5.out⟩, ⟨sB <| a2.out⟩, ⟨bW⟩⟩
   clear bV
   clear cK
   obtain ⟨kq, b4, rfl, HA, aQ, a1, a7, a5, a2, HB⟩ := hcut
   cases kq with
   | zero => cases HA.out
   | succ e6 =>
    obtain ⟨H⟩ := HA
    simp only [tS] at H
    have bU := am H; clear H
    go_upto_if 41 with (fail)
    repeat (go_quiet (fail); go_upto_if 41 with (fail))
    go_cut [11] (fun cW wc => ∃ (kq : Nat) (aY : Int), cW = .int .i64 aY ∧ Aside0 (tR kq l0 l1 a3 a0 aA a6 aD aY ((kA l0 a0).f0) ((kA l0 a0).f1) ((kA l0 a0).f2) ((kA l0 a0).f3) ((kA l0 a0).f4) ((kA l0 a0).f5) = some r) ∧ Aside0 (kq ≤ e6) ∧ Aside0 (Kd.S (Kd.slice 3 (Kd.int .i64)) 25 wc w.heap.size (fun k_ => some k_ ≠ (u8 : Value).ownBlock ∧ some k_ ≠ (aH : Value).ownBlock) u5 a3) ∧ Aside0 (Kd.R (Kd.int .i64) 3 wc w.heap.size (fun k_ => some k_ ≠ (aH : Value).ownBlock) u8 aA) ∧ Aside0 (Kd.R (Kd.int .i64) 3 wc w.heap.size (fun k_ => some k_ ≠ (u8 : Value).ownBlock) aH a6) ∧ Aside0 (wc.heap[aG]? = some (.cells #[.int .i64 ((kA l0 a0).f0), .int .i64 ((kA l0 a0).f1), .int .i64 ((kA l0 a0).f2), .int .i64 ((kA l0 a0).f3), .int .i64 ((kA l0 a0).f4), .int .i64 ((kA l0 a0).f5)] 31 (0, 0))) ∧ Aside0 (Below w.heap.size w wc))
    case first =>
     have H := bU.out
     clear bU
     replace H := iB H; rcases H with ⟨rfl, H⟩ | ⟨rfl, H⟩
     ·replace H := oA H; obtain ⟨e3, eX, H⟩ := H
      replace H := am H
      have eJ := cf6 a2.out
      go_wp2_with (first | (go_at_call 81; refine cD (spec_l01Pow2.calls eX.out) fun nd => ?_; (try exact dq)))
      go_meet
      case rel => exact ⟨_, e3, rfl, H, ⟨by have := aJ.out; have := aE.out; have := aQ.out; omega⟩, ⟨by (with_reducible repeat (first | apply Kd.S_alloc | apply Kd.S_drewN | apply Kd.S_drew)); exact a1.out⟩, ⟨sR <| a7.out⟩, ⟨sR <| a5.out⟩, ⟨sB <| a2.out⟩, ⟨bW⟩⟩
     replace H := am H
     go_wp2
     repeat (go_quiet (fail); try go_wp2)
     go_meet
     case rel => exact ⟨_, 0, rfl, H, ⟨by have := aJ.out; have := aE.out; have := aQ.out; omega⟩, ⟨by (with_reducible repeat (first | apply Kd.S_alloc | apply Kd.S_drewN | apply Kd.S_drew)); exact a1.out⟩, ⟨sR <| a7.out⟩, ⟨sR <| a5.out⟩, ⟨sB <| a2.out⟩, ⟨bW⟩⟩
    clear bU
    obtain ⟨kq, aY, rfl, HA, aR, a1, a7, a5, a2, HB⟩ := hcut
    cases kq with
    | zero => cases HA.out
    | succ cZ =>
     obtain ⟨H⟩ := HA
     simp only [tR] at H
     replace H := am H
     go_wp2
     repeat (go_quiet (fail); try go_wp2)
     go_loopg [11, 12] cZ (fun kq cW eR w' => ∃ (a9 : Int) (aK : Int), cW = .int .i64 a9 ∧ eR = .int .i64 aK ∧ Aside0 (tQ kq l0 l1 a3 a0 aA a6 aD a9 aK ((kA l0 a0).f0) ((kA l0 a0).f1) ((kA l0 a0).f2) ((kA l0 a0).f3) ((kA l0 a0).f4) ((kA l0 a0).f5) = some r) ∧ Aside0 (kq ≤ cZ) ∧ Aside0 (Kd.S (Kd.slice 3 (Kd.int .i64)) 25 w' w.heap.size (fun k_ => some k_ ≠ (u8 : Value).ownBlock ∧ some k_ ≠ (aH : Value).ownBlock) u5 a3) ∧ Aside0 (Kd.R (Kd.int .i64) 3 w' w.heap.size (fun k_ => some k_ ≠ (aH : Value).ownBlock) u8 aA) ∧ Aside0 (Kd.R (Kd.int .i64) 3 w' w.heap.size (fun k_ => some k_ ≠ (u8 : Value).ownBlock) aH a6) ∧ Aside0 (w'.heap[aG]? = some (.cells #[.int .i64 ((kA l0 a0).f0), .int .i64 ((kA l0 a0).f1), .int .i64 ((kA l0 a0).f2), .int .i64 ((kA l0 a0).f3), .int .i64 ((kA l0 a0).f4), .int .i64 ((kA l0 a0).f5)] 31 (0, 0))) ∧ Aside0 (Below w.heap.size w w'))
     case atStart => exact ⟨aY, 0, rfl, rfl, H, ⟨Nat.le_refl _⟩, ⟨by (with_reducible repeat (first | apply Kd.S_alloc | apply Kd.S_drewN | apply Kd.S_drew)); exact a1.out⟩, ⟨sR <| a7.out⟩, ⟨sR <| a5.out⟩, ⟨sB <| a2.out⟩, ⟨bW⟩⟩
     clear H
     obtain ⟨a9, aK, rfl, rfl, HA, aX, a1, a7, a5, a2, HB⟩ := hrel
     cases gk with
     | zero => cases HA.out
     | succ k5 =>
      obtain ⟨H⟩ := HA
      simp only [tQ] at H
      replace H := iD H; rcases H with ⟨cJ, H⟩ | ⟨cJ, H⟩
      ·replace H := iN H; obtain ⟨fF, H⟩ := H
       replace H := iN H; obtain ⟨fE, H⟩ := H
       replace H := iN H; obtain ⟨fD, H⟩ := H
       replace H := iN H; obtain ⟨fC, H⟩ := H
       replace H := iN H; obtain ⟨fB, H⟩ := H
       replace H := am H
       obtain ⟨g6, g1, rfl⟩ := Kd.R_slice a5.out
       obtain ⟨fX, fV, fI, rfl, eE⟩ := ix (Kd.at_int (Kd.R_reads' a5.out).2.2 aK)
       obtain ⟨g5, g0, eA⟩ := Kd.S_slice a1.out
       subst eA
       have bL : 0 ≤ ((rd a6 aK) : Int) := oD (by assumption)
       have bK : (rd a6 aK) < (a3.length : Int) := oD (by assumption)
       obtain ⟨fH, eW, eU, eB, cO, hl834_0, hi834_0⟩ := b8b (Kd.S_reads' a1.out).2.2 (rd a6 aK) bL bK
       cases eB
       obtain ⟨ce834, hce834, hMe834, hcc834⟩ := Kd.S_get a1.out [] (rd a6 aK) bL (by exact bK)
       obtain ⟨ve834_0, rfl, ge834_0⟩ := hMe834
       have hv834_0 := hcc834 0 _ rfl
       rw [Nat.add_zero, show ((Kd.slice 3 (Kd.int .i64))).sz = 1 from rfl, Nat.mul_one] at hv834_0
       replace hv834_0 := oI (hv834_0.symm.trans cO)
       rw [hv834_0] at ge834_0
       have HL834_0 := am (show Kd.R (Kd.int .i64) 3 _ _ _ _ (a0h a3 (rd a6 aK)) from ge834_0)
       clear hv834_0 ge834_0
       clear hcc834 hce834
       have bG := am hi834_0
       have eM := am hl834_0
       clear hi834_0 hl834_0
       replace bL := eq_true bL
       replace bK := eq_true bK
       obtain ⟨fW, fU, fG, rfl, eD⟩ := ix (Kd.at_int (by repeat (first | (with_reducible exact bG.out) | (with_reducible refine Kd.C_alloc ?_ _) | (with_reducible refine Kd.C_drewN ?_ _) | (with_reducible refine Kd.C_drew ?_) | exact bG.out)) aD)
       go_wp2
       repeat (go_quiet (fail); try go_wp2)
       go_roundg k5
       case measure => have := aJ.out; have := aE.out; have := aQ.out; have := aR.out; have := aX.out; omega
       case rel => exact ⟨(Go.bits .or .i64 a9 (rd (a0h a3 (rd a6 aK)) aD)), (wrap64 (aK + 1)), rfl, rfl, H, ⟨by have := aJ.out; have := aE.out; have := aQ.out; have := aR.out; have := aX.out; omega⟩, ⟨by (with_reducible repeat (first | apply Kd.S_alloc | apply Kd.S_drewN | apply Kd.S_drew)); exact a1.out⟩, ⟨sR <| a7.out⟩, ⟨sR <| a5.out⟩, ⟨sB <| a2.out⟩, ⟨bW⟩⟩
      have bT := am H; clear H
      obtain ⟨aV, aU, rfl⟩ := Kd.R_slice a5.out
      go_upto_region 18 with (fail)
      repeat (go_quiet (fail); go_upto_region 18 with (fail))
      go_cut [71] (fun eN wc => ∃ (kq : Nat) (b3 : Bool), eN = .bool b3 ∧ Aside0 (pX kq l0 l1 a3 a0 aA a6 aD a9 b3 ((kA l0 a0).f0) ((kA l0 a0).f1) ((kA l0 a0).f2) ((kA l0 a0).f3) ((kA l0 a0).f4) ((kA l0 a0).f5) = some r) ∧ Aside0 (kq ≤ k5) ∧ Aside0 (Kd.S (Kd.slice 3 (Kd.int .i64)) 25 wc w.heap.size (fun k_ => some k_ ≠ (u8 : Value).ownBlock ∧ some k_ ≠ ((.slice aV a6.length aU) : Value).ownBlock) u5 a3) ∧ Aside0 (Kd.R (Kd.int .i64) 3 wc w.heap.size (fun k_ => some k_ ≠ ((.slice aV a6.length aU) : Value).ownBlock) u8 aA) ∧ Aside0 (Kd.R (Kd.int .i64) 3 wc w.heap.size (fun k_ => some k_ ≠ (u8 : Value).ownBlock) (.slice aV a6.length aU) a6) ∧ Aside0 (wc.heap[aG]? = some (.cells #[.int .i64 ((kA l0 a0).f0), .int .i64 ((kA l0 a0).f1), .int .i64 ((kA l0 a0).f2), .int .i64 ((kA l0 a0).f3), .int .i64 ((kA l0 a0).f4), .int .i64 ((kA l0 a0).f5)] 31 (0, 0))) ∧ Aside0 (Below w.heap.size w wc))
      case first =>
       have H := bT.out
       clear bT
       replace H := oA H; obtain ⟨fT, dX, H⟩ := H
       replace H := iB H; rcases H with ⟨rfl, H⟩ | ⟨rfl, H⟩
       ·replace H := am H
        have eI := cf6 a2.out
        go_wp2_with (first | (go_at_call 50; refine cD (spec_l02Quant.calls dX.out) fun nd => ?_; (try exact dq)))
        go_meet
        case rel => exact ⟨_, ((((kA l0 a0).f2) == aD)), rfl, H, ⟨by have := aJ.out; have := aE.out; have := aQ.out; have := aR.out; have := aX.out; omega⟩, ⟨by (with_reducible repeat (first | apply Kd.S_alloc | apply Kd.S_drewN | apply Kd.S_drew)); exact a1.out⟩, ⟨sR <| a7.out⟩, ⟨sR <| a5.out⟩, ⟨sB <| a2.out⟩, ⟨bW⟩⟩
       replace H := am H
       have eH := cf6 a2.out
       go_wp2_with (first | (go_at_call 50; refine cD (spec_l02Quant.calls dX.out) fun nd => ?_; (try exact dq)))
       go_meet
       case rel => exact ⟨_, false, rfl, H, ⟨by have := aJ.out; have := aE.out; have := aQ.out; have := aR.out; have := aX.out; omega⟩, ⟨by (with_reducible repeat (first | apply Kd.S_alloc | apply Kd.S_drewN | apply Kd.S_drew)); exact a1.out⟩, ⟨sR <| a7.out⟩, ⟨sR <| a5.out⟩, ⟨sB <| a2.out⟩, ⟨bW⟩⟩
      clear bT
      clear cJ
      obtain ⟨kq, b3, rfl, HA, b0, a1, a7, a5, a2, HB⟩ := hcut
      cases kq with
      | zero => cases HA.out
      | succ bR =>
       obtain ⟨H⟩ := HA
       simp only [pX] at H
       replace H := iB H; rcases H with ⟨rfl, H⟩ | ⟨rfl, H⟩
       rotate_left
       ·replace H := iP H; obtain ⟨dT, H⟩ := H
        have dI := am dT
        clear dT
        generalize bZ : aA ++ [a9] = dY at H
        have dB := am bZ.symm; clear bZ
        replace H := am H
        go_wp2_with (first | ((with_reducible refine kW (b := .append) (xs := #[.tmp 81, .tmp 83]) rfl ?_); at_builtin; refine Kd.R_append (Kd.int .i64) (w0 := w) w.heap.size rfl (.tmp 81) (.tmp 83) 25 3 (.int .i64 0) 8 rfl Try.underlying25 a0u rfl (by decide) oM u8 aA a9 [.int .i64 a9] (fun k_ => some k_ ≠ (.slice aV a6.length aU : Value).ownBlock) (fun _ => False) rfl rfl ?aP (fun _ hk => hk.elim) ?aF ?aO ?aB ?aS ?aL ?_; (case aP => exact rfl); (case aB => exact (by exact bW)); (case aF => exact (fun k_ hk => Kd.fresh' (Kd.R_lt (by exact sR <| a5.out)) k_ hk)); (case aO => exact (by exact sR <| a7.out)); (case aS => exact (kE (by exact bW))); (case aL => have := dI.out; omega); intro fM w48 ho hb hg hat; rw [← dB.out] at ho; replace a1 := am (Kd.S_after (ok := (fun k_ => some k_ ≠ (.slice aV a6.length aU : Value).ownBlock)) (by (with_reducible repeat (first | apply Kd.S_alloc | apply Kd.S_drewN | apply Kd.S_drew)); exact Kd.S_mono a1.out (fun _ hk => ⟨hk.2, hk.1⟩)) hg hat); replace a5 := am (Kd.R_after (ok := (fun _ => True)) (by exact sR <| Kd.R_mono a5.out (fun _ hk => ⟨trivial, hk⟩)) hg hat); replace a2 := gG a2 hg a7; replace HB := am hb; have dL := am ho; clear a7; clear ho hb hg hat))
        go_roundg bR
        case measure => have := aJ.out; have := aE.out; have := aQ.out; have := aR.out; have := aX.out; have := b0.out; omega
        case rel => exact ⟨dY, (wrap64 (aD + 1)), rfl, H, ⟨by have := aJ.out; have := aE.out; have := aQ.out; have := aR.out; have := aX.out; have := b0.out; omega⟩, ⟨by (with_reducible repeat (first | apply Kd.S_alloc | apply Kd.S_drewN | apply Kd.S_drew)); exact Kd.S_mono a1.out (fun _ hk => ⟨hk.2, hk.1⟩)⟩, ⟨sR <| dL.out⟩, ⟨sR <| Kd.R_mono a5.out (fun _ hk => hk.2)⟩, ⟨sB <| a2.out⟩, ⟨bW⟩⟩
       by_cases bD : a9 = 0
       ·rw [if_pos bD] at H
        have d8 : (a9 == 0) = true := beq_iff_eq.mpr bD
        have d7 : (a9 != 0) = false := bne_eq_false_iff_eq.mpr bD
        clear bD
        replace H := iP H; obtain ⟨dV, H⟩ := H
        have dK := am dV
        clear dV
        generalize cB : aA ++ [0] = d_ at H
        have dD := am cB.symm; clear cB
        replace H := am H
        go_wp2_with (first | ((with_reducible refine kW (b := .append) (xs := #[.tmp 81, .tmp 83]) rfl ?_); at_builtin; refine Kd.R_append (Kd.int .i64) (w0 := w) w.heap.size rfl (.tmp 81) (.tmp 83) 25 3 (.int .i64 0) 8 rfl Try.underlying25 a0u rfl (by decide) oM u8 aA 0 [.int .i64 0] (fun k_ => some k_ ≠ (.slice aV a6.length aU : Value).ownBlock) (fun _ => False) rfl rfl ?aP (fun _ hk => hk.elim) ?aF ?aO ?aB ?aS ?aL ?_; (case aP => exact rfl); (case aB => exact (by exact bW)); (case aF => exact (fun k_ hk => Kd.fresh' (Kd.R_lt (by exact sR <| a5.out)) k_ hk)); (case aO => exact (by exact sR <| a7.out)); (case aS => exact (kE (by exact bW))); (case aL => have := dK.out; omega); intro fO w40 ho hb hg hat; rw [← dD.out] at ho; replace a1 := am (Kd.S_after (ok := (fun k_ => some k_ ≠ (.slice aV a6.length aU : Value).ownBlock)) (by (with_reducible repeat (first | apply Kd.S_alloc | apply Kd.S_drewN | apply Kd.S_drew)); exact Kd.S_mono a1.out (fun _ hk => ⟨hk.2, hk.1⟩)) hg hat); replace a5 := am (Kd.R_after (ok := (fun _ => True)) (by exact sR <| Kd.R_mono a5.out (fun _ hk => ⟨trivial, hk⟩)) hg hat); replace a2 := gG a2 hg a7; replace HB := am hb; have dN := am ho; clear a7; clear ho hb hg hat))
        go_roundg bR
        case measure => have := aJ.out; have := aE.out; have := aQ.out; have := aR.out; have := aX.out; have := b0.out; omega
        case rel => exact ⟨d_, (wrap64 (aD + 1)), rfl, H, ⟨by have := aJ.out; have := aE.out; have := aQ.out; have := aR.out; have := aX.out; have := b0.out; omega⟩, ⟨by (with_reducible repeat (first | apply Kd.S_alloc | apply Kd.S_drewN | apply Kd.S_drew)); exact Kd.S_mono a1.out (fun _ hk => ⟨hk.2, hk.1⟩)⟩, ⟨sR <| dN.out⟩, ⟨sR <| Kd.R_mono a5.out (fun _ hk => hk.2)⟩, ⟨sB <| a2.out⟩, ⟨bW⟩⟩
       rw [if_neg bD] at H
       have d8 : (a9 == 0) = false := beq_eq_false_iff_ne.mpr bD
       have d7 : (a9 != 0) = true := bne_iff_ne.mpr bD
       replace H := oA H; obtain ⟨b5, dW, H⟩ := H
       by_cases bC : a9 = b5
       ·rw [if_pos bC] at H
        have d6 : (a9 == b5) = true := beq_iff_eq.mpr bC
        have d5 : (a9 != b5) = false := bne_eq_false_iff_eq.mpr bC
        clear bC
        replace H := iP H; obtain ⟨dU, H⟩ := H
        have dJ := am dU
        clear dU
        generalize b_ : aA ++ [0] = dZ at H
        have dC := am b_.symm; clear b_
        replace H := am H
        have eG := cf6 a2.out
        go_wp2_with (first | (go_at_call 81; refine cD (spec_l01Pow2.calls dW.out) fun nd => ?_; (try exact dq)) | ((with_reducible refine kW (b := .append) (xs := #[.tmp 81, .tmp 83]) rfl ?_); at_builtin; refine Kd.R_append (Kd.int .i64) (w0 := w) w.heap.size rfl (.tmp 81) (.tmp 83) 25 3 (.int .i64 0) 8 rfl Try.underlying25 a0u rfl (by decide) oM u8 aA 0 [.int .i64 0] (fun k_ => some k_ ≠ (.slice aV a6.length aU : Value).ownBlock) (fun _ => False) rfl rfl ?aP (fun _ hk => hk.elim) ?aF ?aO ?aB ?aS ?aL ?_; (case aP => exact rfl); (case aB => exact (by exact bW)); (case aF => exact (fun k_ hk => Kd.fresh' (Kd.R_lt (by exact sR <| a5.out)) k_ hk)); (case aO => exact (by exact sR <| a7.out)); (case aS => exact (kE (by exact bW))); (case aL => have := dJ.out; omega); intro fN w45 ho hb hg hat; rw [← dC.out] at ho; replace a1 := am (Kd.S_after (ok := (fun k_ => some k_ ≠ (.slice aV a6.length aU : Value).ownBlock)) (by (with_reducible repeat (first | apply Kd.S_alloc | apply Kd.S_drewN | apply Kd.S_drew)); exact Kd.S_mono a1.out (fun _ hk => ⟨hk.2, hk.1⟩)) hg hat); replace a5 := am (Kd.R_after (ok := (fun _ => True)) (by exact sR <| Kd.R_mono a5.out (fun _ hk => ⟨trivial, hk⟩)) hg hat); replace a2 := gG a2 hg a7; replace HB := am hb; have dM := am ho; clear a7; clear ho hb hg hat))
        go_roundg bR
        case measure => have := aJ.out; have := aE.out; have := aQ.out; have := aR.out; have := aX.out; have := b0.out; omega
        case rel => exact ⟨dZ, (wrap64 (aD + 1)), rfl, H, ⟨by have := aJ.out; have := aE.out; have := aQ.out; have := aR.out; have := aX.out; have := b0.out; omega⟩, ⟨by (with_reducible repeat (first | apply Kd.S_alloc | apply Kd.S_drewN | apply Kd.S_drew)); exact Kd.S_mono a1.out (fun _ hk => ⟨hk.2, hk.1⟩)⟩, ⟨sR <| dM.out⟩, ⟨sR <| Kd.R_mono a5.out (fun _ hk => hk.2)⟩, ⟨sB <| a2.out⟩, ⟨bW⟩⟩
       rw [if_neg bC] at H
       have d6 : (a9 == b5) = false := beq_eq_false_iff_ne.mpr bC
       have d5 : (a9 != b5) = true := bne_iff_ne.mpr bC
       obtain rfl := oI H
       have eF := cf6 a2.out
       go_wp2_with (first | (go_at_call 81; refine cD (spec_l01Pow2.calls dW.out) fun nd => ?_; (try exact dq)))
       go_ret
       exact ⟨rfl, bW⟩
end Go.Proofs.Ytkpipmojkhikaaa.PAll
