/- Written by a program of this session over the loaded program, and by hand: Go functions as plain Lean functions, and that a call comes to what they say. -/
import Derived.Test.YtkpipmojkhikaaaVDenied0
import Derived.Test.YtkpipmojkhikaaaVDenied9
import Derived.Test.YtkpipmojkhikaaaBase
import Derived.Test.YtkpipmojkhikaaaSq
namespace Go.Proofs.Ytkpipmojkhikaaa.PAll
open Go.RowKit Go.Proofs.YtkpipmojkhikaaaW.PrintWords Go.Proofs.YtkpipmojkhikaaaW.PrintLast Go.Proofs.YtkpipmojkhikaaaW.PrintMore Go.Proofs.YtkpipmojkhikaaaW.Sq
attribute [local go_sem] qZ qX sT sS qC qB qY qW
set_option linter.unusedVariables false
set_option maxHeartbeats 8000000
set_option maxRecDepth 100000
set_option linter.unusedSimpArgs false
theorem ir {p q E : Prop} [Decidable p] [Decidable q] (f : p → q → E) (h0 : decide p = true := by first | with_reducible assumption | assumption) (h1 : decide q = true := by first | with_reducible assumption | assumption) : (p = True) ∧ (q = True) ∧ E := ix f h0 h1
def xA (a0 : Int) (a6 : Int) (a5 : Int) (a4 : Int) (a3 : Int) (a2 : Int) : Option (Bool) := if a0 = 2 then (some true) else (if a0 = 3 then (some true) else (if a0 = 4 then (some true) else ((pO a0 a6 a5 a4 a3 a2).bind fun a1 => (some a1))))
theorem b3h {P : Prop} (h : P := by
 obtain rfl := oI H
 go_enter Try.func130, Try.ntmps130
 go_wp2_with (first | ((with_reducible refine gW ?_); first | (refine bX 1 31 #[.int .i64 a6, .int .i64 a5, .int .i64 a4, .int .i64 a3, .int .i64 a2, .int .i64 a1] ?_; intro a7 hg aK hbox hb; have a0 := am hbox; have a8 := gw hg; have a9 := gw hg; replace HB := hB HB hb; clear hb hbox hg; have aJ := cf6 a0.out)))
 go_ret
 exact ⟨rfl, bW⟩) : P := h
theorem impl_leads.calls {a6 a5 a4 a3 a2 a1 : Int} {r : Bool} {w : World} (h : xA a6 a5 a4 a3 a2 a1 = some r) :
  Calls Try.prog 130 #[.agg #[.int .i64 a6, .int .i64 a5, .int .i64 a4, .int .i64 a3, .int .i64 a2, .int .i64 a1]] w fun e w' => e = .returned (.bool r) ∧ Below w.heap.size w w' := by
 have hu31 := Try.underlying31
 have HB := am (Below.refl w.heap.size w)
 have H := h
 clear h
 unfold xA at H
 replace H := iE H; rcases H with ⟨aF, aE, H⟩ | ⟨aF, aE, H⟩
 ·exact b3h
 replace H := iE H; rcases H with ⟨aD, aC, H⟩ | ⟨aD, aC, H⟩
 ·exact b3h
 replace H := iE H; rcases H with ⟨aB, aA, H⟩ | ⟨aB, aA, H⟩
 ·exact b3h
 replace H := oA H; obtain ⟨aI, aH, H⟩ := H
 obtain rfl := oI H
 go_enter Try.func130, Try.ntmps130
 go_wp2_with (first | (go_at_call 53; refine (impl_isQuant.calls _ _ aH.out).mono ?_; rintro e w14 ⟨rfl, hb⟩; replace a0 := gB a0 hb; replace HB := hX hb; (try clear hb)) | ((with_reducible refine gW ?_); first | (refine bX 1 31 #[.int .i64 a6, .int .i64 a5, .int .i64 a4, .int .i64 a3, .int .i64 a2, .int .i64 a1] ?_; intro a7 hg w12 hbox hb; have a0 := am hbox; have a8 := gw hg; have a9 := gw hg; replace HB := hB HB hb; clear hb hbox hg; have aG := cf6 a0.out)))
 go_ret
 exact ⟨rfl, bW⟩
mutual
def uG : Nat → List (S31) → List Bool → List Int → List Bool → List (S31) → Int → Int → Option (Bool)
 | 0, _, _, _, _, _, _, _ => none
 | k + 1, x0, x1, x5, x6, a1, aB, a0 => if a0 < aB then (if 0 ≤ a0 then (if a0 < (a1.length : Int) then (if a0 < (x1.length : Int) then (if vU false x1 a0 = true then ((vX k ((kA a1 a0).f0) ((kA a1 a0).f1) ((kA a1 a0).f2) ((kA a1 a0).f3) ((kA a1 a0).f4) ((kA a1 a0).f5)).bind fun aH => (qE k x0 x1 x5 x6 a0 a1 aB a0 aH (aH.length : Int) 0 ((kA a1 a0).f0) ((kA a1 a0).f1) ((kA a1 a0).f2) ((kA a1 a0).f3) ((kA a1 a0).f4) ((kA a1 a0).f5))) else (uG k x0 x1 x5 x6 a1 aB (wrap64 (a0 + 1)))) else (none)) else (none)) else (none)) else (tG k x1 x5 x0 (x0.length : Int) 0)
def qE : Nat → List (S31) → List Bool → List Int → List Bool → Int → List (S31) → Int → Int → List Int → Int → Int → Int → Int → Int → Int → Int → Int → Option (Bool)
 | 0, _, _, _, _, _, _, _, _, _, _, _, _, _, _, _, _, _ => none
 | k + 1, x0, x1, x5, x6, x7, a1, aB, a0, a9, aE, a2, a8, a7, a6, a5, a4, a3 => if a2 < aE then (if 0 ≤ a2 then (if a2 < (a9.length : Int) then (if 0 ≤ (rd a9 a2) then (if (rd a9 a2) < (x5.length : Int) then ((some (x5.set ((rd a9 a2) : Int).toNat (wrap64 ((rd x5 (rd a9 a2)) + 1)) : List Int)).bind fun aD => (if (rd a9 a2) < (x6.length : Int) then (if vU false x6 (rd a9 a2) = true then ((xA a8 a7 a6 a5 a4 a3).bind fun aK => (if aK = true then (if 0 ≤ x7 then (if x7 < (x6.length : Int) then (if vU false x6 x7 = true then (qE k x0 x1 aD (x6.set (x7 : Int).toNat true) x7 a1 aB a0 a9 aE (wrap64 (a2 + 1)) a8 a7 a6 a5 a4 a3) else (qE k x0 x1 aD (x6.set (x7 : Int).toNat true) x7 a1 aB a0 a9 aE (wrap64 (a2 + 1)) a8 a7 a6 a5 a4 a3)) else (none)) else (none)) else (some false))) else (if (rd a9 a2) < (x0.length : Int) then ((pO ((kA x0 (rd a9 a2)).f0) ((kA x0 (rd a9 a2)).f1) ((kA x0 (rd a9 a2)).f2) ((kA x0 (rd a9 a2)).f3) ((kA x0 (rd a9 a2)).f4) ((kA x0 (rd a9 a2)).f5)).bind fun aF => (if aF = true then ((xA a8 a7 a6 a5 a4 a3).bind fun aJ => (if aJ = true then (if 0 ≤ x7 then (if x7 < (x6.length : Int) then (if vU false x6 x7 = true then (qE k x0 x1 aD (x6.set (x7 : Int).toNat true) x7 a1 aB a0 a9 aE (wrap64 (a2 + 1)) a8 a7 a6 a5 a4 a3) else (qE k x0 x1 aD (x6.set (x7 : Int).toNat aF) x7 a1 aB a0 a9 aE (wrap64 (a2 + 1)) a8 a7 a6 a5 a4 a3)) else (none)) else (none)) else (some false))) else (if 0 ≤ x7 then (if x7 < (x6.length : Int) then (if vU false x6 x7 = true then (qE k x0 x1 aD (x6.set (x7 : Int).toNat true) x7 a1 aB a0 a9 aE (wrap64 (a2 + 1)) a8 a7 a6 a5 a4 a3) else (qE k x0 x1 aD (x6.set (x7 : Int).toNat aF) x7 a1 aB a0 a9 aE (wrap64 (a2 + 1)) a8 a7 a6 a5 a4 a3)) else (none)) else (none)))) else (none))) else (none))) else (none)) else (none)) else (none)) else (none)) else (uG k x0 x1 x5 x6 a1 aB (wrap64 (a0 + 1)))
def tG : Nat → List Bool → List Int → List (S31) → Int → Int → Option (Bool)
 | 0, _, _, _, _, _ => none
 | k + 1, x1, x5, aC, aG, aA => if aA < aG then (if 0 ≤ aA then (if aA < (aC.length : Int) then (if aA < (x1.length : Int) then (if vU false x1 aA = true then ((pO ((kA aC aA).f0) ((kA aC aA).f1) ((kA aC aA).f2) ((kA aC aA).f3) ((kA aC aA).f4) ((kA aC aA).f5)).bind fun aI => (if aI = true then (if aA < (x5.length : Int) then (if (rd x5 aA) > 1 then (some false) else (tG k x1 x5 aC aG (wrap64 (aA + 1)))) else (none)) else (tG k x1 x5 aC aG (wrap64 (aA + 1))))) else (tG k x1 x5 aC aG (wrap64 (aA + 1)))) else (none)) else (none)) else (none)) else (some true)
end
def zG (k : Nat) (l0 : List (S31)) (l1 : List Bool) : Option (Bool) := if 0 ≤ (l0.length : Int) then (if ((l0.length : Int) : Int).toNat ≤ 35184372088832 then (if ((l0.length : Int) : Int).toNat ≤ 281474976710656 then (uG k l0 l1 (List.replicate ((l0.length : Int) : Int).toNat 0) (List.replicate ((l0.length : Int) : Int).toNat false) l0 (l0.length : Int) 0) else (none)) else (none)) else (none)
theorem b9i {P : Prop} (h : P := by
 go_roundg k2
 case measure => have := b6.out; have := b8.out; omega
 case rel => exact ⟨(wrap64 (a9 + 1)), rfl, H, ⟨by have := b6.out; have := b8.out; omega⟩, ⟨sR <| a1.out⟩, ⟨bW⟩⟩) : P := h
theorem impl_onWay.calls {k : Nat} {A0 : Option Addr} {c0 : Nat} {l0 : List (S31)} {A1 : Option Addr} {c1 : Nat} {l1 : List Bool} {r : Bool} {w : World} (hr0 : Kd.C k31 w A0 l0.length l0) (hc0 : l0.length ≤ c0) (hr1 : Kd.C Kd.bool w A1 l1.length l1) (hc1 : l1.length ≤ c1) (h : zG k l0 l1 = some r) :
  Calls Try.prog 104 #[.slice A0 l0.length c0, .slice A1 l1.length c1] w fun e w' => e = .returned (.bool r) ∧ Below w.heap.size w w' := by
 have hu31 := Try.underlying31
 have bJ := am hr0
 have jL := am hc0
 clear hr0 hc0
 have cX := am hr1
 have jK := am hc1
 clear hr1 hc1
 have HB := am (Below.refl w.heap.size w)
 have H := h
 clear h
 unfold zG at H
 replace H := iTD H; obtain ⟨gY, gX, H⟩ := H
 replace H := iTD H; obtain ⟨gV, gU, H⟩ := H
 generalize eG : (List.replicate ((l0.length : Int) : Int).toNat 0 : List Int) = g3 at H
 have fY := am eG.symm; clear eG
 replace H := iTD H; obtain ⟨gR, gQ, H⟩ := H
 generalize eF : List.replicate ((l0.length : Int) : Int).toNat false = g2 at H
 have fX := am eF.symm; clear eF
 replace H := am H
 go_enter Try.func104, Try.ntmps104
 go_wp2_with (first | ((with_reducible refine qF (N := 16) rfl ?_); refine Kd.R_make (Kd.int .i64) _ 3 rfl (N := 16) rfl 25 _ _ rfl (l0.length : Int) rfl rfl Try.underlying25 (.int .i64 0) 8 a0u rfl (by decide) oM 0 (ok := fun _ => True) (okp := fun _ => True) rfl (fun _ hk => hk) trivial (oD (by (with_reducible assumption))) (Nat.le_trans (Nat.mul_le_mul_right _ (oD (by (with_reducible assumption)) : (l0.length : Int).toNat ≤ 35184372088832)) oM) (Below.refl _ _) (Nat.le_refl _) ?_; intro cY w6 f9 hb hg_ hnew_; clear hg_ hnew_; (rw [← fY.out] at f9); have dH := rL f9 HB; replace HB := hB HB hb; clear hb f9) | ((with_reducible refine qF (N := 19) rfl ?_); refine Kd.R_make Kd.bool _ 4 rfl (N := 19) rfl 76 _ _ rfl (l0.length : Int) rfl rfl Try.underlying76 (.bool false) 1 a7p rfl (by decide) oM false (ok := fun _ => True) (okp := fun _ => True) rfl (fun _ hk => hk) trivial (oD (by (with_reducible assumption))) (Nat.le_trans (Nat.mul_le_mul_right _ (oD (by (with_reducible assumption)) : (l0.length : Int).toNat ≤ 281474976710656)) oM) (Below.refl _ _) (Nat.le_refl _) ?_; intro eS w8 f8 hb hg_ hnew_; clear hg_ hnew_; (rw [← fX.out] at f8); replace dH := rB dH hb; have fZ := rL f8 HB; replace HB := hB HB hb; clear hb f8))
 go_loopg [22] k (fun kq hD w' => ∃ (bD : List Int) (cM : List Bool) (a2 : Int), hD = .int .i64 a2 ∧ Aside0 (uG kq l0 l1 bD cM l0 (l0.length : Int) a2 = some r) ∧ Aside0 (kq ≤ k) ∧ Aside0 (Kd.R (Kd.int .i64) 3 w' w.heap.size (fun _ => True) cY bD) ∧ Aside0 (Kd.R Kd.bool 4 w' w.heap.size (fun _ => True) eS cM) ∧ Aside0 (Below w.heap.size w w'))
 case atStart => exact ⟨g3, g2, 0, rfl, H, ⟨Nat.le_refl _⟩, ⟨sR <| dH.out⟩, ⟨sR <| fZ.out⟩, ⟨sW HB.out⟩⟩
 clear H
 clear gY gX gV gU gR gQ
 obtain ⟨bD, cM, a2, rfl, HA, b6, a1, a3, HB⟩ := hrel
 cases gk with
 | zero => cases HA.out
 | succ k1 =>
  obtain ⟨H⟩ := HA
  simp only [uG] at H
  replace H := iD H; rcases H with ⟨d8, H⟩ | ⟨d8, H⟩
  rotate_left
  ·replace H := am H
   go_wp2
   go_loopg [76] k1 (fun kq hA w' => ∃ (a9 : Int), hA = .int .i64 a9 ∧ Aside0 (tG kq l1 bD l0 (l0.length : Int) a9 = some r) ∧ Aside0 (kq ≤ k1) ∧ Aside0 (Kd.R (Kd.int .i64) 3 w' w.heap.size (fun _ => True) cY bD) ∧ Aside0 (Below w.heap.size w w'))
   case atStart => exact ⟨0, rfl, H, ⟨Nat.le_refl _⟩, ⟨sR <| a1.out⟩, ⟨sW HB.out⟩⟩
   clear H
   clear d8
   obtain ⟨a9, rfl, HA, b8, a1, HB⟩ := hrel
   cases gk with
   | zero => cases HA.out
   | succ k2 =>
    obtain ⟨H⟩ := HA
    simp only [tG] at H
    replace H := iD H; rcases H with ⟨fG, H⟩ | ⟨fG, H⟩
    rotate_left
    ·obtain rfl := oI H
     go_wp2
     go_ret
     exact ⟨rfl, sW HB.out⟩
    replace H := iN H; obtain ⟨hN, H⟩ := H
    replace H := iN H; obtain ⟨hM, H⟩ := H
    replace H := iN H; obtain ⟨hL, H⟩ := H
    generalize hbq122 : vU false l1 a9 = i9 at H
    have bV := am hbq122.symm; clear hbq122
    replace H := iB H; rcases H with ⟨rfl, H⟩ | ⟨rfl, H⟩
    rotate_left
    ·replace H := am H
     obtain ⟨dN, dK, d9, rfl, cF, cE, cC, cB, b_, bZ⟩ := ir (oZ (Kd.C_below bJ.out HB.out) a9)
     go_wp2_with (first | ((with_reducible refine gW ?_); first | (refine bX 13 31 #[.int .i64 0, .int .i64 0, .int .i64 0, .int .i64 0, .int .i64 0, .int .i64 0] ?_; intro aA hg w139 hbox hb; replace a1 := rB a1 hb; have aT := am hbox; have aH := gw hg; have dI := gw hg; replace HB := hB HB hb; clear hb hbox hg; have gH := cf6 aT.out; have b3 : 0 ≤ (a9 : Int) := oD (by (with_reducible assumption)); have b2 : a9 < (l1.length : Int) := oD (by (with_reducible assumption)); obtain ⟨aG, bR, a0⟩ := Kd.at_bool cX.out a9 b3 b2; (try rw [← bV.out] at a0); cases bR; have hn756_0 : aG.block ≠ aA := Nat.ne_of_lt (Nat.lt_of_lt_of_le (by have := World.block_lt_of_cell? _ _ a0; rwa [kF] at this) aH.out); have hn756_1 : aG.block ≠ aA := Nat.ne_of_lt (Nat.lt_of_lt_of_le (by have := World.block_lt_of_cell? _ _ a0; rwa [kF] at this) aH.out); have hn756_2 : aG.block ≠ aA := Nat.ne_of_lt (Nat.lt_of_lt_of_le (by have := World.block_lt_of_cell? _ _ a0; rwa [kF] at this) aH.out); have hn756_3 : aG.block ≠ aA := Nat.ne_of_lt (Nat.lt_of_lt_of_le (by have := World.block_lt_of_cell? _ _ a0; rwa [kF] at this) aH.out); have hn756_4 : aG.block ≠ aA := Nat.ne_of_lt (Nat.lt_of_lt_of_le (by have := World.block_lt_of_cell? _ _ a0; rwa [kF] at this) aH.out); have hn756_5 : aG.block ≠ aA := Nat.ne_of_lt (Nat.lt_of_lt_of_le (by have := World.block_lt_of_cell? _ _ a0; rwa [kF] at this) aH.out); replace a0 := kC HB.out a0; replace a0 := (kH (p := ⟨aA, 0, none⟩) (by (rw [kF]; exact hn756_0)) (.int .i64 ((kA l0 a9).f0))).trans a0; replace a0 := (kH (p := ⟨aA, 1, none⟩) (by (rw [kF]; exact hn756_1)) (.int .i64 ((kA l0 a9).f1))).trans a0; replace a0 := (kH (p := ⟨aA, 2, none⟩) (by (rw [kF]; exact hn756_2)) (.int .i64 ((kA l0 a9).f2))).trans a0; replace a0 := (kH (p := ⟨aA, 3, none⟩) (by (rw [kF]; exact hn756_3)) (.int .i64 ((kA l0 a9).f3))).trans a0; replace a0 := (kH (p := ⟨aA, 4, none⟩) (by (rw [kF]; exact hn756_4)) (.int .i64 ((kA l0 a9).f4))).trans a0; replace a0 := (kH (p := ⟨aA, 5, none⟩) (by (rw [kF]; exact hn756_5)) (.int .i64 ((kA l0 a9).f5))).trans a0; clear hn756_0; clear hn756_1; clear hn756_2; clear hn756_3; clear hn756_4; clear hn756_5; replace b3 := eq_true b3; replace b2 := eq_true b2)))
     go_roundg k2
     case measure => have := b6.out; have := b8.out; omega
     case rel => exact ⟨(wrap64 (a9 + 1)), rfl, H, ⟨by have := b6.out; have := b8.out; omega⟩, ⟨sR <| Kd.R_mono (Kd.R_far (p := ⟨aA, 5, none⟩) (Kd.R_far (p := ⟨aA, 4, none⟩) (Kd.R_far (p := ⟨aA, 3, none⟩) (Kd.R_far (p := ⟨aA, 2, none⟩) (Kd.R_far (p := ⟨aA, 1, none⟩) (Kd.R_far (p := ⟨aA, 0, none⟩) (Kd.R_types a1.out aT.out (by decide)) (fun _ hk => hk.2) (.int .i64 ((kA l0 a9).f0))) (fun _ hk => hk.2) (.int .i64 ((kA l0 a9).f1))) (fun _ hk => hk.2) (.int .i64 ((kA l0 a9).f2))) (fun _ hk => hk.2) (.int .i64 ((kA l0 a9).f3))) (fun _ hk => hk.2) (.int .i64 ((kA l0 a9).f4))) (fun _ hk => hk.2) (.int .i64 ((kA l0 a9).f5))) (fun _ hk => trivial)⟩, ⟨bW⟩⟩
    replace H := oA H; obtain ⟨iK, e8, H⟩ := H
    replace H := iB H; rcases H with ⟨rfl, H⟩ | ⟨rfl, H⟩
    ·replace H := iN H; obtain ⟨hK, H⟩ := H
     by_cases cG : (rd bD a9) > 1
     ·rw [if_pos cG] at H
      have fF : decide (1 < (rd bD a9)) = true := decide_eq_true cG
      clear cG
      obtain rfl := oI H
      obtain ⟨dN, dK, d9, rfl, cF, cE, cC, cB, b_, bZ⟩ := ir (oZ (Kd.C_below bJ.out HB.out) a9)
      go_wp2_with (first | (go_at_call 53; refine (impl_isQuant.calls _ _ e8.out).mono ?_; rintro e w130 ⟨rfl, hb⟩; replace a1 := am (Kd.R_below (by exact sR <| (rm (rf 5 (rf 4 (rf 3 (rf 2 (rf 1 (rf 0 (ry a1 aT))))))))) hb); replace aT := am (kM (by exact sB <| pn (by exact sB <| aT.out)) hb); replace HB := hX hb; (try clear hb); obtain ⟨iC, hU, rfl⟩ := Kd.R_slice a1.out; obtain ⟨g8, g4, fQ, rfl, eK⟩ := ir (Kd.at_int (Kd.R_reads' a1.out).2.2 a9)) | ((with_reducible refine gW ?_); first | (refine bX 13 31 #[.int .i64 0, .int .i64 0, .int .i64 0, .int .i64 0, .int .i64 0, .int .i64 0] ?_; intro aA hg w128 hbox hb; replace a1 := rB a1 hb; have aT := am hbox; have aH := gw hg; have dI := gw hg; replace HB := hB HB hb; clear hb hbox hg; have gK := cf6 aT.out; have b3 : 0 ≤ (a9 : Int) := oD (by (with_reducible assumption)); have b2 : a9 < (l1.length : Int) := oD (by (with_reducible assumption)); obtain ⟨aG, bR, a0⟩ := Kd.at_bool cX.out a9 b3 b2; (try rw [← bV.out] at a0); cases bR; have hn756_0 : aG.block ≠ aA := Nat.ne_of_lt (Nat.lt_of_lt_of_le (by have := World.block_lt_of_cell? _ _ a0; rwa [kF] at this) aH.out); have hn756_1 : aG.block ≠ aA := Nat.ne_of_lt (Nat.lt_of_lt_of_le (by have := World.block_lt_of_cell? _ _ a0; rwa [kF] at this) aH.out); have hn756_2 : aG.block ≠ aA := Nat.ne_of_lt (Nat.lt_of_lt_of_le (by have := World.block_lt_of_cell? _ _ a0; rwa [kF] at this) aH.out); have hn756_3 : aG.block ≠ aA := Nat.ne_of_lt (Nat.lt_of_lt_of_le (by have := World.block_lt_of_cell? _ _ a0; rwa [kF] at this) aH.out); have hn756_4 : aG.block ≠ aA := Nat.ne_of_lt (Nat.lt_of_lt_of_le (by have := World.block_lt_of_cell? _ _ a0; rwa [kF] at this) aH.out); have hn756_5 : aG.block ≠ aA := Nat.ne_of_lt (Nat.lt_of_lt_of_le (by have := World.block_lt_of_cell? _ _ a0; rwa [kF] at this) aH.out); replace a0 := kC HB.out a0; replace a0 := (kH (p := ⟨aA, 0, none⟩) (by (rw [kF]; exact hn756_0)) (.int .i64 ((kA l0 a9).f0))).trans a0; replace a0 := (kH (p := ⟨aA, 1, none⟩) (by (rw [kF]; exact hn756_1)) (.int .i64 ((kA l0 a9).f1))).trans a0; replace a0 := (kH (p := ⟨aA, 2, none⟩) (by (rw [kF]; exact hn756_2)) (.int .i64 ((kA l0 a9).f2))).trans a0; replace a0 := (kH (p := ⟨aA, 3, none⟩) (by (rw [kF]; exact hn756_3)) (.int .i64 ((kA l0 a9).f3))).trans a0; replace a0 := (kH (p := ⟨aA, 4, none⟩) (by (rw [kF]; exact hn756_4)) (.int .i64 ((kA l0 a9).f4))).trans a0; replace a0 := (kH (p := ⟨aA, 5, none⟩) (by (rw [kF]; exact hn756_5)) (.int .i64 ((kA l0 a9).f5))).trans a0; clear hn756_0; clear hn756_1; clear hn756_2; clear hn756_3; clear hn756_4; clear hn756_5; replace b3 := eq_true b3; replace b2 := eq_true b2)))
      go_ret
      exact ⟨rfl, bW⟩
     rw [if_neg cG] at H
     have fF : decide (1 < (rd bD a9)) = false := decide_eq_false cG
     clear cG
     replace H := am H
     obtain ⟨dN, dK, d9, rfl, cF, cE, cC, cB, b_, bZ⟩ := ir (oZ (Kd.C_below bJ.out HB.out) a9)
     go_wp2_with (first | (go_at_call 53; refine (impl_isQuant.calls _ _ e8.out).mono ?_; rintro e w134 ⟨rfl, hb⟩; replace a1 := am (Kd.R_below (by exact sR <| (rm (rf 5 (rf 4 (rf 3 (rf 2 (rf 1 (rf 0 (ry a1 aT))))))))) hb); replace aT := am (kM (by exact sB <| pn (by exact sB <| aT.out)) hb); replace HB := hX hb; (try clear hb); obtain ⟨iA, hT, rfl⟩ := Kd.R_slice a1.out; obtain ⟨g8, g4, fQ, rfl, eK⟩ := ir (Kd.at_int (Kd.R_reads' a1.out).2.2 a9)) | ((with_reducible refine gW ?_); first | (refine bX 13 31 #[.int .i64 0, .int .i64 0, .int .i64 0, .int .i64 0, .int .i64 0, .int .i64 0] ?_; intro aA hg w132 hbox hb; replace a1 := rB a1 hb; have aT := am hbox; have aH := gw hg; have dI := gw hg; replace HB := hB HB hb; clear hb hbox hg; have gJ := cf6 aT.out; have b3 : 0 ≤ (a9 : Int) := oD (by (with_reducible assumption)); have b2 : a9 < (l1.length : Int) := oD (by (with_reducible assumption)); obtain ⟨aG, bR, a0⟩ := Kd.at_bool cX.out a9 b3 b2; (try rw [← bV.out] at a0); cases bR; have hn756_0 : aG.block ≠ aA := Nat.ne_of_lt (Nat.lt_of_lt_of_le (by have := World.block_lt_of_cell? _ _ a0; rwa [kF] at this) aH.out); have hn756_1 : aG.block ≠ aA := Nat.ne_of_lt (Nat.lt_of_lt_of_le (by have := World.block_lt_of_cell? _ _ a0; rwa [kF] at this) aH.out); have hn756_2 : aG.block ≠ aA := Nat.ne_of_lt (Nat.lt_of_lt_of_le (by have := World.block_lt_of_cell? _ _ a0; rwa [kF] at this) aH.out); have hn756_3 : aG.block ≠ aA := Nat.ne_of_lt (Nat.lt_of_lt_of_le (by have := World.block_lt_of_cell? _ _ a0; rwa [kF] at this) aH.out); have hn756_4 : aG.block ≠ aA := Nat.ne_of_lt (Nat.lt_of_lt_of_le (by have := World.block_lt_of_cell? _ _ a0; rwa [kF] at this) aH.out); have hn756_5 : aG.block ≠ aA := Nat.ne_of_lt (Nat.lt_of_lt_of_le (by have := World.block_lt_of_cell? _ _ a0; rwa [kF] at this) aH.out); replace a0 := kC HB.out a0; replace a0 := (kH (p := ⟨aA, 0, none⟩) (by (rw [kF]; exact hn756_0)) (.int .i64 ((kA l0 a9).f0))).trans a0; replace a0 := (kH (p := ⟨aA, 1, none⟩) (by (rw [kF]; exact hn756_1)) (.int .i64 ((kA l0 a9).f1))).trans a0; replace a0 := (kH (p := ⟨aA, 2, none⟩) (by (rw [kF]; exact hn756_2)) (.int .i64 ((kA l0 a9).f2))).trans a0; replace a0 := (kH (p := ⟨aA, 3, none⟩) (by (rw [kF]; exact hn756_3)) (.int .i64 ((kA l0 a9).f3))).trans a0; replace a0 := (kH (p := ⟨aA, 4, none⟩) (by (rw [kF]; exact hn756_4)) (.int .i64 ((kA l0 a9).f4))).trans a0; replace a0 := (kH (p := ⟨aA, 5, none⟩) (by (rw [kF]; exact hn756_5)) (.int .i64 ((kA l0 a9).f5))).trans a0; clear hn756_0; clear hn756_1; clear hn756_2; clear hn756_3; clear hn756_4; clear hn756_5; replace b3 := eq_true b3; replace b2 := eq_true b2)))
     exact b9i
    replace H := am H
    obtain ⟨dN, dK, d9, rfl, cF, cE, cC, cB, b_, bZ⟩ := ir (oZ (Kd.C_below bJ.out HB.out) a9)
    go_wp2_with (first | (go_at_call 53; refine (impl_isQuant.calls _ _ e8.out).mono ?_; rintro e w138 ⟨rfl, hb⟩; replace a1 := am (Kd.R_below (by exact sR <| (rm (rf 5 (rf 4 (rf 3 (rf 2 (rf 1 (rf 0 (ry a1 aT))))))))) hb); replace aT := am (kM (by exact sB <| pn (by exact sB <| aT.out)) hb); replace HB := hX hb; (try clear hb)) | ((with_reducible refine gW ?_); first | (refine bX 13 31 #[.int .i64 0, .int .i64 0, .int .i64 0, .int .i64 0, .int .i64 0, .int .i64 0] ?_; intro aA hg w136 hbox hb; replace a1 := rB a1 hb; have aT := am hbox; have aH := gw hg; have dI := gw hg; replace HB := hB HB hb; clear hb hbox hg; have gI := cf6 aT.out; have b3 : 0 ≤ (a9 : Int) := oD (by (with_reducible assumption)); have b2 : a9 < (l1.length : Int) := oD (by (with_reducible assumption)); obtain ⟨aG, bR, a0⟩ := Kd.at_bool cX.out a9 b3 b2; (try rw [← bV.out] at a0); cases bR; have hn756_0 : aG.block ≠ aA := Nat.ne_of_lt (Nat.lt_of_lt_of_le (by have := World.block_lt_of_cell? _ _ a0; rwa [kF] at this) aH.out); have hn756_1 : aG.block ≠ aA := Nat.ne_of_lt (Nat.lt_of_lt_of_le (by have := World.block_lt_of_cell? _ _ a0; rwa [kF] at this) aH.out); have hn756_2 : aG.block ≠ aA := Nat.ne_of_lt (Nat.lt_of_lt_of_le (by have := World.block_lt_of_cell? _ _ a0; rwa [kF] at this) aH.out); have hn756_3 : aG.block ≠ aA := Nat.ne_of_lt (Nat.lt_of_lt_of_le (by have := World.block_lt_of_cell? _ _ a0; rwa [kF] at this) aH.out); have hn756_4 : aG.block ≠ aA := Nat.ne_of_lt (Nat.lt_of_lt_of_le (by have := World.block_lt_of_cell? _ _ a0; rwa [kF] at this) aH.out); have hn756_5 : aG.block ≠ aA := Nat.ne_of_lt (Nat.lt_of_lt_of_le (by have := World.block_lt_of_cell? _ _ a0; rwa [kF] at this) aH.out); replace a0 := kC HB.out a0; replace a0 := (kH (p := ⟨aA, 0, none⟩) (by (rw [kF]; exact hn756_0)) (.int .i64 ((kA l0 a9).f0))).trans a0; replace a0 := (kH (p := ⟨aA, 1, none⟩) (by (rw [kF]; exact hn756_1)) (.int .i64 ((kA l0 a9).f1))).trans a0; replace a0 := (kH (p := ⟨aA, 2, none⟩) (by (rw [kF]; exact hn756_2)) (.int .i64 ((kA l0 a9).f2))).trans a0; replace a0 := (kH (p := ⟨aA, 3, none⟩) (by (rw [kF]; exact hn756_3)) (.int .i64 ((kA l0 a9).f3))).trans a0; replace a0 := (kH (p := ⟨aA, 4, none⟩) (by (rw [kF]; exact hn756_4)) (.int .i64 ((kA l0 a9).f4))).trans a0; replace a0 := (kH (p := ⟨aA, 5, none⟩) (by (rw [kF]; exact hn756_5)) (.int .i64 ((kA l0 a9).f5))).trans a0; clear hn756_0; clear hn756_1; clear hn756_2; clear hn756_3; clear hn756_4; clear hn756_5; replace b3 := eq_true b3; replace b2 := eq_true b2)))
    exact b9i
  replace H := iN H; obtain ⟨fP, H⟩ := H
  replace H := iN H; obtain ⟨fO, H⟩ := H
  replace H := iN H; obtain ⟨fN, H⟩ := H
  generalize hbq14 : vU false l1 a2 = j7 at H
  have aU := am hbq14.symm; clear hbq14
  replace H := iB H; rcases H with ⟨rfl, H⟩ | ⟨rfl, H⟩
  rotate_left
  ·replace H := am H
   obtain ⟨eZ, eU, bK, rfl, cW, cV, cU, cT, cS, cR⟩ := ir (oZ (Kd.C_below bJ.out HB.out) a2)
   go_wp2_with (first | ((with_reducible refine gW ?_); first | (refine bX 8 31 #[.int .i64 0, .int .i64 0, .int .i64 0, .int .i64 0, .int .i64 0, .int .i64 0] ?_; intro aE hg w116 hbox hb; replace a1 := rB a1 hb; replace a3 := rB a3 hb; have a5 := am hbox; have b1 := gw hg; have f_ := gw hg; replace HB := hB HB hb; clear hb hbox hg; have gL := cf6 a5.out; have bI : 0 ≤ (a2 : Int) := oD (by (with_reducible assumption)); have bH : a2 < (l1.length : Int) := oD (by (with_reducible assumption)); obtain ⟨b0, dU, a8⟩ := Kd.at_bool cX.out a2 bI bH; (try rw [← aU.out] at a8); cases dU; have hn733_0 : b0.block ≠ aE := Nat.ne_of_lt (Nat.lt_of_lt_of_le (by have := World.block_lt_of_cell? _ _ a8; rwa [kF] at this) b1.out); have hn733_1 : b0.block ≠ aE := Nat.ne_of_lt (Nat.lt_of_lt_of_le (by have := World.block_lt_of_cell? _ _ a8; rwa [kF] at this) b1.out); have hn733_2 : b0.block ≠ aE := Nat.ne_of_lt (Nat.lt_of_lt_of_le (by have := World.block_lt_of_cell? _ _ a8; rwa [kF] at this) b1.out); have hn733_3 : b0.block ≠ aE := Nat.ne_of_lt (Nat.lt_of_lt_of_le (by have := World.block_lt_of_cell? _ _ a8; rwa [kF] at this) b1.out); have hn733_4 : b0.block ≠ aE := Nat.ne_of_lt (Nat.lt_of_lt_of_le (by have := World.block_lt_of_cell? _ _ a8; rwa [kF] at this) b1.out); have hn733_5 : b0.block ≠ aE := Nat.ne_of_lt (Nat.lt_of_lt_of_le (by have := World.block_lt_of_cell? _ _ a8; rwa [kF] at this) b1.out); replace a8 := kC HB.out a8; replace a8 := (kH (p := ⟨aE, 0, none⟩) (by (rw [kF]; exact hn733_0)) (.int .i64 ((kA l0 a2).f0))).trans a8; replace a8 := (kH (p := ⟨aE, 1, none⟩) (by (rw [kF]; exact hn733_1)) (.int .i64 ((kA l0 a2).f1))).trans a8; replace a8 := (kH (p := ⟨aE, 2, none⟩) (by (rw [kF]; exact hn733_2)) (.int .i64 ((kA l0 a2).f2))).trans a8; replace a8 := (kH (p := ⟨aE, 3, none⟩) (by (rw [kF]; exact hn733_3)) (.int .i64 ((kA l0 a2).f3))).trans a8; replace a8 := (kH (p := ⟨aE, 4, none⟩) (by (rw [kF]; exact hn733_4)) (.int .i64 ((kA l0 a2).f4))).trans a8; replace a8 := (kH (p := ⟨aE, 5, none⟩) (by (rw [kF]; exact hn733_5)) (.int .i64 ((kA l0 a2).f5))).trans a8; clear hn733_0; clear hn733_1; clear hn733_2; clear hn733_3; clear hn733_4; clear hn733_5; replace bI := eq_true bI; replace bH := eq_true bH)))
   go_roundg k1
   case measure => have := b6.out; omega
   case rel => exact ⟨bD, cM, (wrap64 (a2 + 1)), rfl, H, ⟨by have := b6.out; omega⟩, ⟨sR <| Kd.R_mono (Kd.R_far (p := ⟨aE, 5, none⟩) (Kd.R_far (p := ⟨aE, 4, none⟩) (Kd.R_far (p := ⟨aE, 3, none⟩) (Kd.R_far (p := ⟨aE, 2, none⟩) (Kd.R_far (p := ⟨aE, 1, none⟩) (Kd.R_far (p := ⟨aE, 0, none⟩) (Kd.R_types a1.out a5.out (by decide)) (fun _ hk => hk.2) (.int .i64 ((kA l0 a2).f0))) (fun _ hk => hk.2) (.int .i64 ((kA l0 a2).f1))) (fun _ hk => hk.2) (.int .i64 ((kA l0 a2).f2))) (fun _ hk => hk.2) (.int .i64 ((kA l0 a2).f3))) (fun _ hk => hk.2) (.int .i64 ((kA l0 a2).f4))) (fun _ hk => hk.2) (.int .i64 ((kA l0 a2).f5))) (fun _ hk => trivial)⟩, ⟨sR <| Kd.R_mono (Kd.R_far (p := ⟨aE, 5, none⟩) (Kd.R_far (p := ⟨aE, 4, none⟩) (Kd.R_far (p := ⟨aE, 3, none⟩) (Kd.R_far (p := ⟨aE, 2, none⟩) (Kd.R_far (p := ⟨aE, 1, none⟩) (Kd.R_far (p := ⟨aE, 0, none⟩) (Kd.R_types a3.out a5.out (by decide)) (fun _ hk => hk.2) (.int .i64 ((kA l0 a2).f0))) (fun _ hk => hk.2) (.int .i64 ((kA l0 a2).f1))) (fun _ hk => hk.2) (.int .i64 ((kA l0 a2).f2))) (fun _ hk => hk.2) (.int .i64 ((kA l0 a2).f3))) (fun _ hk => hk.2) (.int .i64 ((kA l0 a2).f4))) (fun _ hk => hk.2) (.int .i64 ((kA l0 a2).f5))) (fun _ hk => trivial)⟩, ⟨bW⟩⟩
  replace H := oA H; obtain ⟨a6, hO, H⟩ := H
  replace H := am H
  obtain ⟨eZ, eU, bK, rfl, cW, cV, cU, cT, cS, cR⟩ := ir (oZ (Kd.C_below bJ.out HB.out) a2)
  go_wp2_with (first | ((with_reducible refine gW ?_); first | (refine bX 8 31 #[.int .i64 0, .int .i64 0, .int .i64 0, .int .i64 0, .int .i64 0, .int .i64 0] ?_; intro aE hg w17 hbox hb; replace a1 := rB a1 hb; replace a3 := rB a3 hb; have a5 := am hbox; have b1 := gw hg; have f_ := gw hg; replace HB := hB HB hb; clear hb hbox hg; have eL := cf6 a5.out; have bI : 0 ≤ (a2 : Int) := oD (by (with_reducible assumption)); have bH : a2 < (l1.length : Int) := oD (by (with_reducible assumption)); obtain ⟨b0, dU, a8⟩ := Kd.at_bool cX.out a2 bI bH; (try rw [← aU.out] at a8); cases dU; have hn733_0 : b0.block ≠ aE := Nat.ne_of_lt (Nat.lt_of_lt_of_le (by have := World.block_lt_of_cell? _ _ a8; rwa [kF] at this) b1.out); have hn733_1 : b0.block ≠ aE := Nat.ne_of_lt (Nat.lt_of_lt_of_le (by have := World.block_lt_of_cell? _ _ a8; rwa [kF] at this) b1.out); have hn733_2 : b0.block ≠ aE := Nat.ne_of_lt (Nat.lt_of_lt_of_le (by have := World.block_lt_of_cell? _ _ a8; rwa [kF] at this) b1.out); have hn733_3 : b0.block ≠ aE := Nat.ne_of_lt (Nat.lt_of_lt_of_le (by have := World.block_lt_of_cell? _ _ a8; rwa [kF] at this) b1.out); have hn733_4 : b0.block ≠ aE := Nat.ne_of_lt (Nat.lt_of_lt_of_le (by have := World.block_lt_of_cell? _ _ a8; rwa [kF] at this) b1.out); have hn733_5 : b0.block ≠ aE := Nat.ne_of_lt (Nat.lt_of_lt_of_le (by have := World.block_lt_of_cell? _ _ a8; rwa [kF] at this) b1.out); replace a8 := kC HB.out a8; replace a8 := (kH (p := ⟨aE, 0, none⟩) (by (rw [kF]; exact hn733_0)) (.int .i64 ((kA l0 a2).f0))).trans a8; replace a8 := (kH (p := ⟨aE, 1, none⟩) (by (rw [kF]; exact hn733_1)) (.int .i64 ((kA l0 a2).f1))).trans a8; replace a8 := (kH (p := ⟨aE, 2, none⟩) (by (rw [kF]; exact hn733_2)) (.int .i64 ((kA l0 a2).f2))).trans a8; replace a8 := (kH (p := ⟨aE, 3, none⟩) (by (rw [kF]; exact hn733_3)) (.int .i64 ((kA l0 a2).f3))).trans a8; replace a8 := (kH (p := ⟨aE, 4, none⟩) (by (rw [kF]; exact hn733_4)) (.int .i64 ((kA l0 a2).f4))).trans a8; replace a8 := (kH (p := ⟨aE, 5, none⟩) (by (rw [kF]; exact hn733_5)) (.int .i64 ((kA l0 a2).f5))).trans a8; clear hn733_0; clear hn733_1; clear hn733_2; clear hn733_3; clear hn733_4; clear hn733_5; replace bI := eq_true bI; replace bH := eq_true bH) | (refine gF 58 (some 33) rfl ?_; refine gT Try.func58 (impl_Parts.calls _ _ _ _ _ _ _ _ _ hO.out) ?_; rintro iJ w19 ⟨fA, hb⟩; replace a3 := am (Kd.R_below (by exact sR <| (rm (rf 5 (rf 4 (rf 3 (rf 2 (rf 1 (rf 0 (ry a3 a5))))))))) hb); have eJ := am (Kd.R_lower (Kd.R_new' fA (Kd.R_lt (by exact sR <| (rm (rf 5 (rf 4 (rf 3 (rf 2 (rf 1 (rf 0 (ry a1 a5))))))))))) (kE (by exact bW))); replace a1 := am (Kd.R_elder' (by exact sR <| (rm (rf 5 (rf 4 (rf 3 (rf 2 (rf 1 (rf 0 (ry a1 a5))))))))) (Kd.R_base fA) hb); replace a5 := am (kM (by exact sB <| pn (by exact sB <| a5.out)) hb); replace HB := hX hb; (try clear hb); (try clear fA); obtain ⟨fH, bE, rfl⟩ := Kd.R_slice eJ.out)))
  go_loopg [35] k1 (fun kq hC w' => ∃ (aC : List Int) (aF : List Bool) (a4 : Int), hC = .int .i64 a4 ∧ Aside0 (qE kq l0 l1 aC aF a2 l0 (l0.length : Int) a2 a6 (a6.length : Int) a4 ((kA l0 a2).f0) ((kA l0 a2).f1) ((kA l0 a2).f2) ((kA l0 a2).f3) ((kA l0 a2).f4) ((kA l0 a2).f5) = some r) ∧ Aside0 (kq ≤ k1) ∧ Aside0 (Kd.R (Kd.int .i64) 3 w' w.heap.size (fun k_ => some k_ ≠ ((.slice fH a6.length bE) : Value).ownBlock) cY aC) ∧ Aside0 (Kd.R Kd.bool 4 w' w.heap.size (fun _ => True) eS aF) ∧ Aside0 (Kd.R (Kd.int .i64) 3 w' w.heap.size (fun k_ => some k_ ≠ (cY : Value).ownBlock) (.slice fH a6.length bE) a6) ∧ Aside0 (w'.heap[aE]? = some (.cells #[.int .i64 ((kA l0 a2).f0), .int .i64 ((kA l0 a2).f1), .int .i64 ((kA l0 a2).f2), .int .i64 ((kA l0 a2).f3), .int .i64 ((kA l0 a2).f4), .int .i64 ((kA l0 a2).f5)] 31 (0, 0))) ∧ Aside0 (Below w.heap.size w w'))
  case atStart => exact ⟨bD, cM, 0, rfl, H, ⟨Nat.le_refl _⟩, ⟨sR <| Kd.R_mono a1.out (fun _ hk => hk.2)⟩, ⟨sR <| a3.out⟩, ⟨sR <| Kd.R_mono eJ.out (fun _ hk => hk.2)⟩, ⟨sB <| a5.out⟩, ⟨bW⟩⟩
  clear H
  clear d8 fP fO fN eL cW cV cU cT cS cR a8 eZ bI eU bH
  obtain ⟨aC, aF, a4, rfl, HA, b8, a1, a3, a7, a5, HB⟩ := hrel
  cases gk with
  | zero => cases HA.out
  | succ k2 =>
   obtain ⟨H⟩ := HA
   simp only [qE] at H
   replace H := iD H; rcases H with ⟨fM, H⟩ | ⟨fM, H⟩
   rotate_left
   ·replace H := am H
    go_wp2
    go_roundg k2
    case measure => have := b6.out; have := b8.out; omega
    case rel => exact ⟨aC, aF, (wrap64 (a2 + 1)), rfl, H, ⟨by have := b6.out; have := b8.out; omega⟩, ⟨sR <| Kd.R_mono a1.out (fun _ hk => trivial)⟩, ⟨sR <| a3.out⟩, ⟨bW⟩⟩
   replace H := iN H; obtain ⟨i8, H⟩ := H
   replace H := iN H; obtain ⟨i7, H⟩ := H
   replace H := iN H; obtain ⟨i6, H⟩ := H
   replace H := iN H; obtain ⟨i5, H⟩ := H
   replace H := oS H; obtain ⟨b7, bC, H⟩ := H
   replace H := iN H; obtain ⟨i4, H⟩ := H
   generalize hbq28 : vU false aF (rd a6 a4) = i_ at H
   have aW := am hbq28.symm; clear hbq28
   replace H := iB H; rcases H with ⟨rfl, H⟩ | ⟨rfl, H⟩
   ·replace H := oA H; obtain ⟨iO, fJ, H⟩ := H
    replace H := iB H; rcases H with ⟨rfl, H⟩ | ⟨rfl, H⟩
    rotate_left
    ·obtain rfl := oI H
     obtain ⟨bQ, bN, aV, rfl, b9⟩ := ir (Kd.at_int (Kd.R_reads' a7.out).2.2 a4)
     obtain ⟨jF, d3, rfl⟩ := Kd.R_slice a1.out
     obtain ⟨bP, bM, bG, rfl, aI⟩ := ir (Kd.at_int (Kd.R_reads' a1.out).2.2 (rd a6 a4))
     have aR : 0 ≤ ((rd a6 a4) : Int) := oD (by (with_reducible assumption))
     have aQ : ((rd a6 a4) : Int) < ((aC.length : Int) : Int) := oD (by (with_reducible assumption))
     obtain ⟨aD, bS, b4, aS, gl26, cl26, HG26⟩ := Kd.R_form a1.out oM
     (cases b4)
     have b5 := am aS
     have GG26 := am HG26
     clear aS gl26 HG26
     (simp only [pI] at aI)
     obtain ⟨bB, hf26_0⟩ := Kd.R_celln 0 a1.out ((rd a6 a4) : Int) aR aQ
     replace aR := eq_true aR
     replace aQ := eq_true aQ
     have e3 := Kd.R_putg a1.out ((rd a6 a4) : Int) (wrap64 ((rd aC (rd a6 a4)) + 1))
     go_wp2_with (first | ((with_reducible refine pZ (t := 3) (p := 44) rfl ?_); refine pM (t := 3) (p := 44) (v := ?vo_w56) (w1 := (wr.setCell ⟨aD, ((rd a6 a4) : Int).toNat, none⟩ (.int .i64 (wrap64 ((rd aC (rd a6 a4)) + 1))))) ?hg ?ho ?hn ?hr ?_; (case ho => rfl); (case hg => rfl); (case hn => rfl); (case hr => (go_simp; done)); intro w56 hw; have hg : wr.grownBy w56 (some aD) := (by rw [hw]; exact e3.2); have hp_ : Kd.R (Kd.int .i64) 3 w56 w.heap.size (fun k_ => some k_ ≠ (.slice (some aV) a6.length bE : Value).ownBlock) (.slice (some ⟨aD, 0, none⟩) aC.length d3) b7 := (by rw [hw, bC.out]; exact e3.1); clear e3; replace a3 := am (Kd.R_over' (v := (.slice (some ⟨aD, 0, none⟩) aC.length d3)) (by exact sR <| a3.out) (Kd.R_typed a1.out) (by decide) hg); replace a7 := am (Kd.R_after (v := (.slice (some ⟨aD, 0, none⟩) aC.length d3)) (v1 := (.slice (some ⟨aD, 0, none⟩) aC.length d3)) (ok := (fun _ => True)) (by exact sR <| Kd.R_mono a7.out (fun _ hk => ⟨trivial, hk⟩)) hg (.inl rfl)); replace a5 := gG a5 hg a1; replace a1 := am hp_; replace HB := am ((by rw [hw]; exact kX (HB.out) b5.out : Below w.heap.size w w56)); clear hg hw hp_; obtain ⟨jE, iU, rfl⟩ := Kd.R_slice a3.out; obtain ⟨bO, bL, a_, rfl, aB⟩ := ir (Kd.at_bool (Kd.R_reads' a3.out).2.2 (rd a6 a4)); (try rw [← aU.out] at aB); (try rw [← aW.out] at aB); have h7 := cf6 a5.out) | (go_at_call 130; refine (impl_leads.calls fJ.out).mono ?_; rintro e w59 ⟨rfl, hb⟩; replace a1 := rB a1 hb; replace a3 := rB a3 hb; replace a7 := rB a7 hb; replace a5 := gB a5 hb; replace HB := hX hb; (try clear hb)))
     go_ret
     exact ⟨rfl, bW⟩
    replace H := iN H; obtain ⟨i3, H⟩ := H
    replace H := iN H; obtain ⟨i2, H⟩ := H
    generalize hbq34 : vU false aF a2 = iZ at H
    have cL := am hbq34.symm; clear hbq34
    replace H := iB H; rcases H with ⟨rfl, H⟩ | ⟨rfl, H⟩
    ·generalize eE : aF.set (a2 : Int).toNat true = eR at H
     have fW := am eE.symm; clear eE
     replace H := am H
     obtain ⟨bQ, bN, aV, rfl, b9⟩ := ir (Kd.at_int (Kd.R_reads' a7.out).2.2 a4)
     obtain ⟨jJ, d5, rfl⟩ := Kd.R_slice a1.out
     obtain ⟨bP, bM, bG, rfl, aI⟩ := ir (Kd.at_int (Kd.R_reads' a1.out).2.2 (rd a6 a4))
     have aR : 0 ≤ ((rd a6 a4) : Int) := oD (by (with_reducible assumption))
     have aQ : ((rd a6 a4) : Int) < ((aC.length : Int) : Int) := oD (by (with_reducible assumption))
     obtain ⟨aD, bS, b4, aS, gl26, cl26, HG26⟩ := Kd.R_form a1.out oM
     (cases b4)
     have b5 := am aS
     have GG26 := am HG26
     clear aS gl26 HG26
     (simp only [pI] at aI)
     obtain ⟨bB, hf26_0⟩ := Kd.R_celln 0 a1.out ((rd a6 a4) : Int) aR aQ
     replace aR := eq_true aR
     replace aQ := eq_true aQ
     have e7 := Kd.R_putg a1.out ((rd a6 a4) : Int) (wrap64 ((rd aC (rd a6 a4)) + 1))
     go_wp2_with (first | ((with_reducible refine pZ (t := 3) (p := 44) rfl ?_); refine pM (t := 3) (p := 44) (v := ?vo_w39) (w1 := (wr.setCell ⟨aD, ((rd a6 a4) : Int).toNat, none⟩ (.int .i64 (wrap64 ((rd aC (rd a6 a4)) + 1))))) ?hg ?ho ?hn ?hr ?_; (case ho => rfl); (case hg => rfl); (case hn => rfl); (case hr => (go_simp; done)); intro w39 hw; have hg : wr.grownBy w39 (some aD) := (by rw [hw]; exact e7.2); have hp_ : Kd.R (Kd.int .i64) 3 w39 w.heap.size (fun k_ => some k_ ≠ (.slice (some aV) a6.length bE : Value).ownBlock) (.slice (some ⟨aD, 0, none⟩) aC.length d5) b7 := (by rw [hw, bC.out]; exact e7.1); clear e7; replace a3 := am (Kd.R_over' (v := (.slice (some ⟨aD, 0, none⟩) aC.length d5)) (by exact sR <| a3.out) (Kd.R_typed a1.out) (by decide) hg); replace a7 := am (Kd.R_after (v := (.slice (some ⟨aD, 0, none⟩) aC.length d5)) (v1 := (.slice (some ⟨aD, 0, none⟩) aC.length d5)) (ok := (fun _ => True)) (by exact sR <| Kd.R_mono a7.out (fun _ hk => ⟨trivial, hk⟩)) hg (.inl rfl)); replace a5 := gG a5 hg a1; replace a1 := am hp_; replace HB := am ((by rw [hw]; exact kX (HB.out) b5.out : Below w.heap.size w w39)); clear hg hw hp_; obtain ⟨jI, dY, rfl⟩ := Kd.R_slice a3.out; obtain ⟨bO, bL, a_, rfl, aB⟩ := ir (Kd.at_bool (Kd.R_reads' a3.out).2.2 (rd a6 a4)); (try rw [← aU.out] at aB); (try rw [← aW.out] at aB); (try rw [← cL.out] at aB); have h9 := cf6 a5.out) | (go_at_call 130; refine (impl_leads.calls fJ.out).mono ?_; rintro e w42 ⟨rfl, hb⟩; replace a1 := rB a1 hb; replace a3 := rB a3 hb; replace a7 := rB a7 hb; replace a5 := gB a5 hb; replace HB := hX hb; (try clear hb); obtain ⟨gE, g7, dC, dT, aZ⟩ := ir (Kd.at_bool (Kd.R_reads' a3.out).2.2 a2); (try rw [← aU.out] at aZ); (try rw [← aW.out] at aZ); (try rw [← cL.out] at aZ); obtain rfl : a_ = dC := (by injection dT); have f7 : 0 ≤ (a2 : Int) := oD (by (with_reducible assumption)); have eX : (a2 : Int) < ((aF.length : Int) : Int) := oD (by (with_reducible assumption)); obtain ⟨cQ, iW, gP, fE, gl36, cl36, HG36⟩ := Kd.R_form a3.out oM; (cases gP); have h1 := am fE; have GG36 := am HG36; clear fE gl36 HG36; (simp only [pI] at aB); (simp only [pI] at aZ); obtain ⟨hJ, hf36_0⟩ := Kd.R_celln false a3.out (a2 : Int) f7 eX; replace f7 := eq_true f7; replace eX := eq_true eX; obtain ⟨hS, hz43_⟩ := Kd.R_celln false a3.out (a2 : Int) (oD (by (with_reducible assumption))) (oD (by (with_reducible assumption))); have e6 := Kd.R_putg a3.out (a2 : Int) true) | ((with_reducible refine pZ (t := 4) (p := 71) rfl ?_); refine pM (t := 4) (p := 71) (v := ?vo_w44) (w1 := (w42.setCell ⟨cQ, (a2 : Int).toNat, none⟩ (.bool true))) ?hg ?ho ?hn ?hr ?_; (case ho => rfl); (case hg => rfl); (case hn => rfl); (case hr => (go_simp; done)); intro w44 hw; have hg : w42.grownBy w44 (some cQ) := (by rw [hw]; exact e6.2); have hp_ : Kd.R Kd.bool 4 w44 w.heap.size (fun _ => True) (.slice (some ⟨cQ, 0, none⟩) aF.length dY) eR := (by rw [hw, fW.out]; exact e6.1); clear e6; replace a1 := am (Kd.R_over' (v := (.slice (some ⟨cQ, 0, none⟩) aF.length dY)) (by exact sR <| a1.out) (Kd.R_typed a3.out) (by decide) hg); replace a7 := am (Kd.R_over' (v := (.slice (some ⟨cQ, 0, none⟩) aF.length dY)) (by exact sR <| a7.out) (Kd.R_typed a3.out) (by decide) hg); replace a5 := gG a5 hg a3; replace a3 := am hp_; replace HB := am ((by rw [hw]; exact kX (HB.out) h1.out : Below w.heap.size w w44)); clear hg hw hp_))
     go_roundg k2
     case measure => have := b6.out; have := b8.out; omega
     case rel => exact ⟨b7, eR, (wrap64 (a4 + 1)), rfl, H, ⟨by have := b6.out; have := b8.out; omega⟩, ⟨sR <| a1.out⟩, ⟨sR <| a3.out⟩, ⟨sR <| Kd.R_mono a7.out (fun _ hk => hk.2)⟩, ⟨sB <| a5.out⟩, ⟨bW⟩⟩
    generalize eD : aF.set (a2 : Int).toNat true = eQ at H
    have fV := am eD.symm; clear eD
    replace H := am H
    obtain ⟨bQ, bN, aV, rfl, b9⟩ := ir (Kd.at_int (Kd.R_reads' a7.out).2.2 a4)
    obtain ⟨jH, d4, rfl⟩ := Kd.R_slice a1.out
    obtain ⟨bP, bM, bG, rfl, aI⟩ := ir (Kd.at_int (Kd.R_reads' a1.out).2.2 (rd a6 a4))
    have aR : 0 ≤ ((rd a6 a4) : Int) := oD (by (with_reducible assumption))
    have aQ : ((rd a6 a4) : Int) < ((aC.length : Int) : Int) := oD (by (with_reducible assumption))
    obtain ⟨aD, bS, b4, aS, gl26, cl26, HG26⟩ := Kd.R_form a1.out oM
    (cases b4)
    have b5 := am aS
    have GG26 := am HG26
    clear aS gl26 HG26
    (simp only [pI] at aI)
    obtain ⟨bB, hf26_0⟩ := Kd.R_celln 0 a1.out ((rd a6 a4) : Int) aR aQ
    replace aR := eq_true aR
    replace aQ := eq_true aQ
    have e5 := Kd.R_putg a1.out ((rd a6 a4) : Int) (wrap64 ((rd aC (rd a6 a4)) + 1))
    go_wp2_with (first | ((with_reducible refine pZ (t := 3) (p := 44) rfl ?_); refine pM (t := 3) (p := 44) (v := ?vo_w48) (w1 := (wr.setCell ⟨aD, ((rd a6 a4) : Int).toNat, none⟩ (.int .i64 (wrap64 ((rd aC (rd a6 a4)) + 1))))) ?hg ?ho ?hn ?hr ?_; (case ho => rfl); (case hg => rfl); (case hn => rfl); (case hr => (go_simp; done)); intro w48 hw; have hg : wr.grownBy w48 (some aD) := (by rw [hw]; exact e5.2); have hp_ : Kd.R (Kd.int .i64) 3 w48 w.heap.size (fun k_ => some k_ ≠ (.slice (some aV) a6.length bE : Value).ownBlock) (.slice (some ⟨aD, 0, none⟩) aC.length d4) b7 := (by rw [hw, bC.out]; exact e5.1); clear e5; replace a3 := am (Kd.R_over' (v := (.slice (some ⟨aD, 0, none⟩) aC.length d4)) (by exact sR <| a3.out) (Kd.R_typed a1.out) (by decide) hg); replace a7 := am (Kd.R_after (v := (.slice (some ⟨aD, 0, none⟩) aC.length d4)) (v1 := (.slice (some ⟨aD, 0, none⟩) aC.length d4)) (ok := (fun _ => True)) (by exact sR <| Kd.R_mono a7.out (fun _ hk => ⟨trivial, hk⟩)) hg (.inl rfl)); replace a5 := gG a5 hg a1; replace a1 := am hp_; replace HB := am ((by rw [hw]; exact kX (HB.out) b5.out : Below w.heap.size w w48)); clear hg hw hp_; obtain ⟨jG, dX, rfl⟩ := Kd.R_slice a3.out; obtain ⟨bO, bL, a_, rfl, aB⟩ := ir (Kd.at_bool (Kd.R_reads' a3.out).2.2 (rd a6 a4)); (try rw [← aU.out] at aB); (try rw [← aW.out] at aB); (try rw [← cL.out] at aB); have h8 := cf6 a5.out) | (go_at_call 130; refine (impl_leads.calls fJ.out).mono ?_; rintro e w51 ⟨rfl, hb⟩; replace a1 := rB a1 hb; replace a3 := rB a3 hb; replace a7 := rB a7 hb; replace a5 := gB a5 hb; replace HB := hX hb; (try clear hb); obtain ⟨gE, g7, dC, dT, aZ⟩ := ir (Kd.at_bool (Kd.R_reads' a3.out).2.2 a2); (try rw [← aU.out] at aZ); (try rw [← aW.out] at aZ); (try rw [← cL.out] at aZ); obtain rfl : a_ = dC := (by injection dT); have f6 : 0 ≤ (a2 : Int) := oD (by (with_reducible assumption)); have eW : (a2 : Int) < ((aF.length : Int) : Int) := oD (by (with_reducible assumption)); obtain ⟨cP, iV, gO, fD, gl45, cl45, HG45⟩ := Kd.R_form a3.out oM; (cases gO); have h0 := am fD; have GG45 := am HG45; clear fD gl45 HG45; (simp only [pI] at aB); (simp only [pI] at aZ); obtain ⟨hI, hf45_0⟩ := Kd.R_celln false a3.out (a2 : Int) f6 eW; replace f6 := eq_true f6; replace eW := eq_true eW; obtain ⟨hR, hz52_⟩ := Kd.R_celln false a3.out (a2 : Int) (oD (by (with_reducible assumption))) (oD (by (with_reducible assumption))); have e4 := Kd.R_putg a3.out (a2 : Int) true) | ((with_reducible refine pZ (t := 4) (p := 71) rfl ?_); refine pM (t := 4) (p := 71) (v := ?vo_w53) (w1 := (w51.setCell ⟨cP, (a2 : Int).toNat, none⟩ (.bool true))) ?hg ?ho ?hn ?hr ?_; (case ho => rfl); (case hg => rfl); (case hn => rfl); (case hr => (go_simp; done)); intro w53 hw; have hg : w51.grownBy w53 (some cP) := (by rw [hw]; exact e4.2); have hp_ : Kd.R Kd.bool 4 w53 w.heap.size (fun _ => True) (.slice (some ⟨cP, 0, none⟩) aF.length dX) eQ := (by rw [hw, fV.out]; exact e4.1); clear e4; replace a1 := am (Kd.R_over' (v := (.slice (some ⟨cP, 0, none⟩) aF.length dX)) (by exact sR <| a1.out) (Kd.R_typed a3.out) (by decide) hg); replace a7 := am (Kd.R_over' (v := (.slice (some ⟨cP, 0, none⟩) aF.length dX)) (by exact sR <| a7.out) (Kd.R_typed a3.out) (by decide) hg); replace a5 := gG a5 hg a3; replace a3 := am hp_; replace HB := am ((by rw [hw]; exact kX (HB.out) h0.out : Below w.heap.size w w53)); clear hg hw hp_))
    go_roundg k2
    case measure => have := b6.out; have := b8.out; omega
    case rel => exact ⟨b7, eQ, (wrap64 (a4 + 1)), rfl, H, ⟨by have := b6.out; have := b8.out; omega⟩, ⟨sR <| a1.out⟩, ⟨sR <| a3.out⟩, ⟨sR <| Kd.R_mono a7.out (fun _ hk => hk.2)⟩, ⟨sB <| a5.out⟩, ⟨bW⟩⟩
   replace H := iN H; obtain ⟨i1, H⟩ := H
   replace H := oA H; obtain ⟨iM, dJ, H⟩ := H
   replace H := iB H; rcases H with ⟨rfl, H⟩ | ⟨rfl, H⟩
   rotate_left
   ·replace H := iN H; obtain ⟨hZ, H⟩ := H
    replace H := iN H; obtain ⟨hY, H⟩ := H
    generalize hbq98 : vU false aF a2 = iX at H
    have cJ := am hbq98.symm; clear hbq98
    replace H := iB H; rcases H with ⟨rfl, H⟩ | ⟨rfl, H⟩
    ·generalize eA : aF.set (a2 : Int).toNat true = eN at H
     have fS := am eA.symm; clear eA
     replace H := am H
     obtain ⟨bQ, bN, aV, rfl, b9⟩ := ir (Kd.at_int (Kd.R_reads' a7.out).2.2 a4)
     obtain ⟨iI, cI, rfl⟩ := Kd.R_slice a1.out
     obtain ⟨bP, bM, bG, rfl, aI⟩ := ir (Kd.at_int (Kd.R_reads' a1.out).2.2 (rd a6 a4))
     have aR : 0 ≤ ((rd a6 a4) : Int) := oD (by (with_reducible assumption))
     have aQ : ((rd a6 a4) : Int) < ((aC.length : Int) : Int) := oD (by (with_reducible assumption))
     obtain ⟨aD, bS, b4, aS, gl26, cl26, HG26⟩ := Kd.R_form a1.out oM
     (cases b4)
     have b5 := am aS
     have GG26 := am HG26
     clear aS gl26 HG26
     (simp only [pI] at aI)
     obtain ⟨bB, hf26_0⟩ := Kd.R_celln 0 a1.out ((rd a6 a4) : Int) aR aQ
     replace aR := eq_true aR
     replace aQ := eq_true aQ
     have dG := Kd.R_putg a1.out ((rd a6 a4) : Int) (wrap64 ((rd aC (rd a6 a4)) + 1))
     go_wp2_with (first | ((with_reducible refine pZ (t := 3) (p := 44) rfl ?_); refine pM (t := 3) (p := 44) (v := ?vo_w103) (w1 := (wr.setCell ⟨aD, ((rd a6 a4) : Int).toNat, none⟩ (.int .i64 (wrap64 ((rd aC (rd a6 a4)) + 1))))) ?hg ?ho ?hn ?hr ?_; (case ho => rfl); (case hg => rfl); (case hn => rfl); (case hr => (go_simp; done)); intro w103 hw; have hg : wr.grownBy w103 (some aD) := (by rw [hw]; exact dG.2); have hp_ : Kd.R (Kd.int .i64) 3 w103 w.heap.size (fun k_ => some k_ ≠ (.slice (some aV) a6.length bE : Value).ownBlock) (.slice (some ⟨aD, 0, none⟩) aC.length cI) b7 := (by rw [hw, bC.out]; exact dG.1); clear dG; replace a3 := am (Kd.R_over' (v := (.slice (some ⟨aD, 0, none⟩) aC.length cI)) (by exact sR <| a3.out) (Kd.R_typed a1.out) (by decide) hg); replace a7 := am (Kd.R_after (v := (.slice (some ⟨aD, 0, none⟩) aC.length cI)) (v1 := (.slice (some ⟨aD, 0, none⟩) aC.length cI)) (ok := (fun _ => True)) (by exact sR <| Kd.R_mono a7.out (fun _ hk => ⟨trivial, hk⟩)) hg (.inl rfl)); replace a5 := gG a5 hg a1; replace a1 := am hp_; replace HB := am ((by rw [hw]; exact kX (HB.out) b5.out : Below w.heap.size w w103)); clear hg hw hp_; obtain ⟨iH, d7, rfl⟩ := Kd.R_slice a3.out; obtain ⟨bO, bL, a_, rfl, aB⟩ := ir (Kd.at_bool (Kd.R_reads' a3.out).2.2 (rd a6 a4)); (try rw [← aU.out] at aB); (try rw [← aW.out] at aB); (try rw [← cJ.out] at aB); obtain ⟨c_, cZ, bA, bF, aO, aN, aM, aL, aK, aJ⟩ := ir (oZ bJ.out (rd a6 a4)); obtain rfl : bK = bA := (by injection bF); replace aO := kC HB.out aO; replace aN := kC HB.out aN; replace aM := kC HB.out aM; replace aL := kC HB.out aL; replace aK := kC HB.out aK; replace aJ := kC HB.out aJ) | (go_at_call 53; refine (impl_isQuant.calls _ _ dJ.out).mono ?_; rintro e w105 ⟨rfl, hb⟩; replace a1 := rB a1 hb; replace a3 := rB a3 hb; replace a7 := rB a7 hb; replace a5 := gB a5 hb; replace HB := hX hb; (try clear hb); obtain ⟨g9, g5, dA, dQ, aX⟩ := ir (Kd.at_bool (Kd.R_reads' a3.out).2.2 a2); (try rw [← aU.out] at aX); (try rw [← aW.out] at aX); (try rw [← cJ.out] at aX); obtain rfl : a_ = dA := (by injection dQ); have dP : 0 ≤ (a2 : Int) := oD (by (with_reducible assumption)); have dM : (a2 : Int) < ((aF.length : Int) : Int) := oD (by (with_reducible assumption)); obtain ⟨bU, hW, fL, eI, gl100, cl100, HG100⟩ := Kd.R_form a3.out oM; (cases fL); have g1 := am eI; have GG100 := am HG100; clear eI gl100 HG100; (simp only [pI] at aB); (simp only [pI] at aX); obtain ⟨h3, hf100_0⟩ := Kd.R_celln false a3.out (a2 : Int) dP dM; replace dP := eq_true dP; replace dM := eq_true dM; obtain ⟨hF, hz106_⟩ := Kd.R_celln false a3.out (a2 : Int) (oD (by (with_reducible assumption))) (oD (by (with_reducible assumption))); have dF := Kd.R_putg a3.out (a2 : Int) true) | ((with_reducible refine pZ (t := 4) (p := 71) rfl ?_); refine pM (t := 4) (p := 71) (v := ?vo_w107) (w1 := (w105.setCell ⟨bU, (a2 : Int).toNat, none⟩ (.bool true))) ?hg ?ho ?hn ?hr ?_; (case ho => rfl); (case hg => rfl); (case hn => rfl); (case hr => (go_simp; done)); intro w107 hw; have hg : w105.grownBy w107 (some bU) := (by rw [hw]; exact dF.2); have hp_ : Kd.R Kd.bool 4 w107 w.heap.size (fun _ => True) (.slice (some ⟨bU, 0, none⟩) aF.length d7) eN := (by rw [hw, fS.out]; exact dF.1); clear dF; replace a1 := am (Kd.R_over' (v := (.slice (some ⟨bU, 0, none⟩) aF.length d7)) (by exact sR <| a1.out) (Kd.R_typed a3.out) (by decide) hg); replace a7 := am (Kd.R_over' (v := (.slice (some ⟨bU, 0, none⟩) aF.length d7)) (by exact sR <| a7.out) (Kd.R_typed a3.out) (by decide) hg); replace a5 := gG a5 hg a3; replace a3 := am hp_; replace HB := am ((by rw [hw]; exact kX (HB.out) g1.out : Below w.heap.size w w107)); clear hg hw hp_))
     go_roundg k2
     case measure => have := b6.out; have := b8.out; omega
     case rel => exact ⟨b7, eN, (wrap64 (a4 + 1)), rfl, H, ⟨by have := b6.out; have := b8.out; omega⟩, ⟨sR <| a1.out⟩, ⟨sR <| a3.out⟩, ⟨sR <| Kd.R_mono a7.out (fun _ hk => hk.2)⟩, ⟨sB <| a5.out⟩, ⟨bW⟩⟩
    generalize e9 : aF.set (a2 : Int).toNat false = eM at H
    have fR := am e9.symm; clear e9
    replace H := am H
    obtain ⟨bQ, bN, aV, rfl, b9⟩ := ir (Kd.at_int (Kd.R_reads' a7.out).2.2 a4)
    obtain ⟨iG, cH, rfl⟩ := Kd.R_slice a1.out
    obtain ⟨bP, bM, bG, rfl, aI⟩ := ir (Kd.at_int (Kd.R_reads' a1.out).2.2 (rd a6 a4))
    have aR : 0 ≤ ((rd a6 a4) : Int) := oD (by (with_reducible assumption))
    have aQ : ((rd a6 a4) : Int) < ((aC.length : Int) : Int) := oD (by (with_reducible assumption))
    obtain ⟨aD, bS, b4, aS, gl26, cl26, HG26⟩ := Kd.R_form a1.out oM
    (cases b4)
    have b5 := am aS
    have GG26 := am HG26
    clear aS gl26 HG26
    (simp only [pI] at aI)
    obtain ⟨bB, hf26_0⟩ := Kd.R_celln 0 a1.out ((rd a6 a4) : Int) aR aQ
    replace aR := eq_true aR
    replace aQ := eq_true aQ
    have dE := Kd.R_putg a1.out ((rd a6 a4) : Int) (wrap64 ((rd aC (rd a6 a4)) + 1))
    go_wp2_with (first | ((with_reducible refine pZ (t := 3) (p := 44) rfl ?_); refine pM (t := 3) (p := 44) (v := ?vo_w111) (w1 := (wr.setCell ⟨aD, ((rd a6 a4) : Int).toNat, none⟩ (.int .i64 (wrap64 ((rd aC (rd a6 a4)) + 1))))) ?hg ?ho ?hn ?hr ?_; (case ho => rfl); (case hg => rfl); (case hn => rfl); (case hr => (go_simp; done)); intro w111 hw; have hg : wr.grownBy w111 (some aD) := (by rw [hw]; exact dE.2); have hp_ : Kd.R (Kd.int .i64) 3 w111 w.heap.size (fun k_ => some k_ ≠ (.slice (some aV) a6.length bE : Value).ownBlock) (.slice (some ⟨aD, 0, none⟩) aC.length cH) b7 := (by rw [hw, bC.out]; exact dE.1); clear dE; replace a3 := am (Kd.R_over' (v := (.slice (some ⟨aD, 0, none⟩) aC.length cH)) (by exact sR <| a3.out) (Kd.R_typed a1.out) (by decide) hg); replace a7 := am (Kd.R_after (v := (.slice (some ⟨aD, 0, none⟩) aC.length cH)) (v1 := (.slice (some ⟨aD, 0, none⟩) aC.length cH)) (ok := (fun _ => True)) (by exact sR <| Kd.R_mono a7.out (fun _ hk => ⟨trivial, hk⟩)) hg (.inl rfl)); replace a5 := gG a5 hg a1; replace a1 := am hp_; replace HB := am ((by rw [hw]; exact kX (HB.out) b5.out : Below w.heap.size w w111)); clear hg hw hp_; obtain ⟨iF, d6, rfl⟩ := Kd.R_slice a3.out; obtain ⟨bO, bL, a_, rfl, aB⟩ := ir (Kd.at_bool (Kd.R_reads' a3.out).2.2 (rd a6 a4)); (try rw [← aU.out] at aB); (try rw [← aW.out] at aB); (try rw [← cJ.out] at aB); obtain ⟨c_, cZ, bA, bF, aO, aN, aM, aL, aK, aJ⟩ := ir (oZ bJ.out (rd a6 a4)); obtain rfl : bK = bA := (by injection bF); replace aO := kC HB.out aO; replace aN := kC HB.out aN; replace aM := kC HB.out aM; replace aL := kC HB.out aL; replace aK := kC HB.out aK; replace aJ := kC HB.out aJ) | (go_at_call 53; refine (impl_isQuant.calls _ _ dJ.out).mono ?_; rintro e w113 ⟨rfl, hb⟩; replace a1 := rB a1 hb; replace a3 := rB a3 hb; replace a7 := rB a7 hb; replace a5 := gB a5 hb; replace HB := hX hb; (try clear hb); obtain ⟨g9, g5, dA, dQ, aX⟩ := ir (Kd.at_bool (Kd.R_reads' a3.out).2.2 a2); (try rw [← aU.out] at aX); (try rw [← aW.out] at aX); (try rw [← cJ.out] at aX); obtain rfl : a_ = dA := (by injection dQ); have dO : 0 ≤ (a2 : Int) := oD (by (with_reducible assumption)); have dL : (a2 : Int) < ((aF.length : Int) : Int) := oD (by (with_reducible assumption)); obtain ⟨bT, hV, fK, eH, gl108, cl108, HG108⟩ := Kd.R_form a3.out oM; (cases fK); have g0 := am eH; have GG108 := am HG108; clear eH gl108 HG108; (simp only [pI] at aB); (simp only [pI] at aX); obtain ⟨h2, hf108_0⟩ := Kd.R_celln false a3.out (a2 : Int) dO dL; replace dO := eq_true dO; replace dL := eq_true dL; obtain ⟨hE, hz114_⟩ := Kd.R_celln false a3.out (a2 : Int) (oD (by (with_reducible assumption))) (oD (by (with_reducible assumption))); have dD := Kd.R_putg a3.out (a2 : Int) false) | ((with_reducible refine pZ (t := 4) (p := 71) rfl ?_); refine pM (t := 4) (p := 71) (v := ?vo_w115) (w1 := (w113.setCell ⟨bT, (a2 : Int).toNat, none⟩ (.bool false))) ?hg ?ho ?hn ?hr ?_; (case ho => rfl); (case hg => rfl); (case hn => rfl); (case hr => (go_simp; done)); intro w115 hw; have hg : w113.grownBy w115 (some bT) := (by rw [hw]; exact dD.2); have hp_ : Kd.R Kd.bool 4 w115 w.heap.size (fun _ => True) (.slice (some ⟨bT, 0, none⟩) aF.length d6) eM := (by rw [hw, fR.out]; exact dD.1); clear dD; replace a1 := am (Kd.R_over' (v := (.slice (some ⟨bT, 0, none⟩) aF.length d6)) (by exact sR <| a1.out) (Kd.R_typed a3.out) (by decide) hg); replace a7 := am (Kd.R_over' (v := (.slice (some ⟨bT, 0, none⟩) aF.length d6)) (by exact sR <| a7.out) (Kd.R_typed a3.out) (by decide) hg); replace a5 := gG a5 hg a3; replace a3 := am hp_; replace HB := am ((by rw [hw]; exact kX (HB.out) g0.out : Below w.heap.size w w115)); clear hg hw hp_))
    go_roundg k2
    case measure => have := b6.out; have := b8.out; omega
    case rel => exact ⟨b7, eM, (wrap64 (a4 + 1)), rfl, H, ⟨by have := b6.out; have := b8.out; omega⟩, ⟨sR <| a1.out⟩, ⟨sR <| a3.out⟩, ⟨sR <| Kd.R_mono a7.out (fun _ hk => hk.2)⟩, ⟨sB <| a5.out⟩, ⟨bW⟩⟩
   replace H := oA H; obtain ⟨iL, fI, H⟩ := H
   replace H := iB H; rcases H with ⟨rfl, H⟩ | ⟨rfl, H⟩
   rotate_left
   ·obtain rfl := oI H
    obtain ⟨bQ, bN, aV, rfl, b9⟩ := ir (Kd.at_int (Kd.R_reads' a7.out).2.2 a4)
    obtain ⟨j9, d0, rfl⟩ := Kd.R_slice a1.out
    obtain ⟨bP, bM, bG, rfl, aI⟩ := ir (Kd.at_int (Kd.R_reads' a1.out).2.2 (rd a6 a4))
    have aR : 0 ≤ ((rd a6 a4) : Int) := oD (by (with_reducible assumption))
    have aQ : ((rd a6 a4) : Int) < ((aC.length : Int) : Int) := oD (by (with_reducible assumption))
    obtain ⟨aD, bS, b4, aS, gl26, cl26, HG26⟩ := Kd.R_form a1.out oM
    (cases b4)
    have b5 := am aS
    have GG26 := am HG26
    clear aS gl26 HG26
    (simp only [pI] at aI)
    obtain ⟨bB, hf26_0⟩ := Kd.R_celln 0 a1.out ((rd a6 a4) : Int) aR aQ
    replace aR := eq_true aR
    replace aQ := eq_true aQ
    have dZ := Kd.R_putg a1.out ((rd a6 a4) : Int) (wrap64 ((rd aC (rd a6 a4)) + 1))
    go_wp2_with (first | ((with_reducible refine pZ (t := 3) (p := 44) rfl ?_); refine pM (t := 3) (p := 44) (v := ?vo_w91) (w1 := (wr.setCell ⟨aD, ((rd a6 a4) : Int).toNat, none⟩ (.int .i64 (wrap64 ((rd aC (rd a6 a4)) + 1))))) ?hg ?ho ?hn ?hr ?_; (case ho => rfl); (case hg => rfl); (case hn => rfl); (case hr => (go_simp; done)); intro w91 hw; have hg : wr.grownBy w91 (some aD) := (by rw [hw]; exact dZ.2); have hp_ : Kd.R (Kd.int .i64) 3 w91 w.heap.size (fun k_ => some k_ ≠ (.slice (some aV) a6.length bE : Value).ownBlock) (.slice (some ⟨aD, 0, none⟩) aC.length d0) b7 := (by rw [hw, bC.out]; exact dZ.1); clear dZ; replace a3 := am (Kd.R_over' (v := (.slice (some ⟨aD, 0, none⟩) aC.length d0)) (by exact sR <| a3.out) (Kd.R_typed a1.out) (by decide) hg); replace a7 := am (Kd.R_after (v := (.slice (some ⟨aD, 0, none⟩) aC.length d0)) (v1 := (.slice (some ⟨aD, 0, none⟩) aC.length d0)) (ok := (fun _ => True)) (by exact sR <| Kd.R_mono a7.out (fun _ hk => ⟨trivial, hk⟩)) hg (.inl rfl)); replace a5 := gG a5 hg a1; replace a1 := am hp_; replace HB := am ((by rw [hw]; exact kX (HB.out) b5.out : Below w.heap.size w w91)); clear hg hw hp_; obtain ⟨j8, iQ, rfl⟩ := Kd.R_slice a3.out; obtain ⟨bO, bL, a_, rfl, aB⟩ := ir (Kd.at_bool (Kd.R_reads' a3.out).2.2 (rd a6 a4)); (try rw [← aU.out] at aB); (try rw [← aW.out] at aB); obtain ⟨c_, cZ, bA, bF, aO, aN, aM, aL, aK, aJ⟩ := ir (oZ bJ.out (rd a6 a4)); obtain rfl : bK = bA := (by injection bF); replace aO := kC HB.out aO; replace aN := kC HB.out aN; replace aM := kC HB.out aM; replace aL := kC HB.out aL; replace aK := kC HB.out aK; replace aJ := kC HB.out aJ) | (go_at_call 53; refine (impl_isQuant.calls _ _ dJ.out).mono ?_; rintro e w93 ⟨rfl, hb⟩; replace a1 := rB a1 hb; replace a3 := rB a3 hb; replace a7 := rB a7 hb; replace a5 := gB a5 hb; replace HB := hX hb; (try clear hb); have h4 := cf6 a5.out) | (go_at_call 130; refine (impl_leads.calls fI.out).mono ?_; rintro e w95 ⟨rfl, hb⟩; replace a1 := rB a1 hb; replace a3 := rB a3 hb; replace a7 := rB a7 hb; replace a5 := gB a5 hb; replace HB := hX hb; (try clear hb)))
    go_ret
    exact ⟨rfl, bW⟩
   replace H := iN H; obtain ⟨i0, H⟩ := H
   replace H := iN H; obtain ⟨h_, H⟩ := H
   generalize hbq67 : vU false aF a2 = iY at H
   have cK := am hbq67.symm; clear hbq67
   replace H := iB H; rcases H with ⟨rfl, H⟩ | ⟨rfl, H⟩
   ·generalize eC : aF.set (a2 : Int).toNat true = eP at H
    have fU := am eC.symm; clear eC
    replace H := am H
    obtain ⟨bQ, bN, aV, rfl, b9⟩ := ir (Kd.at_int (Kd.R_reads' a7.out).2.2 a4)
    obtain ⟨jD, d2, rfl⟩ := Kd.R_slice a1.out
    obtain ⟨bP, bM, bG, rfl, aI⟩ := ir (Kd.at_int (Kd.R_reads' a1.out).2.2 (rd a6 a4))
    have aR : 0 ≤ ((rd a6 a4) : Int) := oD (by (with_reducible assumption))
    have aQ : ((rd a6 a4) : Int) < ((aC.length : Int) : Int) := oD (by (with_reducible assumption))
    obtain ⟨aD, bS, b4, aS, gl26, cl26, HG26⟩ := Kd.R_form a1.out oM
    (cases b4)
    have b5 := am aS
    have GG26 := am HG26
    clear aS gl26 HG26
    (simp only [pI] at aI)
    obtain ⟨bB, hf26_0⟩ := Kd.R_celln 0 a1.out ((rd a6 a4) : Int) aR aQ
    replace aR := eq_true aR
    replace aQ := eq_true aQ
    have e2 := Kd.R_putg a1.out ((rd a6 a4) : Int) (wrap64 ((rd aC (rd a6 a4)) + 1))
    go_wp2_with (first | ((with_reducible refine pZ (t := 3) (p := 44) rfl ?_); refine pM (t := 3) (p := 44) (v := ?vo_w72) (w1 := (wr.setCell ⟨aD, ((rd a6 a4) : Int).toNat, none⟩ (.int .i64 (wrap64 ((rd aC (rd a6 a4)) + 1))))) ?hg ?ho ?hn ?hr ?_; (case ho => rfl); (case hg => rfl); (case hn => rfl); (case hr => (go_simp; done)); intro w72 hw; have hg : wr.grownBy w72 (some aD) := (by rw [hw]; exact e2.2); have hp_ : Kd.R (Kd.int .i64) 3 w72 w.heap.size (fun k_ => some k_ ≠ (.slice (some aV) a6.length bE : Value).ownBlock) (.slice (some ⟨aD, 0, none⟩) aC.length d2) b7 := (by rw [hw, bC.out]; exact e2.1); clear e2; replace a3 := am (Kd.R_over' (v := (.slice (some ⟨aD, 0, none⟩) aC.length d2)) (by exact sR <| a3.out) (Kd.R_typed a1.out) (by decide) hg); replace a7 := am (Kd.R_after (v := (.slice (some ⟨aD, 0, none⟩) aC.length d2)) (v1 := (.slice (some ⟨aD, 0, none⟩) aC.length d2)) (ok := (fun _ => True)) (by exact sR <| Kd.R_mono a7.out (fun _ hk => ⟨trivial, hk⟩)) hg (.inl rfl)); replace a5 := gG a5 hg a1; replace a1 := am hp_; replace HB := am ((by rw [hw]; exact kX (HB.out) b5.out : Below w.heap.size w w72)); clear hg hw hp_; obtain ⟨jC, dW, rfl⟩ := Kd.R_slice a3.out; obtain ⟨bO, bL, a_, rfl, aB⟩ := ir (Kd.at_bool (Kd.R_reads' a3.out).2.2 (rd a6 a4)); (try rw [← aU.out] at aB); (try rw [← aW.out] at aB); (try rw [← cK.out] at aB); obtain ⟨c_, cZ, bA, bF, aO, aN, aM, aL, aK, aJ⟩ := ir (oZ bJ.out (rd a6 a4)); obtain rfl : bK = bA := (by injection bF); replace aO := kC HB.out aO; replace aN := kC HB.out aN; replace aM := kC HB.out aM; replace aL := kC HB.out aL; replace aK := kC HB.out aK; replace aJ := kC HB.out aJ) | (go_at_call 53; refine (impl_isQuant.calls _ _ dJ.out).mono ?_; rintro e w74 ⟨rfl, hb⟩; replace a1 := rB a1 hb; replace a3 := rB a3 hb; replace a7 := rB a7 hb; replace a5 := gB a5 hb; replace HB := hX hb; (try clear hb); have h6 := cf6 a5.out) | (go_at_call 130; refine (impl_leads.calls fI.out).mono ?_; rintro e w76 ⟨rfl, hb⟩; replace a1 := rB a1 hb; replace a3 := rB a3 hb; replace a7 := rB a7 hb; replace a5 := gB a5 hb; replace HB := hX hb; (try clear hb); obtain ⟨gA, g6, dB, dS, aY⟩ := ir (Kd.at_bool (Kd.R_reads' a3.out).2.2 a2); (try rw [← aU.out] at aY); (try rw [← aW.out] at aY); (try rw [← cK.out] at aY); obtain rfl : a_ = dB := (by injection dS); have e_ : 0 ≤ (a2 : Int) := oD (by (with_reducible assumption)); have eV : (a2 : Int) < ((aF.length : Int) : Int) := oD (by (with_reducible assumption)); obtain ⟨cO, iS, gN, fC, gl69, cl69, HG69⟩ := Kd.R_form a3.out oM; (cases gN); have g_ := am fC; have GG69 := am HG69; clear fC gl69 HG69; (simp only [pI] at aB); (simp only [pI] at aY); obtain ⟨hH, hf69_0⟩ := Kd.R_celln false a3.out (a2 : Int) e_ eV; replace e_ := eq_true e_; replace eV := eq_true eV; obtain ⟨hQ, hz77_⟩ := Kd.R_celln false a3.out (a2 : Int) (oD (by (with_reducible assumption))) (oD (by (with_reducible assumption))); have e1 := Kd.R_putg a3.out (a2 : Int) true) | ((with_reducible refine pZ (t := 4) (p := 71) rfl ?_); refine pM (t := 4) (p := 71) (v := ?vo_w78) (w1 := (w76.setCell ⟨cO, (a2 : Int).toNat, none⟩ (.bool true))) ?hg ?ho ?hn ?hr ?_; (case ho => rfl); (case hg => rfl); (case hn => rfl); (case hr => (go_simp; done)); intro w78 hw; have hg : w76.grownBy w78 (some cO) := (by rw [hw]; exact e1.2); have hp_ : Kd.R Kd.bool 4 w78 w.heap.size (fun _ => True) (.slice (some ⟨cO, 0, none⟩) aF.length dW) eP := (by rw [hw, fU.out]; exact e1.1); clear e1; replace a1 := am (Kd.R_over' (v := (.slice (some ⟨cO, 0, none⟩) aF.length dW)) (by exact sR <| a1.out) (Kd.R_typed a3.out) (by decide) hg); replace a7 := am (Kd.R_over' (v := (.slice (some ⟨cO, 0, none⟩) aF.length dW)) (by exact sR <| a7.out) (Kd.R_typed a3.out) (by decide) hg); replace a5 := gG a5 hg a3; replace a3 := am hp_; replace HB := am ((by rw [hw]; exact kX (HB.out) g_.out : Below w.heap.size w w78)); clear hg hw hp_))
    go_roundg k2
    case measure => have := b6.out; have := b8.out; omega
    case rel => exact ⟨b7, eP, (wrap64 (a4 + 1)), rfl, H, ⟨by have := b6.out; have := b8.out; omega⟩, ⟨sR <| a1.out⟩, ⟨sR <| a3.out⟩, ⟨sR <| Kd.R_mono a7.out (fun _ hk => hk.2)⟩, ⟨sB <| a5.out⟩, ⟨bW⟩⟩
   generalize eB : aF.set (a2 : Int).toNat true = eO at H
   have fT := am eB.symm; clear eB
   replace H := am H
   obtain ⟨bQ, bN, aV, rfl, b9⟩ := ir (Kd.at_int (Kd.R_reads' a7.out).2.2 a4)
   obtain ⟨jB, d1, rfl⟩ := Kd.R_slice a1.out
   obtain ⟨bP, bM, bG, rfl, aI⟩ := ir (Kd.at_int (Kd.R_reads' a1.out).2.2 (rd a6 a4))
   have aR : 0 ≤ ((rd a6 a4) : Int) := oD (by (with_reducible assumption))
   have aQ : ((rd a6 a4) : Int) < ((aC.length : Int) : Int) := oD (by (with_reducible assumption))
   obtain ⟨aD, bS, b4, aS, gl26, cl26, HG26⟩ := Kd.R_form a1.out oM
   (cases b4)
   have b5 := am aS
   have GG26 := am HG26
   clear aS gl26 HG26
   (simp only [pI] at aI)
   obtain ⟨bB, hf26_0⟩ := Kd.R_celln 0 a1.out ((rd a6 a4) : Int) aR aQ
   replace aR := eq_true aR
   replace aQ := eq_true aQ
   have e0 := Kd.R_putg a1.out ((rd a6 a4) : Int) (wrap64 ((rd aC (rd a6 a4)) + 1))
   go_wp2_with (first | ((with_reducible refine pZ (t := 3) (p := 44) rfl ?_); refine pM (t := 3) (p := 44) (v := ?vo_w82) (w1 := (wr.setCell ⟨aD, ((rd a6 a4) : Int).toNat, none⟩ (.int .i64 (wrap64 ((rd aC (rd a6 a4)) + 1))))) ?hg ?ho ?hn ?hr ?_; (case ho => rfl); (case hg => rfl); (case hn => rfl); (case hr => (go_simp; done)); intro w82 hw; have hg : wr.grownBy w82 (some aD) := (by rw [hw]; exact e0.2); have hp_ : Kd.R (Kd.int .i64) 3 w82 w.heap.size (fun k_ => some k_ ≠ (.slice (some aV) a6.length bE : Value).ownBlock) (.slice (some ⟨aD, 0, none⟩) aC.length d1) b7 := (by rw [hw, bC.out]; exact e0.1); clear e0; replace a3 := am (Kd.R_over' (v := (.slice (some ⟨aD, 0, none⟩) aC.length d1)) (by exact sR <| a3.out) (Kd.R_typed a1.out) (by decide) hg); replace a7 := am (Kd.R_after (v := (.slice (some ⟨aD, 0, none⟩) aC.length d1)) (v1 := (.slice (some ⟨aD, 0, none⟩) aC.length d1)) (ok := (fun _ => True)) (by exact sR <| Kd.R_mono a7.out (fun _ hk => ⟨trivial, hk⟩)) hg (.inl rfl)); replace a5 := gG a5 hg a1; replace a1 := am hp_; replace HB := am ((by rw [hw]; exact kX (HB.out) b5.out : Below w.heap.size w w82)); clear hg hw hp_; obtain ⟨jA, dV, rfl⟩ := Kd.R_slice a3.out; obtain ⟨bO, bL, a_, rfl, aB⟩ := ir (Kd.at_bool (Kd.R_reads' a3.out).2.2 (rd a6 a4)); (try rw [← aU.out] at aB); (try rw [← aW.out] at aB); (try rw [← cK.out] at aB); obtain ⟨c_, cZ, bA, bF, aO, aN, aM, aL, aK, aJ⟩ := ir (oZ bJ.out (rd a6 a4)); obtain rfl : bK = bA := (by injection bF); replace aO := kC HB.out aO; replace aN := kC HB.out aN; replace aM := kC HB.out aM; replace aL := kC HB.out aL; replace aK := kC HB.out aK; replace aJ := kC HB.out aJ) | (go_at_call 53; refine (impl_isQuant.calls _ _ dJ.out).mono ?_; rintro e w84 ⟨rfl, hb⟩; replace a1 := rB a1 hb; replace a3 := rB a3 hb; replace a7 := rB a7 hb; replace a5 := gB a5 hb; replace HB := hX hb; (try clear hb); have h5 := cf6 a5.out) | (go_at_call 130; refine (impl_leads.calls fI.out).mono ?_; rintro e w86 ⟨rfl, hb⟩; replace a1 := rB a1 hb; replace a3 := rB a3 hb; replace a7 := rB a7 hb; replace a5 := gB a5 hb; replace HB := hX hb; (try clear hb); obtain ⟨gA, g6, dB, dS, aY⟩ := ir (Kd.at_bool (Kd.R_reads' a3.out).2.2 a2); (try rw [← aU.out] at aY); (try rw [← aW.out] at aY); (try rw [← cK.out] at aY); obtain rfl : a_ = dB := (by injection dS); have eY : 0 ≤ (a2 : Int) := oD (by (with_reducible assumption)); have eT : (a2 : Int) < ((aF.length : Int) : Int) := oD (by (with_reducible assumption)); obtain ⟨cN, iR, gM, fB, gl79, cl79, HG79⟩ := Kd.R_form a3.out oM; (cases gM); have gZ := am fB; have GG79 := am HG79; clear fB gl79 HG79; (simp only [pI] at aB); (simp only [pI] at aY); obtain ⟨hG, hf79_0⟩ := Kd.R_celln false a3.out (a2 : Int) eY eT; replace eY := eq_true eY; replace eT := eq_true eT; obtain ⟨hP, hz87_⟩ := Kd.R_celln false a3.out (a2 : Int) (oD (by (with_reducible assumption))) (oD (by (with_reducible assumption))); have d_ := Kd.R_putg a3.out (a2 : Int) true) | ((with_reducible refine pZ (t := 4) (p := 71) rfl ?_); refine pM (t := 4) (p := 71) (v := ?vo_w88) (w1 := (w86.setCell ⟨cN, (a2 : Int).toNat, none⟩ (.bool true))) ?hg ?ho ?hn ?hr ?_; (case ho => rfl); (case hg => rfl); (case hn => rfl); (case hr => (go_simp; done)); intro w88 hw; have hg : w86.grownBy w88 (some cN) := (by rw [hw]; exact d_.2); have hp_ : Kd.R Kd.bool 4 w88 w.heap.size (fun _ => True) (.slice (some ⟨cN, 0, none⟩) aF.length dV) eO := (by rw [hw, fT.out]; exact d_.1); clear d_; replace a1 := am (Kd.R_over' (v := (.slice (some ⟨cN, 0, none⟩) aF.length dV)) (by exact sR <| a1.out) (Kd.R_typed a3.out) (by decide) hg); replace a7 := am (Kd.R_over' (v := (.slice (some ⟨cN, 0, none⟩) aF.length dV)) (by exact sR <| a7.out) (Kd.R_typed a3.out) (by decide) hg); replace a5 := gG a5 hg a3; replace a3 := am hp_; replace HB := am ((by rw [hw]; exact kX (HB.out) gZ.out : Below w.heap.size w w88)); clear hg hw hp_))
   go_roundg k2
   case measure => have := b6.out; have := b8.out; omega
   case rel => exact ⟨b7, eO, (wrap64 (a4 + 1)), rfl, H, ⟨by have := b6.out; have := b8.out; omega⟩, ⟨sR <| a1.out⟩, ⟨sR <| a3.out⟩, ⟨sR <| Kd.R_mono a7.out (fun _ hk => hk.2)⟩, ⟨sB <| a5.out⟩, ⟨bW⟩⟩
end Go.Proofs.Ytkpipmojkhikaaa.PAll
