/- Written by a program of this session over the loaded program, and by hand: Go functions as plain Lean functions, and that a call comes to what they say. -/
import Derived.Test.YtkpipmojkhikaaaVDenied0
import Derived.Test.YtkpipmojkhikaaaVDenied1
import Derived.Test.YtkpipmojkhikaaaVDenied3
import Derived.Test.YtkpipmojkhikaaaVDenied5
import Derived.Test.YtkpipmojkhikaaaVDenied10
import Derived.Test.YtkpipmojkhikaaaVDenied18
import Derived.Test.YtkpipmojkhikaaaVDenied19
import Derived.Test.YtkpipmojkhikaaaVDenied20
import Derived.Test.YtkpipmojkhikaaaVDenied23
import Derived.Test.YtkpipmojkhikaaaBase
import Derived.Test.YtkpipmojkhikaaaSq
namespace Go.Proofs.Ytkpipmojkhikaaa.PAll
open Go.RowKit Go.Proofs.YtkpipmojkhikaaaW.PrintWords Go.Proofs.YtkpipmojkhikaaaW.PrintLast Go.Proofs.YtkpipmojkhikaaaW.PrintMore Go.Proofs.YtkpipmojkhikaaaW.Sq
attribute [local go_sem] qZ qX sT sS qC qB qY qW
set_option linter.unusedVariables false
set_option maxHeartbeats 8000000
set_option maxRecDepth 100000
set_option linter.unusedSimpArgs false
def uI (AT : List (S31) → List Int → Int → Option (Int × List Int)) : Nat → List (S31) → List Int → Int → List Int → Int → Option (Int × List Int)
 | 0, _, _, _, _, _ => none
 | k + 1, x0, x1, x2, x7, x8 => if x8 ≤ x2 then ((xG AT k x0 x1 x7 x8).bind fun a0 => (if x7.length < 17592186044416 then (uI AT k x0 a0.2 x2 (x7 ++ [a0.1]) (wrap64 (x8 + 1))) else (none))) else (if 0 ≤ x2 then (if x2 < (x7.length : Int) then (some (rd x7 x2, x1)) else (none)) else (none))
def yI (AT : List (S31) → List Int → Int → Option (Int × List Int)) (k : Nat) (l0 : List (S31)) (l1 : List Int) (a2 : Int) : Option (Int × List Int) := uI AT k l0 l1 a2 (([] : List Int)) 0
theorem spec_l04AtR.calls (AT : List (S31) → List Int → Int → Option (Int × List Int)) (hAT : ∀ (A0 : Option Addr) (c0 : Nat) (l0 : List (S31)) (P1_ : Nat → Prop) (u9000_ : Value) (l1 : List Int) (a2 r1 : Int) (r2 : List Int) (w0 w : World) (hB : Below w0.heap.size w0 w) (hr0 : ∀ W_, Kept w W_ (fun k_ => P1_ k_) → Kd.C k31 W_ A0 l0.length l0) (hc0 : l0.length ≤ c0) (aM : Kd.R (Kd.int .i64) 3 w w0.heap.size P1_ u9000_ l1) (h : AT l0 l1 a2 = some (r1, r2)), Calls Try.prog 52 #[.slice A0 l0.length c0, u9000_, .int .i64 a2] w fun e w' => e = .returned (.int .i64 r1) ∧ Kd.R (Kd.int .i64) 3 w' w0.heap.size (fun k_ => (P1_ k_ ∨ w.heap.size ≤ k_)) u9000_ r2 ∧ Below w0.heap.size w0 w' ∧ Kept w w' (fun k_ => P1_ k_)) (k : Nat) (A0 : Option Addr) (c0 : Nat) (l0 : List (S31)) (P1_ : Nat → Prop) (u9000_ : Value) (l1 : List Int) (a2 r1 : Int) (r2 : List Int) (w0 w : World) (hB : Below w0.heap.size w0 w) (hr0 : ∀ W_, Kept w W_ (fun k_ => P1_ k_) → Kd.C k31 W_ A0 l0.length l0) (hc0 : l0.length ≤ c0) (aM : Kd.R (Kd.int .i64) 3 w w0.heap.size P1_ u9000_ l1) (h : yI AT k l0 l1 a2 = some (r1, r2)) :
  Calls Try.prog 52 #[.slice A0 l0.length c0, u9000_, .int .i64 a2] w fun e w' => e = .returned (.int .i64 r1) ∧ Kd.R (Kd.int .i64) 3 w' w0.heap.size (fun k_ => (P1_ k_ ∨ w.heap.size ≤ k_)) u9000_ r2 ∧ Below w0.heap.size w0 w' ∧ Kept w w' (fun k_ => P1_ k_) := by
 have HAT := am hAT
 clear hAT
 have aY := am hr0
 have aZ := am hc0
 clear hr0 hc0
 have aC := am (show Kd.R (Kd.int .i64) 3 w w0.heap.size (fun k_ => (P1_ k_ ∨ w.heap.size ≤ k_)) u9000_ l1 from Kd.R_mono aM (fun k_ hk => (.inl hk)))
 have HK := am (Kept.refl w (fun k_ => P1_ k_))
 have HW0 := am hB.size
 have HB := am hB
 clear hB
 have H := h
 clear h
 unfold yI at H
 generalize a8 : ([] : List Int) = aR at H
 have aH := am a8.symm; clear a8
 replace H := am H
 go_enter Try.func52, Try.ntmps52
 go_wp2_with (first | ((with_reducible refine gW ?_); first | (refine lE (Kd.int .i64) 3 9 ?_; intro b3 w4 a9 hb; (rw [← aH.out] at a9); have aJ := am (Kd.R_lower (Kd.R_new' (Kd.R_newM (M := fun k_ => (P1_ k_ ∨ w.heap.size ≤ k_)) a9 (by exact HK.out.1) (fun k_ h_ => .inr h_)) (Kd.R_lt (by exact sR <| aC.out))) (kE (by exact sW HB.out))); replace aC := rE aC a9 hb; replace HK := am (Kept.below (S := (fun k_ => P1_ k_)) (by repeat (first | (with_reducible first | exact HK.out | apply Kept.alloc | apply Kept.drewN | apply Kept.drew) | exact HK.out)) hb); replace HB := hB HB hb; clear hb a9)))
 go_loopg [7, 8] k (fun kq v7 v8 w' => ∃ (a3 : List Int) (a4 : List Int) (a5 : Int), v8 = .int .i64 a5 ∧ Aside0 (uI AT kq l0 a3 a2 a4 a5 = some (r1, r2)) ∧ Aside0 (kq ≤ k) ∧ Aside0 (Kd.R (Kd.int .i64) 3 w' w0.heap.size (fun k_ => (P1_ k_ ∨ w.heap.size ≤ k_) ∧ some k_ ≠ (v7 : Value).ownBlock) u9000_ a3) ∧ Aside0 (Kd.R (Kd.int .i64) 3 w' w0.heap.size (fun k_ => (P1_ k_ ∨ w.heap.size ≤ k_) ∧ some k_ ≠ (u9000_ : Value).ownBlock) v7 a4) ∧ Aside0 (Kept w w' (fun k_ => P1_ k_)) ∧ Aside0 (Below w0.heap.size w0 w'))
 case atStart => exact ⟨l1, aR, 0, rfl, H, ⟨Nat.le_refl _⟩, ⟨sR <| aC.out⟩, ⟨sR <| Kd.R_mono aJ.out (fun _ hk => ⟨hk.1.1, hk.2⟩)⟩, ⟨by repeat (first | (with_reducible first | exact HK.out | apply Kept.alloc | apply Kept.drewN | apply Kept.drew) | exact HK.out)⟩, ⟨sW HB.out⟩⟩
 clear H
 obtain ⟨a3, a4, a5, rfl, HA, aN, a0, a1, HK, HB⟩ := hrel
 cases gk with
 | zero => cases HA.out
 | succ k1 =>
  obtain ⟨H⟩ := HA
  simp only [uI] at H
  replace H := iD H; rcases H with ⟨aU, H⟩ | ⟨aU, H⟩
  ·replace H := oA H; obtain ⟨⟨a6, aE⟩, A7, H⟩ := H
   try dsimp only at H
   replace H := iP H; obtain ⟨c8, H⟩ := H
   have aV := am c8
   clear c8
   generalize a7 : a4 ++ [a6] = aQ at H
   have aG := am a7.symm; clear a7
   replace H := am H
   obtain ⟨aD, aA, rfl⟩ := Kd.R_slice a0.out
   obtain ⟨aW, aT, rfl⟩ := Kd.R_slice a1.out
   go_wp2_with (first | ((with_reducible refine gW ?_); first | (refine gF 82 (some 20) rfl ?_; refine gS Try.func82 (spec_l04One.calls AT HAT.out k1 _ _ l0 (fun k_ => some k_ = (.slice aD a3.length aA : Value).ownBlock) (.slice aD a3.length aA) a3 _ _ a4 a5 a6 aE w0 _ (sW HB.out) (Kd.C_kept_call aY.out (by repeat (first | (with_reducible first | exact HK.out | apply Kept.alloc | apply Kept.drewN | apply Kept.drew) | exact HK.out)) (fun k_ hs_ => (fun e_ => (a0.out.1 k_ e_.symm).1) hs_)) aZ.out (Kd.R_tight rfl a0.out) (Kd.C_kept_own (a1.out) (fun k_ hk_ hs_ => (hk_.2) hs_)) ((Kd.R_reads' a1.out).2.1) A7.out) ?_; rintro w11 ⟨aK, hb, hkp⟩; replace a1 := am (Kd.R_mono (ok' := fun k_ => (P1_ k_ ∨ w.heap.size ≤ k_) ∧ some k_ ≠ (.slice aD a3.length aA : Value).ownBlock) (Kd.R_keptB (a1.out) hkp (fun k_ hk_ hs_ => (hk_.2) hs_)) (fun k_ hk_ => ⟨hk_.1.1, hk_.1.2⟩)); replace HK := am (Kept.then_ (S := (fun k_ => P1_ k_)) (by repeat (first | (with_reducible first | exact HK.out | apply Kept.alloc | apply Kept.drewN | apply Kept.drew) | exact HK.out)) hkp (fun k_ hs_ => (fun e_ => (a0.out.1 k_ e_.symm).1) hs_)); replace a0 := am (Kd.R_reok rfl aK (fun k_ e_ => a0.out.1 k_ e_)); replace HB := am hb; (try clear hb); (try clear hkp); (try clear aK)) | ((with_reducible refine kW (b := .append) (xs := #[.tmp 15, .tmp 21]) rfl ?_); at_builtin; refine Kd.R_append (Kd.int .i64) (w0 := w0) w0.heap.size rfl (.tmp 15) (.tmp 21) 25 3 (.int .i64 0) 8 rfl Try.underlying25 a0u rfl (by decide) oM (.slice aW a4.length aT) a4 a6 [.int .i64 a6] (fun k_ => (P1_ k_ ∨ w.heap.size ≤ k_) ∧ some k_ ≠ (.slice aD a3.length aA : Value).ownBlock) (fun _ => False) rfl rfl ?aP (fun _ hk => hk.elim) ?aF ?aO ?aB ?aS ?aL ?_; (case aP => exact rfl); (case aB => exact (by exact sW HB.out)); (case aF => exact (fun k_ hk => ⟨(.inr (Nat.le_trans (by exact HK.out.1) hk)), Kd.fresh' (Kd.R_lt (by exact sR <| a0.out)) k_ hk⟩)); (case aO => exact (by exact sR <| a1.out)); (case aS => exact (kE (by exact sW HB.out))); (case aL => have := aV.out; omega); intro b2 w12 ho hb hg hat; rw [← aG.out] at ho; replace a0 := am (Kd.R_after (ok := (fun k_ => (P1_ k_ ∨ w.heap.size ≤ k_))) (by exact sR <| a0.out) hg hat); replace HB := am hb; replace HK := am (qG (S := (fun k_ => P1_ k_)) hg (by repeat (first | (with_reducible first | exact HK.out | apply Kept.alloc | apply Kept.drewN | apply Kept.drew) | exact HK.out)) (fun k_ e_ => (a1.out.1 k_ e_).1)); have aI := am ho; clear a1; clear ho hb hg hat)))
   go_roundg k1
   case measure => have := aN.out; omega
   case rel => exact ⟨aE, aQ, (wrap64 (a5 + 1)), rfl, H, ⟨by have := aN.out; omega⟩, ⟨sR <| a0.out⟩, ⟨sR <| aI.out⟩, ⟨by repeat (first | (with_reducible first | exact HK.out | apply Kept.alloc | apply Kept.drewN | apply Kept.drew) | exact HK.out)⟩, ⟨sW HB.out⟩⟩
  replace H := iN H; obtain ⟨b0, H⟩ := H
  replace H := iN H; obtain ⟨a_, H⟩ := H
  simp only [Option.some.injEq, Prod.mk.injEq] at H
  obtain ⟨rfl, rfl⟩ := H
  obtain ⟨b7, b6, rfl⟩ := Kd.R_slice a1.out
  obtain ⟨b5, b4, b1, rfl, aX⟩ := ix (Kd.at_int (Kd.R_reads' a1.out).2.2 a2)
  go_wp2
  go_ret
  exact ⟨rfl, sR <| Kd.R_mono a0.out (fun _ hk => hk.1), sW HB.out, by repeat (first | (with_reducible first | exact HK.out | apply Kept.alloc | apply Kept.drewN | apply Kept.drew) | exact HK.out)⟩
def tK : Nat → List (S31) → List Int → Int → Option (Int × List Int)
  | 0 => fun _ _ _ => none
  | n + 1 => fun a0 a1 a2 => yI (tK n) (n + 1) a0 a1 a2
theorem spec_l04At.calls (k : Nat) : ∀ (A0 : Option Addr) (c0 : Nat) (l0 : List (S31)) (P1_ : Nat → Prop) (u9000_ : Value) (l1 : List Int) (a2 r1 : Int) (r2 : List Int) (w0 w : World) (hB : Below w0.heap.size w0 w) (hr0 : ∀ W_, Kept w W_ (fun k_ => P1_ k_) → Kd.C k31 W_ A0 l0.length l0) (hc0 : l0.length ≤ c0) (a0 : Kd.R (Kd.int .i64) 3 w w0.heap.size P1_ u9000_ l1) (h : tK k l0 l1 a2 = some (r1, r2)), Calls Try.prog 52 #[.slice A0 l0.length c0, u9000_, .int .i64 a2] w fun e w' => e = .returned (.int .i64 r1) ∧ Kd.R (Kd.int .i64) 3 w' w0.heap.size (fun k_ => (P1_ k_ ∨ w.heap.size ≤ k_)) u9000_ r2 ∧ Below w0.heap.size w0 w' ∧ Kept w w' (fun k_ => P1_ k_) := by
 induction k with
 | zero => intro A0 c0 l0 P1_ u9000_ l1 a2 r1 r2 w0 w hB hr0 hc0 a0 h; exact absurd h (by simp [tK])
 | succ n ih => exact spec_l04AtR.calls _ ih (n + 1)
mutual
def vB : Nat → List (S31) → List Int → Bool → Option (Int × Bool)
 | 0, _, _, _ => none
 | k + 1, x0, x1, a5 => if a5 = true then (some (0, false)) else ((xX k x0).bind fun a4 => (uC k x1 a4 0 0))
def uC : Nat → List Int → List (S31) → Int → Int → Option (Int × Bool)
 | 0, _, _, _, _ => none
 | k + 1, x1, x6, x7, x8 => if x8 < (x6.length : Int) then (if 0 ≤ x8 then ((rC ((kA x6 x8).f0)).bind fun a3 => (if a3 = true then (uC k x1 x6 (wrap64 (x7 + ((kA x6 x8).f4))) (wrap64 (x8 + 1))) else (uC k x1 x6 x7 (wrap64 (x8 + 1))))) else (none)) else (if x7 > 12 then (some (0, false)) else ((vL k x6 x1).bind fun a2 => (if a2 = true then ((some (([] : List Int) : List Int)).bind fun a0 => (if a0.length + x1.length < 17592186044416 then ((tK k x6 (a0 ++ x1) (wrap64 ((x6.length : Int) - 1))).bind fun a1 => (some (a1.1, true))) else (none))) else (some (0, false)))))
end
def tL (k : Nat) (l0 : List (S31)) (l1 : List Int) : Option (Int × Bool) := (sF k l0).bind fun a0 => (if a0 = true then (vB k l0 l1 ((l1.length : Int) != 8)) else (vB k l0 l1 true))
theorem spec_Value.calls {k : Nat} {A0 : Option Addr} {c0 : Nat} {l0 : List (S31)} {A1 : Option Addr} {c1 : Nat} {l1 : List Int} {r1 : Int} {r2 : Bool} {w : World} (hr0 : Kd.C k31 w A0 l0.length l0) (hc0 : l0.length ≤ c0) (hr1 : Kd.C (Kd.int .i64) w A1 l1.length l1) (hc1 : l1.length ≤ c1) (h : tL k l0 l1 = some (r1, r2)) :
  Calls Try.prog 15 #[.slice A0 l0.length c0, .slice A1 l1.length c1] w fun e w' => e = .returned (.tuple #[.int .i64 r1, .bool r2]) ∧ Below w.heap.size w w' := by
 have aU := am hr0
 have aW := am hc0
 clear hr0 hc0
 have aT := am hr1
 have b8 := am hc1
 clear hr1 hc1
 have HB := am (Below.refl w.heap.size w)
 have H := h
 clear h
 unfold tL at H
 have aV := am H; clear H
 go_enter Try.func15, Try.ntmps15
 go_upto_region 1 with (fail)
 go_cut [16] (fun bO wc => ∃ (kq : Nat) (a6 : Bool), bO = .bool a6 ∧ Aside0 (vB kq l0 l1 a6 = some (r1, r2)) ∧ Aside0 (kq ≤ k) ∧ Aside0 (Below w.heap.size w wc))
 case first =>
  have H := aV.out
  clear aV
  replace H := oA H; obtain ⟨bU, A4, H⟩ := H
  replace H := iB H; rcases H with ⟨rfl, H⟩ | ⟨rfl, H⟩
  ·replace H := am H
   go_wp2_with (first | ((with_reducible refine gW ?_); first | (refine gF 13 (some 10) rfl ?_; refine gS Try.func13 (spec_TermOk.calls (sC (Kd.C_below aU.out HB.out)) aW.out A4.out) ?_; rintro w6 hb; replace HB := hB HB hb; (try clear hb))))
   go_meet
   case rel => exact ⟨_, (((l1.length : Int) != 8)), rfl, H, ⟨oM⟩, ⟨sW HB.out⟩⟩
  replace H := am H
  go_wp2_with (first | ((with_reducible refine gW ?_); first | (refine gF 13 (some 10) rfl ?_; refine gS Try.func13 (spec_TermOk.calls (sC (Kd.C_below aU.out HB.out)) aW.out A4.out) ?_; rintro w7 hb; replace HB := hB HB hb; (try clear hb))))
  go_meet
  case rel => exact ⟨_, true, rfl, H, ⟨oM⟩, ⟨sW HB.out⟩⟩
 clear aV
 obtain ⟨kq, a6, rfl, HA, aE, HB⟩ := hcut
 cases kq with
 | zero => cases HA.out
 | succ b4 =>
  obtain ⟨H⟩ := HA
  simp only [vB] at H
  replace H := iB H; rcases H with ⟨rfl, H⟩ | ⟨rfl, H⟩
  ·simp only [Option.some.injEq, Prod.mk.injEq] at H
   obtain ⟨rfl, rfl⟩ := H
   go_wp2
   go_ret2
   exact ⟨rfl, sW HB.out⟩
  replace H := oA H; obtain ⟨a4, A9, H⟩ := H
  replace H := am H
  go_wp2_with (first | ((with_reducible refine gW ?_); first | (refine gF 49 (some 18) rfl ?_; refine gT Try.func49 (spec_Prune.calls (sC (Kd.C_below aU.out HB.out)) aW.out A9.out) ?_; rintro bC w10 ⟨b6, hb⟩; have b3 := rL b6 HB; replace HB := hB HB hb; (try clear hb); (try clear b6))))
  go_loopg [7, 8] b4 (fun kq v7 v8 w' => ∃ (a2 : Int) (a1 : Int), v7 = .int .i64 a2 ∧ v8 = .int .i64 a1 ∧ Aside0 (uC kq l1 a4 a2 a1 = some (r1, r2)) ∧ Aside0 (kq ≤ b4) ∧ Aside0 (Kd.R k31 31 w' w.heap.size (fun _ => True) bC a4) ∧ Aside0 (Below w.heap.size w w'))
  case atStart => exact ⟨0, 0, rfl, rfl, H, ⟨Nat.le_refl _⟩, ⟨sR <| b3.out⟩, ⟨sW HB.out⟩⟩
  clear H
  obtain ⟨a2, a1, rfl, rfl, HA, aD, a0, HB⟩ := hrel
  cases gk with
  | zero => cases HA.out
  | succ k2 =>
   obtain ⟨H⟩ := HA
   simp only [uC] at H
   replace H := iD H; rcases H with ⟨aZ, H⟩ | ⟨aZ, H⟩
   ·replace H := iN H; obtain ⟨bQ, H⟩ := H
    replace H := oA H; obtain ⟨bT, bA, H⟩ := H
    replace H := iB H; rcases H with ⟨rfl, H⟩ | ⟨rfl, H⟩
    ·replace H := am H
     obtain ⟨cK, cF, rfl⟩ := Kd.R_slice a0.out
     obtain ⟨bG, bF, aC, rfl, aM, aK, aJ, aI, aH, aG⟩ := ix (oZ (Kd.R_reads' a0.out).2.2 a1)
     go_wp2_with (first | ((with_reducible refine gW ?_); first | (refine gD (some 30) Try.func50 rfl (spec_l02Quant.calls bA.out) fun nd => ?_; obtain ⟨bZ, bV, a_, bH, bN, bM, bL, bK, bJ, bI⟩ := ix (oZ (Kd.R_reads' a0.out).2.2 a1); obtain rfl : aC = a_ := (by injection bH))))
     go_roundg k2
     case measure => have := aE.out; have := aD.out; omega
     case rel => exact ⟨(wrap64 (a2 + ((kA a4 a1).f4))), (wrap64 (a1 + 1)), rfl, rfl, H, ⟨by have := aE.out; have := aD.out; omega⟩, ⟨sR <| a0.out⟩, ⟨sW HB.out⟩⟩
    replace H := am H
    obtain ⟨cJ, cE, rfl⟩ := Kd.R_slice a0.out
    obtain ⟨bG, bF, aC, rfl, aM, aK, aJ, aI, aH, aG⟩ := ix (oZ (Kd.R_reads' a0.out).2.2 a1)
    go_wp2_with (first | ((with_reducible refine gW ?_); first | (refine gD (some 30) Try.func50 rfl (spec_l02Quant.calls bA.out) fun nd => ?_)))
    go_roundg k2
    case measure => have := aE.out; have := aD.out; omega
    case rel => exact ⟨a2, (wrap64 (a1 + 1)), rfl, rfl, H, ⟨by have := aE.out; have := aD.out; omega⟩, ⟨sR <| a0.out⟩, ⟨sW HB.out⟩⟩
   by_cases a5 : a2 > 12
   ·rw [if_pos a5] at H
    have aY : decide (12 < a2) = true := decide_eq_true a5
    clear a5
    simp only [Option.some.injEq, Prod.mk.injEq] at H
    obtain ⟨rfl, rfl⟩ := H
    obtain ⟨cI, cC, rfl⟩ := Kd.R_slice a0.out
    go_wp2
    go_ret2
    exact ⟨rfl, sW HB.out⟩
   rw [if_neg a5] at H
   have aY : decide (12 < a2) = false := decide_eq_false a5
   clear a5
   replace H := oA H; obtain ⟨bS, b9, H⟩ := H
   replace H := iB H; rcases H with ⟨rfl, H⟩ | ⟨rfl, H⟩
   ·replace H := oS H; obtain ⟨aN, b1, H⟩ := H
    replace H := iP H; obtain ⟨b7, H⟩ := H
    have b2 := am b7
    clear b7
    generalize aA : aN ++ l1 = a8 at H
    have b0 := am aA.symm; clear aA
    replace H := oA H; obtain ⟨⟨bE, bD⟩, bP, H⟩ := H
    try dsimp only at H
    simp only [Option.some.injEq, Prod.mk.injEq] at H
    obtain ⟨rfl, rfl⟩ := H
    obtain ⟨cH, cB, rfl⟩ := Kd.R_slice a0.out
    go_wp2_with (first | (go_at_call 51; refine (spec_l04Fits.calls (sC (Kd.R_reads' a0.out).2.2) ((Kd.R_reads' a0.out).2.1) (sC (Kd.C_below aT.out HB.out)) b8.out b9.out).mono ?_; rintro e w24 ⟨rfl, hb⟩; replace a0 := rB a0 hb; replace HB := hB HB hb; (try clear hb)) | ((with_reducible refine gW ?_); first | ((with_reducible refine qF (N := 47) rfl ?_); (try (refine xB (by rfl) ?_; dsimp only)); refine Kd.R_lit (Kd.int .i64) _ 3 ?hg (N := 47) ?hd (xs := ([] : List Int)) (inner := []) (ok := fun _ => True) (okp := fun _ => True) ?hr ?hp (fun _ hk => hk) trivial (Below.refl _ _) (Nat.le_refl _) (by simp) ?_; (case hd => rfl); (case hg => rfl); (case hr => (go_simp; done)); (case hp => exact (Reps.none _ _)); intro bB w25 a9 hb hg_ hnew_; clear hg_ hnew_; (rw [← b1.out] at a9); replace a0 := rB a0 hb; have a7 := rL a9 HB; replace HB := hB HB hb; clear hb a9) | ((with_reducible refine kW (b := .append) (xs := #[.tmp 47, .tmp 48]) rfl ?_); (try (refine xB (by rfl) ?_; dsimp only)); at_builtin; refine Kd.R_append_rows (Kd.int .i64) (w0 := w) w.heap.size rfl (.tmp 47) (.tmp 48) 25 3 (.int .i64 0) 8 rfl Try.underlying25 a0u rfl (by decide) oM bB aN l1 _ _ _ (fun _ => True) (fun _ => False) rfl rfl ?aO ?aR (fun _ _ h => h) (fun _ h => h.elim) ?aF ?aB ?aS ?aL ?_; (case aR => exact sC (Kd.C_below aT.out HB.out)); (case aB => exact (by exact sW HB.out)); (case aF => exact (fun _ _ => trivial)); (case aO => exact (by exact sR <| a7.out)); (case aS => exact (kE (by exact sW HB.out))); (case aL => have := b2.out; omega); intro bR w27 ho hb hg hat; rw [← b0.out] at ho; replace a0 := oV a0 a7 hg; replace HB := am hb; have a3 := am ho; clear a7; clear ho hb hg hat; obtain ⟨aX, aQ, rfl⟩ := Kd.R_slice a3.out) | (refine gF 52 (some 53) rfl ?_; refine gS Try.func52 (spec_l04At.calls k2 _ _ a4 (fun k_ => some k_ = (.slice aX a8.length aQ : Value).ownBlock) (.slice aX a8.length aQ) a8 (wrap64 ((a4.length : Int) - 1)) bE bD w _ (sW HB.out) (Kd.C_kept_own ((Kd.R_apart' a0.out (Kd.R_typed a3.out) (by decide))) (fun k_ hk_ hs_ => (hk_.2) hs_)) ((Kd.R_reads' a0.out).2.1) (Kd.R_tight rfl a3.out) bP.out) ?_; rintro w29 ⟨b5, hb, hkp⟩; replace a0 := am (Kd.R_mono (ok' := fun k_ => True) (Kd.R_keptB ((Kd.R_apart' a0.out (Kd.R_typed a3.out) (by decide))) hkp (fun k_ hk_ hs_ => (hk_.2) hs_)) (fun k_ hk_ => trivial)); replace a3 := am (Kd.R_reok rfl b5 (fun k_ e_ => a3.out.1 k_ e_)); replace HB := am hb; (try clear hb); (try clear hkp); (try clear b5))))
    go_ret2
    exact ⟨rfl, sW HB.out⟩
   simp only [Option.some.injEq, Prod.mk.injEq] at H
   obtain ⟨rfl, rfl⟩ := H
   obtain ⟨cG, b_, rfl⟩ := Kd.R_slice a0.out
   go_wp2_with (first | (go_at_call 51; refine (spec_l04Fits.calls (sC (Kd.R_reads' a0.out).2.2) ((Kd.R_reads' a0.out).2.1) (sC (Kd.C_below aT.out HB.out)) b8.out b9.out).mono ?_; rintro e w31 ⟨rfl, hb⟩; replace a0 := rB a0 hb; replace HB := hB HB hb; (try clear hb)))
   go_ret2
   exact ⟨rfl, sW HB.out⟩
def sV : Nat → List Int → Int → Option (List Int)
 | 0, _, _ => none
 | k + 1, x1, x2 => if x2 < 8 then (if x1.length < 17592186044416 then (sV k (x1 ++ [0]) (wrap64 (x2 + 1))) else (none)) else (some x1)
def xF (k : Nat)  : Option (List Int) := sV k (([] : List Int)) 0
theorem spec_l04Zeros.calls {k : Nat} {r : List Int} {w : World} (h : xF k  = some r) :
  Calls Try.prog 67 #[] w fun e w' => ∃ aA : Value, e = .returned (aA) ∧ Kd.R (Kd.int .i64) 3 w' w.heap.size (fun _ => True) aA r ∧ Below w.heap.size w w' := by
 have HB := am (Below.refl w.heap.size w)
 have H := h
 clear h
 unfold xF at H
 generalize a4 : ([] : List Int) = aE at H
 have a7 := am a4.symm; clear a4
 replace H := am H
 go_enter Try.func67, Try.ntmps67
 go_wp2_with (first | ((with_reducible refine gW ?_); first | (refine lE (Kd.int .i64) 3 3 ?_; intro aJ w1 a5 hb; (rw [← a7.out] at a5); have a9 := rL a5 HB; replace HB := hB HB hb; clear hb a5)))
 go_loopg [1, 2] k (fun kq v1 v2 w' => ∃ (a0 : List Int) (a1 : Int), v2 = .int .i64 a1 ∧ Aside0 (sV kq a0 a1 = some r) ∧ Aside0 (kq ≤ k) ∧ Aside0 (Kd.R (Kd.int .i64) 3 w' w.heap.size (fun _ => True) v1 a0) ∧ Aside0 (Below w.heap.size w w'))
 case atStart => exact ⟨aE, 0, rfl, H, ⟨Nat.le_refl _⟩, ⟨sR <| a9.out⟩, ⟨sW HB.out⟩⟩
 clear H
 obtain ⟨a0, a1, rfl, HA, aC, a2, HB⟩ := hrel
 cases gk with
 | zero => cases HA.out
 | succ k1 =>
  obtain ⟨H⟩ := HA
  simp only [sV] at H
  replace H := iD H; rcases H with ⟨aG, H⟩ | ⟨aG, H⟩
  ·replace H := iP H; obtain ⟨c4, H⟩ := H
   have aH := am c4
   clear c4
   generalize a3 : a0 ++ [0] = aD at H
   have a6 := am a3.symm; clear a3
   replace H := am H
   go_wp2_with (first | ((with_reducible refine kW (b := .append) (xs := #[.tmp 8, .tmp 9]) rfl ?_); at_builtin; refine Kd.R_append (Kd.int .i64) (w0 := w) w.heap.size rfl (.tmp 8) (.tmp 9) 25 3 (.int .i64 0) 8 rfl Try.underlying25 a0u rfl (by decide) oM u1 a0 0 [.int .i64 0] (fun _ => True) (fun _ => False) rfl rfl ?aP (fun _ hk => hk.elim) ?aF ?aO ?aB ?aS ?aL ?_; (case aP => exact rfl); (case aB => exact (by exact sW HB.out)); (case aF => exact (fun _ _ => trivial)); (case aO => exact (by exact sR <| a2.out)); (case aS => exact (kE (by exact sW HB.out))); (case aL => have := aH.out; omega); intro aI w5 ho hb hg hat; rw [← a6.out] at ho; replace HB := am hb; have a8 := am ho; clear a2; clear ho hb hg hat))
   go_roundg k1
   case measure => have := aC.out; omega
   case rel => exact ⟨aD, (wrap64 (a1 + 1)), rfl, H, ⟨by have := aC.out; omega⟩, ⟨sR <| a8.out⟩, ⟨sW HB.out⟩⟩
  obtain rfl := oI H
  go_wp2
  go_ret
  exact ⟨_, rfl, sR <| a2.out, sW HB.out⟩
def wY (k : Nat) (l0 : List (S31)) : Option (Int × Bool) := (qK k l0).bind fun a2 => (if a2 = true then ((xF k).bind fun a1 => ((tL k l0 a1).bind fun a0 => (some (a0.1, a0.2)))) else (some (0, false)))
theorem spec_Holds.calls {k : Nat} {A0 : Option Addr} {c0 : Nat} {l0 : List (S31)} {r1 : Int} {r2 : Bool} {w : World} (hr0 : Kd.C k31 w A0 l0.length l0) (hc0 : l0.length ≤ c0) (h : wY k l0 = some (r1, r2)) :
  Calls Try.prog 37 #[.slice A0 l0.length c0] w fun e w' => e = .returned (.tuple #[.int .i64 r1, .bool r2]) ∧ Below w.heap.size w w' := by
 have a1 := am hr0
 have a2 := am hc0
 clear hr0 hc0
 have HB := am (Below.refl w.heap.size w)
 have H := h
 clear h
 unfold wY at H
 replace H := oA H; obtain ⟨a8, A2, H⟩ := H
 replace H := iB H; rcases H with ⟨rfl, H⟩ | ⟨rfl, H⟩
 ·replace H := oA H; obtain ⟨a7, A4, H⟩ := H
  replace H := oA H; obtain ⟨⟨a6, a5⟩, A5, H⟩ := H
  try dsimp only at H
  simp only [Option.some.injEq, Prod.mk.injEq] at H
  obtain ⟨rfl, rfl⟩ := H
  go_enter Try.func37, Try.ntmps37
  go_wp2_with (first | ((with_reducible refine gW ?_); first | (refine gC 66 (some 5) Try.func66 #[.slice A0 l0.length c0] ?_; (with_reducible refine (spec_Sentence.calls ?side1 ?side2 A2.out).mono ?_); (case side1 => repeat (first | exact a1.out | (with_reducible refine Kd.C_alloc ?_ _) | (with_reducible refine Kd.C_drewN ?_ _) | (with_reducible refine Kd.C_drew ?_))); (case side2 => exact a2.out); rintro e w6 ⟨rfl, hb⟩; refine ⟨_, rfl, ?_⟩; replace HB := hB HB hb; (try clear hb)) | ((with_reducible refine a1u (f := 67) rfl ?_); refine a5h (some 8) rfl rfl Try.func67 (by kernel_rfl) rfl #[] rfl (by (try simp only [List.map_toArray, List.map_cons, List.map_nil]); done) ?_; refine (spec_l04Zeros.calls A4.out).mono ?_; rintro e w7 ⟨a4, rfl, a3, hb⟩; refine ⟨_, rfl, ?_⟩; have a0 := rL a3 HB; replace HB := hB HB hb; (try clear hb); (try clear a3); obtain ⟨aA, a9, rfl⟩ := Kd.R_slice a0.out) | (refine gF 15 (some 9) rfl ?_; refine gS Try.func15 (spec_Value.calls (sC (Kd.C_below a1.out HB.out)) a2.out (sC (Kd.R_reads' a0.out).2.2) ((Kd.R_reads' a0.out).2.1) A5.out) ?_; rintro w9 hb; replace a0 := rB a0 hb; replace HB := hB HB hb; (try clear hb))))
  go_ret2
  exact ⟨rfl, sW HB.out⟩
 simp only [Option.some.injEq, Prod.mk.injEq] at H
 obtain ⟨rfl, rfl⟩ := H
 go_enter Try.func37, Try.ntmps37
 go_wp2_with (first | ((with_reducible refine gW ?_); first | (refine gC 66 (some 5) Try.func66 #[.slice A0 l0.length c0] ?_; (with_reducible refine (spec_Sentence.calls ?side1 ?side2 A2.out).mono ?_); (case side1 => repeat (first | exact a1.out | (with_reducible refine Kd.C_alloc ?_ _) | (with_reducible refine Kd.C_drewN ?_ _) | (with_reducible refine Kd.C_drew ?_))); (case side2 => exact a2.out); rintro e w10 ⟨rfl, hb⟩; refine ⟨_, rfl, ?_⟩; replace HB := hB HB hb; (try clear hb))))
 go_ret2
 exact ⟨rfl, sW HB.out⟩
def xR (k : Nat) (l0 : List (S31)) : Option (Int) := (uW k l0).bind fun a1 => (if a1 = true then ((rH k l0).bind fun a0 => (some a0)) else (some 0))
theorem impl_Bits.calls {k : Nat} {A0 : Option Addr} {c0 : Nat} {l0 : List (S31)} {r : Int} {w : World} (hr0 : Kd.C k31 w A0 l0.length l0) (hc0 : l0.length ≤ c0) (h : xR k l0 = some r) :
  Calls Try.prog 38 #[.slice A0 l0.length c0] w fun e w' => e = .returned (.int .i64 r) ∧ Below w.heap.size w w' := by
 have a0 := am hr0
 have a1 := am hc0
 clear hr0 hc0
 have HB := am (Below.refl w.heap.size w)
 have H := h
 clear h
 unfold xR at H
 replace H := oA H; obtain ⟨a3, A2, H⟩ := H
 replace H := iB H; rcases H with ⟨rfl, H⟩ | ⟨rfl, H⟩
 ·replace H := oA H; obtain ⟨a2, A4, H⟩ := H
  obtain rfl := oI H
  go_enter Try.func38, Try.ntmps38
  go_wp2_with (first | ((with_reducible refine gW ?_); first | (refine gC 65 (some 4) Try.func65 #[.slice A0 l0.length c0] ?_; (with_reducible refine (impl_Sentence.calls ?side1 ?side2 A2.out).mono ?_); (case side1 => repeat (first | exact a0.out | (with_reducible refine Kd.C_alloc ?_ _) | (with_reducible refine Kd.C_drewN ?_ _) | (with_reducible refine Kd.C_drew ?_))); (case side2 => exact a1.out); rintro e w5 ⟨rfl, hb⟩; refine ⟨_, rfl, ?_⟩; replace HB := hB HB hb; (try clear hb)) | (refine gF 46 (some 7) rfl ?_; refine gS Try.func46 (impl_quantBits.calls _ _ _ _ _ _ (sC (Kd.C_below a0.out HB.out)) a1.out A4.out) ?_; rintro w6 hb; replace HB := hB HB hb; (try clear hb))))
  go_ret
  exact ⟨rfl, sW HB.out⟩
 obtain rfl := oI H
 go_enter Try.func38, Try.ntmps38
 go_wp2_with (first | ((with_reducible refine gW ?_); first | (refine gC 65 (some 4) Try.func65 #[.slice A0 l0.length c0] ?_; (with_reducible refine (impl_Sentence.calls ?side1 ?side2 A2.out).mono ?_); (case side1 => repeat (first | exact a0.out | (with_reducible refine Kd.C_alloc ?_ _) | (with_reducible refine Kd.C_drewN ?_ _) | (with_reducible refine Kd.C_drew ?_))); (case side2 => exact a1.out); rintro e w7 ⟨rfl, hb⟩; refine ⟨_, rfl, ?_⟩; replace HB := hB HB hb; (try clear hb))))
 go_ret
 exact ⟨rfl, sW HB.out⟩
end Go.Proofs.Ytkpipmojkhikaaa.PAll
