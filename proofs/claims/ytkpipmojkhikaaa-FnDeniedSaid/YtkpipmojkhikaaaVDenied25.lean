/- Written by a program of this session over the loaded program, and by hand: Go functions as plain Lean functions, and that a call comes to what they say. -/
import Derived.Test.YtkpipmojkhikaaaVDenied0
import Derived.Test.YtkpipmojkhikaaaVDenied1
import Derived.Test.YtkpipmojkhikaaaVDenied9
import Derived.Test.YtkpipmojkhikaaaVDenied18
import Derived.Test.YtkpipmojkhikaaaVDenied24
import Derived.Test.YtkpipmojkhikaaaBase
import Derived.Test.YtkpipmojkhikaaaSq
namespace Go.Proofs.Ytkpipmojkhikaaa.PAll
open Go.RowKit Go.Proofs.YtkpipmojkhikaaaW.PrintWords Go.Proofs.YtkpipmojkhikaaaW.PrintLast Go.Proofs.YtkpipmojkhikaaaW.PrintMore Go.Proofs.YtkpipmojkhikaaaW.Sq
attribute [local go_sem] qZ qX sT sS qC qB qY qW
set_option linter.unusedVariables false
set_option maxHeartbeats 8000000
set_option maxRecDepth 100000
set_option linter.unusedSimpArgs false
def tD : Nat → List (S31) → Int → Bool → Int → Bool → Bool → Option (Bool)
 | 0, _, _, _, _, _, _ => none
 | k + 1, x3, x4, x5, x6, x7, a6 => if a6 = true then (if (x5 == x7) = true then (some (x4 == x6)) else (some false)) else (if (x3.length : Int) ≥ 80 then (some true) else ((some (([] : List (S31)) : List (S31))).bind fun a3 => (if a3.length + x3.length < 2932031007402 then ((some (a3 ++ x3 : List (S31))).bind fun a2 => (if a2.length < 2932031007402 then ((some (a2 ++ [(⟨2, 1, 0, wrap64 ((x3.length : Int) - 1), 0, 0⟩ : S31)] : List (S31))).bind fun a1 => ((uZ k a1).bind fun a0 => (if a0.2 = true then (if a0.1 = (wrap64 (1 - x4)) then ((xR k a1).bind fun a5 => ((xR k x3).bind fun a4 => (some (a5 == a4)))) else (some false)) else (some false)))) else (none))) else (none))))
def xK (k : Nat) (l0 : List Int) : Option (Bool) := (a1d l0).bind fun a3 => (if a3 = true then (some true) else ((vT k l0).bind fun a2 => ((uZ k a2).bind fun a0 => ((wY k a2).bind fun a1 => (if (a0.2 != a1.2) = true then (tD k a2 a0.1 a0.2 a1.1 a1.2 true) else (if a0.1 = a1.1 then (tD k a2 a0.1 a0.2 a1.1 a1.2 (!a0.2)) else (tD k a2 a0.1 a0.2 a1.1 a1.2 true)))))))
theorem b9q {P : Prop} (h : P := by
 obtain rfl := oI H
 go_wp2_with (first | ((with_reducible refine gW ?_); first | (refine lE k31 31 48 ?_; intro aI cC aJ hb; (rw [← aN.out] at aJ); have a9 := am (Kd.R_lower (Kd.R_new' aJ (Kd.R_lt (by exact sR <| a0.out))) (kE (by exact sW HB.out))); replace a0 := rE a0 aJ hb; replace HB := hB HB hb; clear hb aJ) | ((with_reducible refine kW (b := .append) (xs := #[.tmp 48, .tmp 49]) rfl ?_); at_builtin; refine Kd.R_append_rows k31 (w0 := w) w.heap.size rfl (.tmp 48) (.tmp 49) 24 31 (.agg #[(.int .i64 0), (.int .i64 0), (.int .i64 0), (.int .i64 0), (.int .i64 0), (.int .i64 0)]) 48 rfl Try.underlying24 xL rfl (by decide) oM aI aV a2 _ _ _ (fun k_ => some k_ ≠ (.slice aG a2.length aE : Value).ownBlock) (fun _ => False) rfl rfl ?aO ?aR (fun _ _ h => h) (fun _ h => h.elim) ?aF ?aB ?aS ?aL ?_; (case aR => exact sC (Kd.R_reads' a0.out).2.2); (case aB => exact (by exact sW HB.out)); (case aF => exact (fun k_ hk => Kd.fresh' (Kd.R_lt (by exact sR <| a0.out)) k_ hk)); (case aO => exact (by exact sR <| Kd.R_mono a9.out (fun _ hk => hk.2))); (case aS => exact (kE (by exact sW HB.out))); (case aL => have := aT.out; omega); intro aH cB ho hb hg hat; rw [← aM.out] at ho; replace a0 := am (Kd.R_after (ok := (fun _ => True)) (by exact sR <| a0.out) hg hat); replace HB := am hb; have a8 := am ho; clear a9; clear ho hb hg hat) | ((with_reducible refine kW (b := .append) (xs := #[.tmp 50, .tmp 55]) rfl ?_); at_builtin; refine Kd.R_append k31 (w0 := w) w.heap.size rfl (.tmp 50) (.tmp 55) 24 31 (.agg #[(.int .i64 0), (.int .i64 0), (.int .i64 0), (.int .i64 0), (.int .i64 0), (.int .i64 0)]) 48 rfl Try.underlying24 xL rfl (by decide) oM aH aU (⟨2, 1, 0, wrap64 ((a2.length : Int) - 1), 0, 0⟩ : S31) [.int .i64 2, .int .i64 1, .int .i64 0, .int .i64 (wrap64 ((a2.length : Int) - 1)), .int .i64 0, .int .i64 0] (fun k_ => some k_ ≠ (.slice aG a2.length aE : Value).ownBlock) (fun _ => False) rfl rfl ?aP (fun _ hk => hk.elim) ?aF ?aO ?aB ?aS ?aL ?_; (case aP => exact vV _ _ _ (⟨2, 1, 0, wrap64 ((a2.length : Int) - 1), 0, 0⟩ : S31)); (case aB => exact (by exact sW HB.out)); (case aF => exact (fun k_ hk => Kd.fresh' (Kd.R_lt (by exact sR <| a0.out)) k_ hk)); (case aO => exact (by exact sR <| a8.out)); (case aS => exact (kE (by exact sW HB.out))); (case aL => have := aQ.out; omega); intro bE c1 ho hb hg hat; rw [← aK.out] at ho; replace a0 := am (Kd.R_after (ok := (fun _ => True)) (by exact sR <| a0.out) hg hat); replace HB := am hb; have a1 := am ho; clear a8; clear ho hb hg hat; obtain ⟨b_, bZ, rfl⟩ := Kd.R_slice a1.out) | (refine gF 36 (some 59) rfl ?_; refine gS Try.func36 (impl_Holds.calls (sC (Kd.R_reads' a1.out).2.2) ((Kd.R_reads' a1.out).2.1) bD.out) ?_; rintro bV hb; replace a0 := rB a0 hb; replace a1 := rB a1 hb; replace HB := hB HB hb; (try clear hb))))
 go_ret
 exact ⟨rfl, sW HB.out⟩) : P := h
theorem b9g {P : Prop} (h : P := by
 replace H := am H
 go_wp2
 go_meet
 case rel => exact ⟨_, true, rfl, H, ⟨oM⟩, ⟨sR <| a5.out⟩, ⟨sW HB.out⟩⟩) : P := h
theorem laws_FnDenied.calls (k : Nat) (A0 : Option Addr) (c0 : Nat) (l0 : List Int) (r : Bool) (w : World) (hr0 : Kd.C (Kd.int .u8) w A0 l0.length l0) (hc0 : l0.length ≤ c0) (h : xK k l0 = some r) :
  Calls Try.prog 9 #[.slice A0 l0.length c0] w fun e w' => e = .returned (.bool r) ∧ Below w.heap.size w w' := by
 have hu31 := Try.underlying31
 have aW := am hr0
 have aY := am hc0
 clear hr0 hc0
 have HB := am (Below.refl w.heap.size w)
 have H := h
 clear h
 unfold xK at H
 replace H := oA H; obtain ⟨bS, A2, H⟩ := H
 replace H := iB H; rcases H with ⟨rfl, H⟩ | ⟨rfl, H⟩
 ·obtain rfl := oI H
  go_enter Try.func9, Try.ntmps9
  go_wp2_with (first | ((with_reducible refine gW ?_); first | (refine gC 10 (some 12) Try.func10 #[.slice A0 l0.length c0] ?_; (with_reducible refine (laws_big.calls ?side1 ?side2 A2.out).mono ?_); (case side1 => repeat (first | exact aW.out | (with_reducible refine Kd.C_alloc ?_ _) | (with_reducible refine Kd.C_drewN ?_ _) | (with_reducible refine Kd.C_drew ?_))); (case side2 => exact aY.out); rintro e w' ⟨rfl, ⟨nd, rfl⟩⟩; refine ⟨_, rfl, ?_⟩)))
  go_ret
  exact ⟨rfl, sW HB.out⟩
 replace H := oA H; obtain ⟨a2, A4, H⟩ := H
 replace H := oA H; obtain ⟨⟨bG, a3⟩, A5, H⟩ := H
 try dsimp only at H
 replace H := oA H; obtain ⟨⟨bF, a4⟩, A6, H⟩ := H
 try dsimp only at H
 have aX := am H; clear H
 go_enter Try.func9, Try.ntmps9
 go_upto_region 6 with (first | ((with_reducible refine gW ?_); first | ((with_reducible refine a1u (f := 10) rfl ?_); refine a5h (some 12) rfl rfl Try.func10 (by kernel_rfl) rfl #[.slice A0 l0.length c0] rfl tn ?_; (with_reducible refine (laws_big.calls ?side1 ?side2 A2.out).mono ?_); (case side1 => repeat (first | exact aW.out | (with_reducible refine Kd.C_alloc ?_ _) | (with_reducible refine Kd.C_drewN ?_ _) | (with_reducible refine Kd.C_drew ?_))); (case side2 => exact aY.out); rintro e w' ⟨rfl, ⟨nd, rfl⟩⟩; refine ⟨_, rfl, ?_⟩) | ((with_reducible refine a1u (f := 35) rfl ?_); refine a5h (some 14) rfl rfl Try.func35 (by kernel_rfl) rfl #[.slice A0 l0.length c0] rfl tn ?_; (with_reducible refine (spec_DrawSaid.calls ?side1 ?side2 A4.out).mono ?_); (case side1 => repeat (first | exact aW.out | (with_reducible refine Kd.C_alloc ?_ _) | (with_reducible refine Kd.C_drewN ?_ _) | (with_reducible refine Kd.C_drew ?_))); (case side2 => exact aY.out); rintro e w8 ⟨bN, rfl, bA, hb⟩; refine ⟨_, rfl, ?_⟩; have a5 := rL bA HB; replace HB := hB HB hb; obtain ⟨aG, aE, rfl⟩ := Kd.R_slice a5.out) | (refine gF 36 (some 17) rfl ?_; refine gS Try.func36 (impl_Holds.calls (sC (Kd.R_reads' a5.out).2.2) ((Kd.R_reads' a5.out).2.1) A5.out) ?_; rintro w10 hb; replace a5 := rB a5 hb; replace HB := hB HB hb) | (refine gF 37 (some 22) rfl ?_; refine gS Try.func37 (spec_Holds.calls (sC (Kd.R_reads' a5.out).2.2) ((Kd.R_reads' a5.out).2.1) A6.out) ?_; rintro w11 hb; replace a5 := rB a5 hb; replace HB := hB HB hb))); clear hb bA; clear hb; clear hb
 (try simp only [Act.put, List.setIfInBounds_toArray, List.set_cons_zero, List.set_cons_succ])
 go_cut [36] (fun bH wc => ∃ (kq : Nat) (aC : Bool), bH = .bool aC ∧ Aside0 (tD kq a2 bG a3 bF a4 aC = some r) ∧ Aside0 (kq ≤ k) ∧ Aside0 (Kd.R k31 31 wc w.heap.size (fun _ => True) (.slice aG a2.length aE) a2) ∧ Aside0 (Below w.heap.size w wc))
 case first =>
  have H := aX.out
  clear aX
  by_cases a7 : (a3 != a4) = true
  ·rw [if_pos a7] at H
   have b9 : (a3 != a4) = true := a7
   (try (have b8 : decide (a3 = a4) = false := by simpa using a7))
   (try (have b7 : (a3 == a4) = false := by simpa using a7))
   (try (have bL : ¬ (a3 = a4) := by simpa using a7))
   clear a7
   exact b9g
  rw [if_neg a7] at H
  have b9 : (a3 != a4) = false := by simpa using a7
  (try (have b8 : decide (a3 = a4) = true := by simpa using a7))
  (try (have b7 : (a3 == a4) = true := by simpa using a7))
  clear a7
  replace H := iE H; rcases H with ⟨b6, b5, H⟩ | ⟨b6, b5, H⟩
  ·replace H := am H
   go_wp2
   go_meet
   case rel => exact ⟨_, (!a3), rfl, H, ⟨oM⟩, ⟨sR <| a5.out⟩, ⟨sW HB.out⟩⟩
  exact b9g
 clear aX
 obtain ⟨kq, aC, rfl, HA, cF, a0, HB⟩ := hcut
 cases kq with
 | zero => cases HA.out
 | succ cE =>
  obtain ⟨H⟩ := HA
  simp only [tD] at H
  replace H := iB H; rcases H with ⟨rfl, H⟩ | ⟨rfl, H⟩
  ·by_cases a6 : (a3 == a4) = true
   ·rw [if_pos a6] at H
    have b4 : (a3 == a4) = true := a6
    (try (have b3 : decide (a3 = a4) = true := by simpa using a6))
    (try (have b2 : (a3 == a4) = true := by simpa using a6))
    clear a6
    obtain rfl := oI H
    go_wp2
    go_ret
    exact ⟨rfl, sW HB.out⟩
   rw [if_neg a6] at H
   have b4 : (a3 == a4) = false := by simpa using a6
   (try (have b3 : decide (a3 = a4) = false := by simpa using a6))
   (try (have b2 : (a3 == a4) = false := by simpa using a6))
   (try (have bK : ¬ (a3 = a4) := by simpa using a6))
   clear a6
   obtain rfl := oI H
   go_wp2
   go_ret
   exact ⟨rfl, sW HB.out⟩
  by_cases aA : (a2.length : Int) ≥ 80
  ·rw [if_pos aA] at H
   have b1 : decide (80 ≤ (a2.length : Int)) = true := decide_eq_true aA
   have b0 : decide (80 ≤ a2.length) = true := decide_eq_true oM
   clear aA
   obtain rfl := oI H
   go_wp2
   go_ret
   exact ⟨rfl, sW HB.out⟩
  rw [if_neg aA] at H
  have b1 : decide (80 ≤ (a2.length : Int)) = false := decide_eq_false aA
  have b0 : decide (80 ≤ a2.length) = false := decide_eq_false oM
  clear aA
  replace H := oS H; obtain ⟨aV, aN, H⟩ := H
  replace H := iP H; obtain ⟨bC, H⟩ := H
  have aT := am bC
  clear bC
  replace H := oS H; obtain ⟨aU, aM, H⟩ := H
  replace H := iP H; obtain ⟨bB, H⟩ := H
  have aQ := am bB
  clear bB
  replace H := oS H; obtain ⟨bM, aK, H⟩ := H
  replace H := oA H; obtain ⟨⟨bR, bQ⟩, bD, H⟩ := H
  try dsimp only at H
  replace H := iB H; rcases H with ⟨rfl, H⟩ | ⟨rfl, H⟩
  ·replace H := iE H; rcases H with ⟨a_, aZ, H⟩ | ⟨a_, aZ, H⟩
   ·replace H := oA H; obtain ⟨bP, bJ, H⟩ := H
    replace H := oA H; obtain ⟨bO, bI, H⟩ := H
    obtain rfl := oI H
    go_wp2_with (first | (go_at_call 38; refine (impl_Bits.calls (sC (Kd.R_reads' a1.out).2.2) ((Kd.R_reads' a1.out).2.1) bJ.out).mono ?_; rintro e w30 ⟨rfl, hb⟩; replace a0 := rB a0 hb; replace a1 := rB a1 hb; replace HB := hB HB hb; (try clear hb)) | (go_at_call 38; refine (impl_Bits.calls (sC (Kd.R_reads' a0.out).2.2) ((Kd.R_reads' a0.out).2.1) bI.out).mono ?_; rintro e w31 ⟨rfl, hb⟩; replace a0 := rB a0 hb; replace a1 := rB a1 hb; replace HB := hB HB hb; (try clear hb)) | ((with_reducible refine gW ?_); first | (refine lE k31 31 48 ?_; intro aI w24 aD hb; (rw [← aN.out] at aD); have a9 := am (Kd.R_lower (Kd.R_new' aD (Kd.R_lt (by exact sR <| a0.out))) (kE (by exact sW HB.out))); replace a0 := rE a0 aD hb; replace HB := hB HB hb; clear hb aD) | ((with_reducible refine kW (b := .append) (xs := #[.tmp 48, .tmp 49]) rfl ?_); at_builtin; refine Kd.R_append_rows k31 (w0 := w) w.heap.size rfl (.tmp 48) (.tmp 49) 24 31 (.agg #[(.int .i64 0), (.int .i64 0), (.int .i64 0), (.int .i64 0), (.int .i64 0), (.int .i64 0)]) 48 rfl Try.underlying24 xL rfl (by decide) oM aI aV a2 _ _ _ (fun k_ => some k_ ≠ (.slice aG a2.length aE : Value).ownBlock) (fun _ => False) rfl rfl ?aO ?aR (fun _ _ h => h) (fun _ h => h.elim) ?aF ?aB ?aS ?aL ?_; (case aR => exact sC (Kd.R_reads' a0.out).2.2); (case aB => exact (by exact sW HB.out)); (case aF => exact (fun k_ hk => Kd.fresh' (Kd.R_lt (by exact sR <| a0.out)) k_ hk)); (case aO => exact (by exact sR <| Kd.R_mono a9.out (fun _ hk => hk.2))); (case aS => exact (kE (by exact sW HB.out))); (case aL => have := aT.out; omega); intro aH w26 ho hb hg hat; rw [← aM.out] at ho; replace a0 := am (Kd.R_after (ok := (fun _ => True)) (by exact sR <| a0.out) hg hat); replace HB := am hb; have a8 := am ho; clear a9; clear ho hb hg hat) | ((with_reducible refine kW (b := .append) (xs := #[.tmp 50, .tmp 55]) rfl ?_); at_builtin; refine Kd.R_append k31 (w0 := w) w.heap.size rfl (.tmp 50) (.tmp 55) 24 31 (.agg #[(.int .i64 0), (.int .i64 0), (.int .i64 0), (.int .i64 0), (.int .i64 0), (.int .i64 0)]) 48 rfl Try.underlying24 xL rfl (by decide) oM aH aU (⟨2, 1, 0, wrap64 ((a2.length : Int) - 1), 0, 0⟩ : S31) [.int .i64 2, .int .i64 1, .int .i64 0, .int .i64 (wrap64 ((a2.length : Int) - 1)), .int .i64 0, .int .i64 0] (fun k_ => some k_ ≠ (.slice aG a2.length aE : Value).ownBlock) (fun _ => False) rfl rfl ?aP (fun _ hk => hk.elim) ?aF ?aO ?aB ?aS ?aL ?_; (case aP => exact vV _ _ _ (⟨2, 1, 0, wrap64 ((a2.length : Int) - 1), 0, 0⟩ : S31)); (case aB => exact (by exact sW HB.out)); (case aF => exact (fun k_ hk => Kd.fresh' (Kd.R_lt (by exact sR <| a0.out)) k_ hk)); (case aO => exact (by exact sR <| a8.out)); (case aS => exact (kE (by exact sW HB.out))); (case aL => have := aQ.out; omega); intro bE w27 ho hb hg hat; rw [← aK.out] at ho; replace a0 := am (Kd.R_after (ok := (fun _ => True)) (by exact sR <| a0.out) hg hat); replace HB := am hb; have a1 := am ho; clear a8; clear ho hb hg hat; obtain ⟨bU, bT, rfl⟩ := Kd.R_slice a1.out) | (refine gF 36 (some 59) rfl ?_; refine gS Try.func36 (impl_Holds.calls (sC (Kd.R_reads' a1.out).2.2) ((Kd.R_reads' a1.out).2.1) bD.out) ?_; rintro w29 hb; replace a0 := rB a0 hb; replace a1 := rB a1 hb; replace HB := hB HB hb; (try clear hb))))
    go_ret
    exact ⟨rfl, sW HB.out⟩
   exact b9q
  exact b9q
def laws_FnDenied.Pure : Prop := ∀ (l0 : List Int), l0.length ≤ maxLen → l0.length * 1 ≤ 140737488351232 → (∀ x ∈ l0, (Lit.int .u8 x).wf = true) → ∃ k, xK k l0 = some true
theorem laws_FnDenied.walk (P : laws_FnDenied.Pure) (a0 : Option Addr) (len0 cap0 : Nat) (z0 : List Int) (w : World) (w0 : (a0 = none ∧ len0 = 0 ∧ cap0 = 0 ∧ z0 = []) ∨ ∃ x, a0 = some x ∧ len0 ≤ cap0 ∧ cap0 ≤ maxLen ∧ z0.length = cap0 ∧ (∀ i, i < z0.length → w.cell? (x.add i) = some (.int .u8 (z0.getD i 0))) ∧ ∀ n ∈ z0, (Lit.int .u8 n).wf = true) (y0 : len0 * 1 ≤ 140737488351232) :
  Calls Try.prog 9 #[.slice a0 len0 cap0] w fun e w' => e = .returned (.bool true) ∧ Below w.heap.size w w' := by
 obtain ⟨l0, rfl, hr0, hm0, a1, hc0⟩ := a5r w0
 obtain ⟨k, h⟩ := P l0 hm0 y0 a1
 refine (laws_FnDenied.calls k _ _ l0 true w (Kd.C_of_reads (d := (0 : Int)) (h1 := fun _ => rfl) hr0) hc0 h).mono ?_
 rintro e w' ⟨rfl, hd⟩
 exact ⟨rfl, hd⟩
end Go.Proofs.Ytkpipmojkhikaaa.PAll
