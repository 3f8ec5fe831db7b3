/- Written by a program of this session over the loaded program, and by hand: Go functions as plain Lean functions, and that a call comes to what they say. -/
import Derived.Test.YtkpipmojkhikaaaVText0
import Derived.Test.YtkpipmojkhikaaaVText1
import Derived.Test.YtkpipmojkhikaaaVText8
import Derived.Test.YtkpipmojkhikaaaBase
import Derived.Test.YtkpipmojkhikaaaSq
namespace Go.Proofs.Ytkpipmojkhikaaa.PAll
open Go.RowKit Go.Proofs.YtkpipmojkhikaaaW.PrintWords Go.Proofs.YtkpipmojkhikaaaW.PrintLast Go.Proofs.YtkpipmojkhikaaaW.PrintMore Go.Proofs.YtkpipmojkhikaaaW.Sq
attribute [local go_sem] sD rZ uM uL qV qU sA rY
set_option linter.unusedVariables false
set_option maxHeartbeats 8000000
set_option maxRecDepth 100000
set_option linter.unusedSimpArgs false
def xP (k : Nat) (a3 : List Int) (a9 : Int) (a8 : Int) : Option ((List (S31)) × Int × Int) := (uT k a3 a9 a8 8).bind fun a1 => ((kW a3 a1.2.1 a1.2.2 (a1.1.length : Int)).bind fun a0 => ((kW a3 a0.2.1 a0.2.2 12).bind fun a2 => (if a2.1 = 0 then ((uC a3 a2.2.1 a2.2.2 (([0, 1, 2, 9] : List Int))).bind fun a7 => (if 0 ≤ a0.1 then (if a0.1 < (a1.1.length : Int) then (some ((a1.1.set (a0.1 : Int).toNat (⟨(kA a1.1 a0.1).f0, a7.1, (kA a1.1 a0.1).f2, (kA a1.1 a0.1).f3, (kA a1.1 a0.1).f4, (kA a1.1 a0.1).f5⟩ : S31)), a7.2.1, a7.2.2)) else (none)) else (none))) else (if a2.1 = 1 then ((kW a3 a2.2.1 a2.2.2 (wrap64 ((a1.1.length : Int) + 2))).bind fun a6 => (if 0 ≤ a0.1 then (if a0.1 < (a1.1.length : Int) then (some ((a1.1.set (a0.1 : Int).toNat (⟨(kA a1.1 a0.1).f0, (kA a1.1 a0.1).f1, (kA a1.1 a0.1).f2, wrap64 (a6.1 - 1), (kA a1.1 a0.1).f4, (kA a1.1 a0.1).f5⟩ : S31)), a6.2.1, a6.2.2)) else (none)) else (none))) else (if a2.1 = 2 then ((uC a3 a2.2.1 a2.2.2 (([(-1), 0, 1, 8] : List Int))).bind fun a5 => (if 0 ≤ a0.1 then (if a0.1 < (a1.1.length : Int) then (some ((a1.1.set (a0.1 : Int).toNat (⟨(kA a1.1 a0.1).f0, (kA a1.1 a0.1).f1, a5.1, (kA a1.1 a0.1).f3, (kA a1.1 a0.1).f4, (kA a1.1 a0.1).f5⟩ : S31)), a5.2.1, a5.2.2)) else (none)) else (none))) else (if a2.1 = 3 then ((kW a3 a2.2.1 a2.2.2 23).bind fun a4 => (if 0 ≤ a0.1 then (if a0.1 < (a1.1.length : Int) then (some ((a1.1.set (a0.1 : Int).toNat (⟨wrap64 (a4.1 - 1), (kA a1.1 a0.1).f1, (kA a1.1 a0.1).f2, (kA a1.1 a0.1).f3, (kA a1.1 a0.1).f4, (kA a1.1 a0.1).f5⟩ : S31)), a4.2.1, a4.2.2)) else (none)) else (none))) else (if a2.1 = 4 then (if 0 ≤ (wrap64 (a0.1 + 1)) then (if (wrap64 (a0.1 + 1)) ≤ (a1.1.length : Int) then (some ((a1.1.take ((wrap64 (a0.1 + 1)) : Int).toNat), a2.2.1, a2.2.2)) else (none)) else (none)) else (if a2.1 = 5 then (if a0.1 > 0 then (if 0 ≤ a0.1 then (if a0.1 < (a1.1.length : Int) then (if a1.1.length < 2932031007402 then (some ((a1.1 ++ [(⟨2, (kA a1.1 a0.1).f1, 0, a0.1, 0, 0⟩ : S31)]), a2.2.1, a2.2.2)) else (none)) else (none)) else (none)) else (some (a1.1, a2.2.1, a2.2.2))) else (some (a1.1, a2.2.1, a2.2.2))))))))))
theorem c2b {P : Prop} (h : P := by
 simp only [Option.some.injEq, Prod.mk.injEq] at H
 obtain ⟨rfl, rfl, rfl⟩ := H
 go_wp2
 go_ret
 exact ⟨_, rfl, sR <| a2.out, kM, kL, kB⟩) : P := h
theorem spec_l02Any.calls {k g : Nat} {aQ : List Int} {b7 b6 : Int} {r1 : List (S31)} {r2 r3 : Int} (w0 w : World) (hI : IsS93 w0 w g aQ b7 b6) (hB : Below w0.heap.size w0 w) (h : xP k aQ b7 b6 = some (r1, r2, r3)) :
  Calls Try.prog 60 #[.pointer (some ⟨g, 0, none⟩)] w fun e w' => ∃ cL : Value, e = .returned (cL) ∧ Kd.R k31 31 w' w.heap.size (fun _ => True) cL r1 ∧ IsS93 w0 w' g aQ r2 r3 ∧ Below w0.heap.size w0 w' ∧ KeepBut w w' g none := by
 have hu31 := Try.underlying31
 have HI0 := am hI
 have HK := am (KeepBut.refl w g none)
 have HL := am hB.size
 clear hI
 have HW0 := am hB.size
 have HB := am hB
 clear hB
 have H := h
 clear h
 unfold xP at H
 replace H := oA H; obtain ⟨⟨a1, eZ, eY⟩, A2, H⟩ := H
 try dsimp only at H
 replace H := oA H; obtain ⟨⟨a0, eX, eW⟩, A3, H⟩ := H
 try dsimp only at H
 replace H := oA H; obtain ⟨⟨eV, eU, eT⟩, A4, H⟩ := H
 try dsimp only at H
 replace H := am H
 go_enter Try.func60, Try.ntmps60
 go_upto_if 13 with (first | ((with_reducible refine gW ?_); first | (refine gF 64 (some 6) rfl ?_; refine gT Try.func64 (spec_l02Sentence.calls w0 _ kM kL A2.out) ?_; rintro eK w10 ⟨cM, hi, hb, hk⟩; have a2 := am (Kd.R_lower cM (tK (w := w) (g := g) (row := none) (by exact kB))); replace HK := kT hk; replace HB := am hb; replace HI0 := am hi; (try clear hb); (try clear hk); (try clear hi); (try clear cM); obtain ⟨d1, a7, rfl⟩ := Kd.R_slice a2.out) | (refine gF 69 (some 10) rfl ?_; refine gS Try.func69 (spec_l01Below.calls _ _ _ _ _ _ _ _ w0 _ kM kL A3.out) ?_; rintro w12 ⟨hi, hb, hk⟩; replace a2 := tU a2 hk; replace HK := kT hk; replace HB := am hb; replace HI0 := am hi; (try clear hb); (try clear hk); (try clear hi)) | (refine gF 69 (some 12) rfl ?_; refine gS Try.func69 (spec_l01Below.calls _ _ _ _ _ _ _ _ w0 _ kM kL A4.out) ?_; rintro w13 ⟨hi, hb, hk⟩; replace a2 := tU a2 hk; replace HK := kT hk; replace HB := am hb; replace HI0 := am hi; (try clear hb); (try clear hk); (try clear hi))))
 obtain ⟨H⟩ := H
 replace H := iE H; rcases H with ⟨cY, cX, H⟩ | ⟨cY, cX, H⟩
 ·generalize b4 : ([0, 1, 2, 9] : List Int) = eG at H
  have cH := am b4.symm; clear b4
  replace H := oA H; obtain ⟨⟨aK, eS, eR⟩, A6, H⟩ := H
  try dsimp only at H
  replace H := iN H; obtain ⟨fD, H⟩ := H
  replace H := iN H; obtain ⟨fC, H⟩ := H
  generalize b3 : a1.set (a0 : Int).toNat (⟨(kA a1 a0).f0, aK, (kA a1 a0).f2, (kA a1 a0).f3, (kA a1 a0).f4, (kA a1 a0).f5⟩ : S31) = cT at H
  have cG := am b3.symm; clear b3
  simp only [Option.some.injEq, Prod.mk.injEq] at H
  obtain ⟨rfl, rfl, rfl⟩ := H
  go_wp2_with (first | ((with_reducible refine gW ?_); first | ((with_reducible refine qC (N := 18) rfl ?_); refine Kd.R_lit (Kd.int .i64) _ 3 ?hg (N := 18) ?hd (xs := ([0, 1, 2, 9] : List Int)) (inner := [.int .i64 0, .int .i64 1, .int .i64 2, .int .i64 9]) (ok := fun _ => True) (okp := fun _ => True) ?hr ?hp (fun _ hk => hk) trivial (Below.refl _ _) (Nat.le_refl _) (by simp) ?_; (case hd => rfl); (case hg => rfl); (case hr => (go_simp; done)); (case hp => exact (Reps.one (show Kd.M (Kd.int .i64) _ _ _ 0 [.int .i64 0] from rfl) (Reps.one (show Kd.M (Kd.int .i64) _ _ _ 1 [.int .i64 1] from rfl) (Reps.one (show Kd.M (Kd.int .i64) _ _ _ 2 [.int .i64 2] from rfl) (Reps.one (show Kd.M (Kd.int .i64) _ _ _ 9 [.int .i64 9] from rfl) (Reps.none _ _)))))); intro eJ w14 aT hb hg_ hnew_; clear hg_ hnew_; (rw [← cH.out] at aT); have aE := am (Kd.R_below (by exact sR <| a2.out) hb); have aD := am (Kd.R_lower aT (tK (w := w) (g := g) (row := none) (by exact kB))); have aC := am (IsS93.below (by exact kM) hb); have aB := kT (pV hb g none); have aN := hX hb (by exact kL); clear a2; clear HI0; clear HK; clear HB; have a2 := aE; have a9 := aD; have HI0 := aC; have HK := aB; have HB := aN; clear aE aD aC aB aN; clear hb aT; obtain ⟨fF, fB, rfl⟩ := Kd.R_slice a9.out) | (refine gF 88 (some 19) rfl ?_; refine gS Try.func88 (spec_l01PickInt.calls w0 _ kM kL (sC (Kd.R_reads' a9.out).2.2) ((Kd.R_reads' a9.out).2.1) (b0n (pB HI0.out a9.out (by decide))) A6.out) ?_; rintro w17 ⟨hi, hb, hk⟩; replace a2 := tU a2 hk; replace a9 := tU a9 hk; replace HK := kT hk; replace HB := am hb; replace HI0 := am hi; (try clear hb); (try clear hk); (try clear hi); have p9 : 0 ≤ (a0 : Int) := oD (by assumption); have q9 : (a0 : Int) < ((a1.length : Int) : Int) := oD (by assumption); obtain ⟨a6, fG, dS, cN, gl9, cl9, HG9⟩ := Kd.R_form a2.out oM; (cases dS); have dT := am cN; have GG9 := am HG9; clear cN gl9 HG9; obtain ⟨ce9, hcl9, hM9, hcc9, hfr9⟩ := Kd.R_elem a2.out z31 (a0 : Int) p9 q9; obtain rfl := yH hM9; have e1 : w17.cell? ⟨a6, (a0 : Int).toNat * 6, none⟩ = some (.int .i64 ((kA a1 a0).f0)) := hcc9 0 _ rfl; have e0 : w17.cell? ⟨a6, (a0 : Int).toNat * 6 + 1, none⟩ = some (.int .i64 ((kA a1 a0).f1)) := hcc9 1 _ rfl; have d_ : w17.cell? ⟨a6, (a0 : Int).toNat * 6 + 2, none⟩ = some (.int .i64 ((kA a1 a0).f2)) := hcc9 2 _ rfl; have dZ : w17.cell? ⟨a6, (a0 : Int).toNat * 6 + 3, none⟩ = some (.int .i64 ((kA a1 a0).f3)) := hcc9 3 _ rfl; have dY : w17.cell? ⟨a6, (a0 : Int).toNat * 6 + 4, none⟩ = some (.int .i64 ((kA a1 a0).f4)) := hcc9 4 _ rfl; have dX : w17.cell? ⟨a6, (a0 : Int).toNat * 6 + 5, none⟩ = some (.int .i64 ((kA a1 a0).f5)) := hcc9 5 _ rfl; have hf9_0 : w17.frozen? ⟨a6, (a0 : Int).toNat * 6, none⟩ = false := hfr9 0; have hf9_1 : w17.frozen? ⟨a6, (a0 : Int).toNat * 6 + 1, none⟩ = false := hfr9 1; have hf9_2 : w17.frozen? ⟨a6, (a0 : Int).toNat * 6 + 2, none⟩ = false := hfr9 2; have hf9_3 : w17.frozen? ⟨a6, (a0 : Int).toNat * 6 + 3, none⟩ = false := hfr9 3; have hf9_4 : w17.frozen? ⟨a6, (a0 : Int).toNat * 6 + 4, none⟩ = false := hfr9 4; have hf9_5 : w17.frozen? ⟨a6, (a0 : Int).toNat * 6 + 5, none⟩ = false := hfr9 5; clear hcl9 hcc9 hfr9 hM9; replace p9 := eq_true p9; replace q9 := eq_true q9; have HX18 := am (show Kd.R k31 31 w17 w.heap.size (fun _ => True) (.slice (some ⟨a6, 0, none⟩) a1.length a7) a1 from (by exact sR <| a2.out)); obtain ⟨ce18, hcl18, hM18, hcc18, hfr18⟩ := Kd.R_elem HX18.out z31 (a0 : Int) (oD (by assumption)) (by have h_ : (a0 : Int) < ((a1.length : Int) : Int) := oD (by assumption); exact h_); obtain rfl := yH hM18; have aX := Kd.R_seg HX18.out (a0 : Int) (oD (by assumption)) (by have h_ : (a0 : Int) < ((a1.length : Int) : Int) := oD (by assumption); exact h_) (seg := [.int .i64 aK]) (j := 1) hcl18 hcc18 (show 2 ≤ 6 from by decide) (x' := (⟨(kA a1 a0).f0, aK, (kA a1 a0).f2, (kA a1 a0).f3, (kA a1 a0).f4, (kA a1 a0).f5⟩ : S31)) (vK _ _ _ (⟨(kA a1 a0).f0, aK, (kA a1 a0).f2, (kA a1 a0).f3, (kA a1 a0).f4, (kA a1 a0).f5⟩ : S31) ) (fun _ hk => hk); have bJ := hcc18 1 _ rfl; (try simp only [show (k31).sz = 6 from rfl, Nat.mul_one, Nat.add_zero] at bJ); have hf18_1 := hfr18 1; (try simp only [show (k31).sz = 6 from rfl, Nat.mul_one, Nat.add_zero] at hf18_1); clear hcl18 hcc18 hfr18 hM18) | ((with_reducible refine qR (t := 3) (p := 21) rfl ?_); refine qD (t := 3) (p := 21) (v := ?vo_w19) (w1 := (w17.setCell ⟨a6, (a0 : Int).toNat * 6 + 1, none⟩ (.int .i64 aK))) ?hg ?ho ?hn ?hr ?_; (case ho => rfl); (case hg => rfl); (case hn => rfl); (case hr => (go_simp; done)); intro w19 hw; have hg : w17.grownBy w19 (some a6) := (by rw [hw]; exact aX.2); have hp_ : Kd.R k31 31 w19 w.heap.size (fun _ => True) (.slice (some ⟨a6, 0, none⟩) a1.length a7) cT := (by rw [hw, cG.out]; exact aX.1); clear aX; replace HI0 := am (IsS93.grown (by exact kM) hg (pB HI0.out a2.out (by decide))); replace a9 := am (Kd.R_over' (v := (.slice (some ⟨a6, 0, none⟩) a1.length a7)) (by exact sR <| a9.out) (Kd.R_typed a2.out) (by decide) hg); replace HB := am ((by rw [hw]; exact kZ (HB.out) (Nat.le_trans HL.out dT.out) : Below w0.heap.size w0 w19)); replace HK := am (KeepBut.trans (by exact kB) (uQ hg g) (Kd.R_base2 a2.out)); replace a2 := am hp_; clear hg hw hp_)))
  go_ret
  exact ⟨_, rfl, sR <| a2.out, kM, kL, kB⟩
 replace H := iE H; rcases H with ⟨b_, bZ, H⟩ | ⟨b_, bZ, H⟩
 ·replace H := oA H; obtain ⟨⟨aJ, eQ, eP⟩, dW, H⟩ := H
  try dsimp only at H
  replace H := iN H; obtain ⟨eD, H⟩ := H
  replace H := iN H; obtain ⟨eC, H⟩ := H
  generalize b2 : a1.set (a0 : Int).toNat (⟨(kA a1 a0).f0, (kA a1 a0).f1, (kA a1 a0).f2, wrap64 (aJ - 1), (kA a1 a0).f4, (kA a1 a0).f5⟩ : S31) = cS at H
  have cF := am b2.symm; clear b2
  simp only [Option.some.injEq, Prod.mk.injEq] at H
  obtain ⟨rfl, rfl, rfl⟩ := H
  go_wp2_with (first | ((with_reducible refine gW ?_); first | (refine gF 69 (some 30) rfl ?_; refine gS Try.func69 (spec_l01Below.calls _ _ _ _ _ _ _ _ w0 _ kM kL dW.out) ?_; rintro w29 ⟨hi, hb, hk⟩; replace a2 := tU a2 hk; replace HK := kT hk; replace HB := am hb; replace HI0 := am hi; (try clear hb); (try clear hk); (try clear hi); have bE : 0 ≤ (a0 : Int) := oD (by assumption); have bB : (a0 : Int) < ((a1.length : Int) : Int) := oD (by assumption); obtain ⟨a5, fA, cW, bM, gl24, cl24, HG24⟩ := Kd.R_form a2.out oM; (cases cW); have d0 := am bM; have GG24 := am HG24; clear bM gl24 HG24; obtain ⟨ce24, hcl24, hM24, hcc24, hfr24⟩ := Kd.R_elem a2.out z31 (a0 : Int) bE bB; obtain rfl := yH hM24; have dP : w29.cell? ⟨a5, (a0 : Int).toNat * 6, none⟩ = some (.int .i64 ((kA a1 a0).f0)) := hcc24 0 _ rfl; have dO : w29.cell? ⟨a5, (a0 : Int).toNat * 6 + 1, none⟩ = some (.int .i64 ((kA a1 a0).f1)) := hcc24 1 _ rfl; have dN : w29.cell? ⟨a5, (a0 : Int).toNat * 6 + 2, none⟩ = some (.int .i64 ((kA a1 a0).f2)) := hcc24 2 _ rfl; have dM : w29.cell? ⟨a5, (a0 : Int).toNat * 6 + 3, none⟩ = some (.int .i64 ((kA a1 a0).f3)) := hcc24 3 _ rfl; have dL : w29.cell? ⟨a5, (a0 : Int).toNat * 6 + 4, none⟩ = some (.int .i64 ((kA a1 a0).f4)) := hcc24 4 _ rfl; have dK : w29.cell? ⟨a5, (a0 : Int).toNat * 6 + 5, none⟩ = some (.int .i64 ((kA a1 a0).f5)) := hcc24 5 _ rfl; have hf24_0 : w29.frozen? ⟨a5, (a0 : Int).toNat * 6, none⟩ = false := hfr24 0; have hf24_1 : w29.frozen? ⟨a5, (a0 : Int).toNat * 6 + 1, none⟩ = false := hfr24 1; have hf24_2 : w29.frozen? ⟨a5, (a0 : Int).toNat * 6 + 2, none⟩ = false := hfr24 2; have hf24_3 : w29.frozen? ⟨a5, (a0 : Int).toNat * 6 + 3, none⟩ = false := hfr24 3; have hf24_4 : w29.frozen? ⟨a5, (a0 : Int).toNat * 6 + 4, none⟩ = false := hfr24 4; have hf24_5 : w29.frozen? ⟨a5, (a0 : Int).toNat * 6 + 5, none⟩ = false := hfr24 5; clear hcl24 hcc24 hfr24 hM24; replace bE := eq_true bE; replace bB := eq_true bB; have HX30 := am (show Kd.R k31 31 w29 w.heap.size (fun _ => True) (.slice (some ⟨a5, 0, none⟩) a1.length a7) a1 from (by exact sR <| a2.out)); obtain ⟨ce30, hcl30, hM30, hcc30, hfr30⟩ := Kd.R_elem HX30.out z31 (a0 : Int) (oD (by assumption)) (by have h_ : (a0 : Int) < ((a1.length : Int) : Int) := oD (by assumption); exact h_); obtain rfl := yH hM30; have aW := Kd.R_seg HX30.out (a0 : Int) (oD (by assumption)) (by have h_ : (a0 : Int) < ((a1.length : Int) : Int) := oD (by assumption); exact h_) (seg := [.int .i64 (wrap64 (aJ - 1))]) (j := 3) hcl30 hcc30 (show 4 ≤ 6 from by decide) (x' := (⟨(kA a1 a0).f0, (kA a1 a0).f1, (kA a1 a0).f2, wrap64 (aJ - 1), (kA a1 a0).f4, (kA a1 a0).f5⟩ : S31)) (vK _ _ _ (⟨(kA a1 a0).f0, (kA a1 a0).f1, (kA a1 a0).f2, wrap64 (aJ - 1), (kA a1 a0).f4, (kA a1 a0).f5⟩ : S31) ) (fun _ hk => hk); have bI := hcc30 3 _ rfl; (try simp only [show (k31).sz = 6 from rfl, Nat.mul_one, Nat.add_zero] at bI); have hf30_3 := hfr30 3; (try simp only [show (k31).sz = 6 from rfl, Nat.mul_one, Nat.add_zero] at hf30_3); clear hcl30 hcc30 hfr30 hM30) | ((with_reducible refine qR (t := 3) (p := 33) rfl ?_); refine qD (t := 3) (p := 33) (v := ?vo_w31) (w1 := (w29.setCell ⟨a5, (a0 : Int).toNat * 6 + 3, none⟩ (.int .i64 (wrap64 (aJ - 1))))) ?hg ?ho ?hn ?hr ?_; (case ho => rfl); (case hg => rfl); (case hn => rfl); (case hr => (go_simp; done)); intro w31 hw; have hg : w29.grownBy w31 (some a5) := (by rw [hw]; exact aW.2); have hp_ : Kd.R k31 31 w31 w.heap.size (fun _ => True) (.slice (some ⟨a5, 0, none⟩) a1.length a7) cS := (by rw [hw, cF.out]; exact aW.1); clear aW; replace HI0 := am (IsS93.grown (by exact kM) hg (pB HI0.out a2.out (by decide))); replace HB := am ((by rw [hw]; exact kZ (HB.out) (Nat.le_trans HL.out d0.out) : Below w0.heap.size w0 w31)); replace HK := am (KeepBut.trans (by exact kB) (uQ hg g) (Kd.R_base2 a2.out)); replace a2 := am hp_; clear hg hw hp_)))
  go_ret
  exact ⟨_, rfl, sR <| a2.out, kM, kL, kB⟩
 replace H := iE H; rcases H with ⟨bV, bU, H⟩ | ⟨bV, bU, H⟩
 ·generalize b1 : ([(-1), 0, 1, 8] : List Int) = eF at H
  have cE := am b1.symm; clear b1
  replace H := oA H; obtain ⟨⟨aI, eO, eN⟩, dV, H⟩ := H
  try dsimp only at H
  replace H := iN H; obtain ⟨eB, H⟩ := H
  replace H := iN H; obtain ⟨eA, H⟩ := H
  generalize b0 : a1.set (a0 : Int).toNat (⟨(kA a1 a0).f0, (kA a1 a0).f1, aI, (kA a1 a0).f3, (kA a1 a0).f4, (kA a1 a0).f5⟩ : S31) = cR at H
  have cC := am b0.symm; clear b0
  simp only [Option.some.injEq, Prod.mk.injEq] at H
  obtain ⟨rfl, rfl, rfl⟩ := H
  go_wp2_with (first | ((with_reducible refine gW ?_); first | ((with_reducible refine qC (N := 39) rfl ?_); refine Kd.R_lit (Kd.int .i64) _ 3 ?hg (N := 39) ?hd (xs := ([(-1), 0, 1, 8] : List Int)) (inner := [.int .i64 (-1), .int .i64 0, .int .i64 1, .int .i64 8]) (ok := fun _ => True) (okp := fun _ => True) ?hr ?hp (fun _ hk => hk) trivial (Below.refl _ _) (Nat.le_refl _) (by simp) ?_; (case hd => rfl); (case hg => rfl); (case hr => (go_simp; done)); (case hp => exact (Reps.one (show Kd.M (Kd.int .i64) _ _ _ (-1) [.int .i64 (-1)] from rfl) (Reps.one (show Kd.M (Kd.int .i64) _ _ _ 0 [.int .i64 0] from rfl) (Reps.one (show Kd.M (Kd.int .i64) _ _ _ 1 [.int .i64 1] from rfl) (Reps.one (show Kd.M (Kd.int .i64) _ _ _ 8 [.int .i64 8] from rfl) (Reps.none _ _)))))); intro eI w41 aR hb hg_ hnew_; clear hg_ hnew_; (rw [← cE.out] at aR); have aE := am (Kd.R_below (by exact sR <| a2.out) hb); have aD := am (Kd.R_lower aR (tK (w := w) (g := g) (row := none) (by exact kB))); have aC := am (IsS93.below (by exact kM) hb); have aB := kT (pV hb g none); have aN := hX hb (by exact kL); clear a2; clear HI0; clear HK; clear HB; have a2 := aE; have a8 := aD; have HI0 := aC; have HK := aB; have HB := aN; clear aE aD aC aB aN; clear hb aR; obtain ⟨fE, f8, rfl⟩ := Kd.R_slice a8.out) | (refine gF 88 (some 40) rfl ?_; refine gS Try.func88 (spec_l01PickInt.calls w0 _ kM kL (sC (Kd.R_reads' a8.out).2.2) ((Kd.R_reads' a8.out).2.1) (b0n (pB HI0.out a8.out (by decide))) dV.out) ?_; rintro w44 ⟨hi, hb, hk⟩; replace a2 := tU a2 hk; replace a8 := tU a8 hk; replace HK := kT hk; replace HB := am hb; replace HI0 := am hi; (try clear hb); (try clear hk); (try clear hi); have bD : 0 ≤ (a0 : Int) := oD (by assumption); have bA : (a0 : Int) < ((a1.length : Int) : Int) := oD (by assumption); obtain ⟨a3, f9, cV, bL, gl36, cl36, HG36⟩ := Kd.R_form a2.out oM; (cases cV); have c_ := am bL; have GG36 := am HG36; clear bL gl36 HG36; obtain ⟨ce36, hcl36, hM36, hcc36, hfr36⟩ := Kd.R_elem a2.out z31 (a0 : Int) bD bA; obtain rfl := yH hM36; have dJ : w44.cell? ⟨a3, (a0 : Int).toNat * 6, none⟩ = some (.int .i64 ((kA a1 a0).f0)) := hcc36 0 _ rfl; have dI : w44.cell? ⟨a3, (a0 : Int).toNat * 6 + 1, none⟩ = some (.int .i64 ((kA a1 a0).f1)) := hcc36 1 _ rfl; have dH : w44.cell? ⟨a3, (a0 : Int).toNat * 6 + 2, none⟩ = some (.int .i64 ((kA a1 a0).f2)) := hcc36 2 _ rfl; have dG : w44.cell? ⟨a3, (a0 : Int).toNat * 6 + 3, none⟩ = some (.int .i64 ((kA a1 a0).f3)) := hcc36 3 _ rfl; have dF : w44.cell? ⟨a3, (a0 : Int).toNat * 6 + 4, none⟩ = some (.int .i64 ((kA a1 a0).f4)) := hcc36 4 _ rfl; have dE : w44.cell? ⟨a3, (a0 : Int).toNat * 6 + 5, none⟩ = some (.int .i64 ((kA a1 a0).f5)) := hcc36 5 _ rfl; have hf36_0 : w44.frozen? ⟨a3, (a0 : Int).toNat * 6, none⟩ = false := hfr36 0; have hf36_1 : w44.frozen? ⟨a3, (a0 : Int).toNat * 6 + 1, none⟩ = false := hfr36 1; have hf36_2 : w44.frozen? ⟨a3, (a0 : Int).toNat * 6 + 2, none⟩ = false := hfr36 2; have hf36_3 : w44.frozen? ⟨a3, (a0 : Int).toNat * 6 + 3, none⟩ = false := hfr36 3; have hf36_4 : w44.frozen? ⟨a3, (a0 : Int).toNat * 6 + 4, none⟩ = false := hfr36 4; have hf36_5 : w44.frozen? ⟨a3, (a0 : Int).toNat * 6 + 5, none⟩ = false := hfr36 5; clear hcl36 hcc36 hfr36 hM36; replace bD := eq_true bD; replace bA := eq_true bA; have HX45 := am (show Kd.R k31 31 w44 w.heap.size (fun _ => True) (.slice (some ⟨a3, 0, none⟩) a1.length a7) a1 from (by exact sR <| a2.out)); obtain ⟨ce45, hcl45, hM45, hcc45, hfr45⟩ := Kd.R_elem HX45.out z31 (a0 : Int) (oD (by assumption)) (by have h_ : (a0 : Int) < ((a1.length : Int) : Int) := oD (by assumption); exact h_); obtain rfl := yH hM45; have aV := Kd.R_seg HX45.out (a0 : Int) (oD (by assumption)) (by have h_ : (a0 : Int) < ((a1.length : Int) : Int) := oD (by assumption); exact h_) (seg := [.int .i64 aI]) (j := 2) hcl45 hcc45 (show 3 ≤ 6 from by decide) (x' := (⟨(kA a1 a0).f0, (kA a1 a0).f1, aI, (kA a1 a0).f3, (kA a1 a0).f4, (kA a1 a0).f5⟩ : S31)) (vK _ _ _ (⟨(kA a1 a0).f0, (kA a1 a0).f1, aI, (kA a1 a0).f3, (kA a1 a0).f4, (kA a1 a0).f5⟩ : S31) ) (fun _ hk => hk); have bH := hcc45 2 _ rfl; (try simp only [show (k31).sz = 6 from rfl, Nat.mul_one, Nat.add_zero] at bH); have hf45_2 := hfr45 2; (try simp only [show (k31).sz = 6 from rfl, Nat.mul_one, Nat.add_zero] at hf45_2); clear hcl45 hcc45 hfr45 hM45) | ((with_reducible refine qR (t := 3) (p := 42) rfl ?_); refine qD (t := 3) (p := 42) (v := ?vo_w46) (w1 := (w44.setCell ⟨a3, (a0 : Int).toNat * 6 + 2, none⟩ (.int .i64 aI))) ?hg ?ho ?hn ?hr ?_; (case ho => rfl); (case hg => rfl); (case hn => rfl); (case hr => (go_simp; done)); intro w46 hw; have hg : w44.grownBy w46 (some a3) := (by rw [hw]; exact aV.2); have hp_ : Kd.R k31 31 w46 w.heap.size (fun _ => True) (.slice (some ⟨a3, 0, none⟩) a1.length a7) cR := (by rw [hw, cC.out]; exact aV.1); clear aV; replace HI0 := am (IsS93.grown (by exact kM) hg (pB HI0.out a2.out (by decide))); replace a8 := am (Kd.R_over' (v := (.slice (some ⟨a3, 0, none⟩) a1.length a7)) (by exact sR <| a8.out) (Kd.R_typed a2.out) (by decide) hg); replace HB := am ((by rw [hw]; exact kZ (HB.out) (Nat.le_trans HL.out c_.out) : Below w0.heap.size w0 w46)); replace HK := am (KeepBut.trans (by exact kB) (uQ hg g) (Kd.R_base2 a2.out)); replace a2 := am hp_; clear hg hw hp_)))
  go_ret
  exact ⟨_, rfl, sR <| a2.out, kM, kL, kB⟩
 replace H := iE H; rcases H with ⟨bT, bS, H⟩ | ⟨bT, bS, H⟩
 ·replace H := oA H; obtain ⟨⟨aH, eM, eL⟩, dU, H⟩ := H
  try dsimp only at H
  replace H := iN H; obtain ⟨e9, H⟩ := H
  replace H := iN H; obtain ⟨e8, H⟩ := H
  generalize a_ : a1.set (a0 : Int).toNat (⟨wrap64 (aH - 1), (kA a1 a0).f1, (kA a1 a0).f2, (kA a1 a0).f3, (kA a1 a0).f4, (kA a1 a0).f5⟩ : S31) = cQ at H
  have cB := am a_.symm; clear a_
  simp only [Option.some.injEq, Prod.mk.injEq] at H
  obtain ⟨rfl, rfl, rfl⟩ := H
  go_wp2_with (first | ((with_reducible refine gW ?_); first | (refine gF 69 (some 48) rfl ?_; refine gS Try.func69 (spec_l01Below.calls _ _ _ _ _ _ _ _ w0 _ kM kL dU.out) ?_; rintro w56 ⟨hi, hb, hk⟩; replace a2 := tU a2 hk; replace HK := kT hk; replace HB := am hb; replace HI0 := am hi; (try clear hb); (try clear hk); (try clear hi); have bC : 0 ≤ (a0 : Int) := oD (by assumption); have b9 : (a0 : Int) < ((a1.length : Int) : Int) := oD (by assumption); obtain ⟨a4, f7, cU, bK, gl51, cl51, HG51⟩ := Kd.R_form a2.out oM; (cases cU); have cZ := am bK; have GG51 := am HG51; clear bK gl51 HG51; obtain ⟨ce51, hcl51, hM51, hcc51, hfr51⟩ := Kd.R_elem a2.out z31 (a0 : Int) bC b9; obtain rfl := yH hM51; have dD : w56.cell? ⟨a4, (a0 : Int).toNat * 6, none⟩ = some (.int .i64 ((kA a1 a0).f0)) := hcc51 0 _ rfl; have dC : w56.cell? ⟨a4, (a0 : Int).toNat * 6 + 1, none⟩ = some (.int .i64 ((kA a1 a0).f1)) := hcc51 1 _ rfl; have dB : w56.cell? ⟨a4, (a0 : Int).toNat * 6 + 2, none⟩ = some (.int .i64 ((kA a1 a0).f2)) := hcc51 2 _ rfl; have dA : w56.cell? ⟨a4, (a0 : Int).toNat * 6 + 3, none⟩ = some (.int .i64 ((kA a1 a0).f3)) := hcc51 3 _ rfl; have d9 : w56.cell? ⟨a4, (a0 : Int).toNat * 6 + 4, none⟩ = some (.int .i64 ((kA a1 a0).f4)) := hcc51 4 _ rfl; have d8 : w56.cell? ⟨a4, (a0 : Int).toNat * 6 + 5, none⟩ = some (.int .i64 ((kA a1 a0).f5)) := hcc51 5 _ rfl; have hf51_0 : w56.frozen? ⟨a4, (a0 : Int).toNat * 6, none⟩ = false := hfr51 0; have hf51_1 : w56.frozen? ⟨a4, (a0 : Int).toNat * 6 + 1, none⟩ = false := hfr51 1; have hf51_2 : w56.frozen? ⟨a4, (a0 : Int).toNat * 6 + 2, none⟩ = false := hfr51 2; have hf51_3 : w56.frozen? ⟨a4, (a0 : Int).toNat * 6 + 3, none⟩ = false := hfr51 3; have hf51_4 : w56.frozen? ⟨a4, (a0 : Int).toNat * 6 + 4, none⟩ = false := hfr51 4; have hf51_5 : w56.frozen? ⟨a4, (a0 : Int).toNat * 6 + 5, none⟩ = false := hfr51 5; clear hcl51 hcc51 hfr51 hM51; replace bC := eq_true bC; replace b9 := eq_true b9; have HX57 := am (show Kd.R k31 31 w56 w.heap.size (fun _ => True) (.slice (some ⟨a4, 0, none⟩) a1.length a7) a1 from (by exact sR <| a2.out)); obtain ⟨ce57, hcl57, hM57, hcc57, hfr57⟩ := Kd.R_elem HX57.out z31 (a0 : Int) (oD (by assumption)) (by have h_ : (a0 : Int) < ((a1.length : Int) : Int) := oD (by assumption); exact h_); obtain rfl := yH hM57; have aU := Kd.R_seg HX57.out (a0 : Int) (oD (by assumption)) (by have h_ : (a0 : Int) < ((a1.length : Int) : Int) := oD (by assumption); exact h_) (seg := [.int .i64 (wrap64 (aH - 1))]) (j := 0) hcl57 hcc57 (show 1 ≤ 6 from by decide) (x' := (⟨wrap64 (aH - 1), (kA a1 a0).f1, (kA a1 a0).f2, (kA a1 a0).f3, (kA a1 a0).f4, (kA a1 a0).f5⟩ : S31)) (vK _ _ _ (⟨wrap64 (aH - 1), (kA a1 a0).f1, (kA a1 a0).f2, (kA a1 a0).f3, (kA a1 a0).f4, (kA a1 a0).f5⟩ : S31) ) (fun _ hk => hk); have bG := hcc57 0 _ rfl; (try simp only [show (k31).sz = 6 from rfl, Nat.mul_one, Nat.add_zero] at bG); have hf57_0 := hfr57 0; (try simp only [show (k31).sz = 6 from rfl, Nat.mul_one, Nat.add_zero] at hf57_0); clear hcl57 hcc57 hfr57 hM57) | ((with_reducible refine qR (t := 3) (p := 51) rfl ?_); refine qD (t := 3) (p := 51) (v := ?vo_w58) (w1 := (w56.setCell ⟨a4, (a0 : Int).toNat * 6, none⟩ (.int .i64 (wrap64 (aH - 1))))) ?hg ?ho ?hn ?hr ?_; (case ho => rfl); (case hg => rfl); (case hn => rfl); (case hr => (go_simp; done)); intro w58 hw; have hg : w56.grownBy w58 (some a4) := (by rw [hw]; exact aU.2); have hp_ : Kd.R k31 31 w58 w.heap.size (fun _ => True) (.slice (some ⟨a4, 0, none⟩) a1.length a7) cQ := (by rw [hw, cB.out]; exact aU.1); clear aU; replace HI0 := am (IsS93.grown (by exact kM) hg (pB HI0.out a2.out (by decide))); replace HB := am ((by rw [hw]; exact kZ (HB.out) (Nat.le_trans HL.out cZ.out) : Below w0.heap.size w0 w58)); replace HK := am (KeepBut.trans (by exact kB) (uQ hg g) (Kd.R_base2 a2.out)); replace a2 := am hp_; clear hg hw hp_)))
  go_ret
  exact ⟨_, rfl, sR <| a2.out, kM, kL, kB⟩
 replace H := iE H; rcases H with ⟨bR, bQ, H⟩ | ⟨bR, bQ, H⟩
 ·generalize aG : wrap64 (a0 + 1) = aA at H
  (try rw [aG] at A2)
  (try rw [aG] at A3)
  (try rw [aG] at A4)
  have dQ : (IntKind.i64.wrap (a0 + 1)) = aA := (xW _).trans aG
  replace H := iTD H; obtain ⟨e7, e6, H⟩ := H
  replace H := iTD H; obtain ⟨e5, e4, H⟩ := H
  generalize aZ : a1.take ((aA) : Int).toNat = cP at H
  have b5 := am aZ.symm; clear aZ
  simp only [Option.some.injEq, Prod.mk.injEq] at H
  obtain ⟨rfl, rfl, rfl⟩ := H
  have b8 : ((aA) : Int) ≤ ((a1.length : Int) : Int) := oD (by assumption)
  obtain ⟨i067, hi067, _, hsz67, _⟩ := info_parts yI
  have hcut67 := b8h (P := Try.prog) 24 31 .i64 Try.underlying24 hi067 d1 a1.length a7 (aA) (oD (by assumption)) b8 (Kd.R_reads' a2.out).2.1
  have hr67 := Kd.R_take (m := ((aA) : Int).toNat) a2.out oM
  have bF : cP.length = ((aA) : Int).toNat := (by rw [b5.out, List.length_take]; omega)
  rw [← b5.out] at hr67
  rw [← bF] at hr67 hcut67
  clear bF hi067 hsz67 a2
  have cK := am hr67
  clear hr67
  replace b8 := eq_true b8
  go_wp2
  go_ret
  exact ⟨_, rfl, sR <| cK.out, kM, kL, kB⟩
 replace H := iE H; rcases H with ⟨bP, bO, H⟩ | ⟨bP, bO, H⟩
 rotate_left
 ·exact c2b
 by_cases aM : a0 > 0
 ·rw [if_pos aM] at H
  have bN : decide (0 < a0) = true := decide_eq_true aM
  clear aM
  replace H := iN H; obtain ⟨e3, H⟩ := H
  replace H := iN H; obtain ⟨e2, H⟩ := H
  replace H := iP H; obtain ⟨cO, H⟩ := H
  have cI := am cO
  clear cO
  generalize aY : a1 ++ [(⟨2, (kA a1 a0).f1, 0, a0, 0, 0⟩ : S31)] = eE at H
  have c1 := am aY.symm; clear aY
  simp only [Option.some.injEq, Prod.mk.injEq] at H
  obtain ⟨rfl, rfl, rfl⟩ := H
  obtain ⟨f6, e_, c0, rfl, d7, d6, d5, d4, d3, d2⟩ := ix (pL (Kd.R_reads' a2.out).2.2 a0)
  go_wp2_with (first | ((with_reducible refine qG (b := .append) (xs := #[.tmp 62, .tmp 70]) rfl ?_); at_builtin; refine Kd.R_append k31 w.heap.size rfl (.tmp 62) (.tmp 70) 24 31 (.agg #[(.int .i64 0), (.int .i64 0), (.int .i64 0), (.int .i64 0), (.int .i64 0), (.int .i64 0)]) 48 rfl Try.underlying24 yI rfl (by decide) oM (.slice (some c0) a1.length a7) a1 (⟨2, (kA a1 a0).f1, 0, a0, 0, 0⟩ : S31) [.int .i64 2, .int .i64 ((kA a1 a0).f1), .int .i64 0, .int .i64 a0, .int .i64 0, .int .i64 0] (fun _ => True) (fun _ => False) rfl rfl ?aP (fun _ hk => hk.elim) ?aF ?aO (Below.refl _ _) ?aS ?aL ?_; (case aP => exact vK _ _ _ (⟨2, (kA a1 a0).f1, 0, a0, 0, 0⟩ : S31)); (case aF => exact (fun _ _ => trivial)); (case aO => exact (by exact sR <| a2.out)); (case aS => exact (tK (w := w) (g := g) (row := none) (by exact kB))); (case aL => have := cI.out; omega); intro eH w77 ho hb hg hat; rw [← c1.out] at ho; have aE := am (IsS93.grown (by exact kM) hg (pB HI0.out a2.out (by decide))); have aD := am (b0w (by exact kL) HL.out hb); have aC := am (KeepBut.trans (by exact kB) (uQ hg g) (Kd.R_base2 a2.out)); have aB := am (ho); clear HI0; clear HB; clear HK; clear a2; have HI0 := aE; have HB := aD; have HK := aC; have cJ := aB; clear aE aD aC aB; clear ho hb hg hat))
  go_ret
  exact ⟨_, rfl, sR <| cJ.out, kM, kL, kB⟩
 rw [if_neg aM] at H
 have bN : decide (0 < a0) = false := decide_eq_false aM
 clear aM
 exact c2b
end Go.Proofs.Ytkpipmojkhikaaa.PAll
