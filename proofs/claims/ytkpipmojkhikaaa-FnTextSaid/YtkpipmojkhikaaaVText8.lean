/- Written by a program of this session over the loaded program, and by hand: Go functions as plain Lean functions, and that a call comes to what they say. -/
import Derived.Test.YtkpipmojkhikaaaVText0
import Derived.Test.YtkpipmojkhikaaaVText1
import Derived.Test.YtkpipmojkhikaaaVText5
import Derived.Test.YtkpipmojkhikaaaVText7
import Derived.Test.YtkpipmojkhikaaaBase
import Derived.Test.YtkpipmojkhikaaaSq
namespace Go.Proofs.Ytkpipmojkhikaaa.PAll
open Go.RowKit Go.Proofs.YtkpipmojkhikaaaW.PrintWords Go.Proofs.YtkpipmojkhikaaaW.PrintLast Go.Proofs.YtkpipmojkhikaaaW.PrintMore Go.Proofs.YtkpipmojkhikaaaW.Sq
attribute [local go_sem] sD rZ uM uL qV qU sA rY
set_option linter.unusedVariables false
set_option maxHeartbeats 8000000
set_option maxRecDepth 100000
set_option linter.unusedSimpArgs false
def uT (k : Nat) (a5 : List Int) (a4 : Int) (a3 : Int) (a1 : Int) : Option ((List (S31)) × Int × Int) := (pY k a5 a4 a3 (([] : List (S31))) (([] : List (S31))) 0 a1 4).bind fun a0 => (if (a0.1.length : Int) > 80 then (some ((([(⟨1, 1, 0, 0, 0, 0⟩ : S31), (⟨20, 1, 0, 0, 1, 0⟩ : S31)] : List (S31))), a0.2.2.2.2.1, a0.2.2.2.2.2)) else ((uJ k a0.1).bind fun a2 => (if a2 = true then (some (a0.1, a0.2.2.2.2.1, a0.2.2.2.2.2)) else (some ((([(⟨1, 1, 0, 0, 0, 0⟩ : S31), (⟨20, 1, 0, 0, 1, 0⟩ : S31)] : List (S31))), a0.2.2.2.2.1, a0.2.2.2.2.2)))))
theorem spec_l02Sentence.calls {k g : Nat} {aB : List Int} {aE aD a1 : Int} {r1 : List (S31)} {r2 r3 : Int} (w0 w : World) (hI : IsS93 w0 w g aB aE aD) (hB : Below w0.heap.size w0 w) (h : uT k aB aE aD a1 = some (r1, r2, r3)) :
  Calls Try.prog 64 #[.pointer (some ⟨g, 0, none⟩), .int .i64 a1] w fun e w' => ∃ aY : Value, e = .returned (aY) ∧ Kd.R k31 31 w' w.heap.size (fun _ => True) aY r1 ∧ IsS93 w0 w' g aB r2 r3 ∧ Below w0.heap.size w0 w' ∧ KeepBut w w' g none := by
 have hu31 := Try.underlying31
 have HI0 := am hI
 have HK := am (KeepBut.refl w g none)
 have HL := am hB.size
 clear hI
 have HW0 := am hB.size
 have HB := am hB
 clear hB
 have H := h
 clear h
 unfold uT at H
 obtain ⟨aC, aJ⟩ : ∃ y_ : List (S31), y_ = (([] : List (S31))) := ⟨_, rfl⟩
 replace H : ((pY k aB aE aD aC (([] : List (S31))) 0 a1 4).bind fun a3 => (if (a3.1.length : Int) > 80 then (some ((([(⟨1, 1, 0, 0, 0, 0⟩ : S31), (⟨20, 1, 0, 0, 1, 0⟩ : S31)] : List (S31))), a3.2.2.2.2.1, a3.2.2.2.2.2)) else ((uJ k a3.1).bind fun aH => (if aH = true then (some (a3.1, a3.2.2.2.2.1, a3.2.2.2.2.2)) else (some ((([(⟨1, 1, 0, 0, 0, 0⟩ : S31), (⟨20, 1, 0, 0, 1, 0⟩ : S31)] : List (S31))), a3.2.2.2.2.1, a3.2.2.2.2.2)))))) = some (r1, r2, r3) := by (rw [aJ]; with_reducible exact H)
 have aV := am aJ
 clear aJ
 obtain ⟨aL, aI⟩ : ∃ y_ : List (S31), y_ = (([] : List (S31))) := ⟨_, rfl⟩
 replace H : ((pY k aB aE aD aC aL 0 a1 4).bind fun a3 => (if (a3.1.length : Int) > 80 then (some ((([(⟨1, 1, 0, 0, 0, 0⟩ : S31), (⟨20, 1, 0, 0, 1, 0⟩ : S31)] : List (S31))), a3.2.2.2.2.1, a3.2.2.2.2.2)) else ((uJ k a3.1).bind fun aH => (if aH = true then (some (a3.1, a3.2.2.2.2.1, a3.2.2.2.2.2)) else (some ((([(⟨1, 1, 0, 0, 0, 0⟩ : S31), (⟨20, 1, 0, 0, 1, 0⟩ : S31)] : List (S31))), a3.2.2.2.2.1, a3.2.2.2.2.2)))))) = some (r1, r2, r3) := by (rw [aI]; with_reducible exact H)
 have aU := am aI
 clear aI
 replace H := oA H; obtain ⟨⟨aA, b6, b5, b4, b3, b2⟩, A3, H⟩ := H
 try dsimp only at H
 replace H := am H
 go_enter Try.func64, Try.ntmps64
 go_upto_region 2 with (first | ((with_reducible refine gW ?_); first | (refine lE k31 31 11 ?_; intro bG w5 aR hb; (rw [← aV.out] at aR); have a7 := am (Kd.R_lower aR (tK (w := w) (g := g) (row := none) (by exact kB))); have a6 := am (IsS93.below (by exact kM) hb); have a5 := kT (pV hb g none); have a4 := hX hb (by exact kL); clear HI0; clear HK; clear HB; have a8 := a7; have HI0 := a6; have HK := a5; have HB := a4; clear a7 a6 a5 a4; clear hb aR) | (refine lE k31 31 12 ?_; intro bF w7 aO hb; (rw [← aU.out] at aO); have a7 := am (Kd.R_elder' (by exact sR <| a8.out) (Kd.R_base aO) hb); have a6 := am (Kd.R_lower (Kd.R_new' aO (Kd.R_lt (by exact sR <| a8.out))) (tK (w := w) (g := g) (row := none) (by exact kB))); have a5 := am (IsS93.below (by exact kM) hb); have a4 := kT (pV hb g none); have a9 := hX hb (by exact kL); clear a8; clear HI0; clear HK; clear HB; have a8 := a7; have a0 := a6; have HI0 := a5; have HK := a4; have HB := a9; clear a7 a6 a5 a4 a9; clear hb aO; obtain ⟨a_, aZ, rfl⟩ := Kd.R_slice a8.out; obtain ⟨bA, b7, rfl⟩ := Kd.R_slice a0.out) | (refine gF 101 (some 14) rfl ?_; refine gT Try.func101 (spec_l02Made.calls k g aB aE aD (fun k_ => some k_ = (.slice a_ aC.length aZ : Value).ownBlock) (.slice a_ aC.length aZ) aC _ _ aL 0 a1 4 aA b6 b5 b4 b3 b2 w0 _ kM kL (Kd.R_lower (Kd.R_tight rfl a8.out) HL.out) (Kd.C_kept_own ((IsS93.apart HI0.out a0.out (by decide))) (fun k_ hk_ hs_ => Or.elim hs_ (fun hs_ => (hk_.1.2) hs_) (fun e_ => (hk_.2) e_))) ((Kd.R_reads' a0.out).2.1) A3.out) ?_; rintro b1 w11 ⟨aQ, hi, hb, hkp⟩; have a2 := am (Kd.R_mono (ok' := fun k_ => some k_ ≠ (.slice bA aL.length b7 : Value).ownBlock) (Kd.R_raise (d := k31) (b := w0.heap.size) (b' := w.heap.size) (fun _ _ _ _ h_ => h_) aQ (fun k_ e_ => Or.elim (aQ.1 k_ e_) (fun hs_ => (fun e_ => Kd.R_base a8.out k_ e_.symm) hs_) (fun hn_ => Nat.le_trans (tK (w := w) (g := g) (row := none) (by exact kB)) hn_))) (fun k_ hk_ => Or.elim hk_ (fun hs_ => fun e_ => ((((IsS93.apart HI0.out a0.out (by decide))).1 k_ e_.symm).1.2) hs_) (fun hn_ => (Kd.fresh' (Kd.R_lt (by exact sR <| a0.out)) k_ hn_)))); replace a0 := am (Kd.R_mono (ok' := fun k_ => some k_ ≠ (b1 : Value).ownBlock) (Kd.R_keptB ((IsS93.apart HI0.out a0.out (by decide))) hkp (fun k_ hk_ hs_ => Or.elim hs_ (fun hs_ => (hk_.1.2) hs_) (fun e_ => (hk_.2) e_))) (fun k_ hk_ => fun e_ => Or.elim (aQ.1 k_ e_.symm) (fun hs_ => hk_.2.1 (by exact .inl hs_)) (fun hn_ => Nat.not_le.2 hk_.2.2 hn_))); replace HI0 := am hi; replace HK := am (b4h (by exact kB) hkp (fun k_ hs_ => Or.elim hs_ (fun hs_ => (fun e_ => .inr (Kd.R_base a8.out k_ e_.symm)) hs_) (fun e_ => .inl e_))); replace HB := am hb; clear a8; (try clear hb); (try clear hkp); (try clear aQ); obtain ⟨bI, bH, rfl⟩ := Kd.R_slice a2.out)))
 obtain ⟨H⟩ := H
 by_cases c4 : (aA.length : Int) > 80
 ·rw [if_pos c4] at H
  have b9 : decide (80 < (aA.length : Int)) = true := decide_eq_true c4
  have b8 : decide (80 < aA.length) = true := decide_eq_true oM
  clear c4
  generalize aN : ([(⟨1, 1, 0, 0, 0, 0⟩ : S31), (⟨20, 1, 0, 0, 1, 0⟩ : S31)] : List (S31)) = bC at H
  have aT := am aN.symm; clear aN
  simp only [Option.some.injEq, Prod.mk.injEq] at H
  obtain ⟨rfl, rfl, rfl⟩ := H
  go_wp2_with (first | ((with_reducible refine qC (N := 29) rfl ?_); refine Kd.R_lit k31 _ 31 ?hg (N := 29) ?hd (xs := ([(⟨1, 1, 0, 0, 0, 0⟩ : S31), (⟨20, 1, 0, 0, 1, 0⟩ : S31)] : List (S31))) (inner := [.int .i64 1, .int .i64 1, .int .i64 0, .int .i64 0, .int .i64 0, .int .i64 0, .int .i64 20, .int .i64 1, .int .i64 0, .int .i64 0, .int .i64 1, .int .i64 0]) (ok := fun _ => True) (okp := fun _ => True) ?hr ?hp (fun _ hk => hk) trivial (Below.refl _ _) (Nat.le_refl _) (by simp) ?_; (case hd => rfl); (case hg => rfl); (case hr => (go_simp; done)); (case hp => exact (xV (show Kd.M k31 _ _ _ (⟨1, 1, 0, 0, 0, 0⟩ : S31) [.int .i64 1, .int .i64 1, .int .i64 0, .int .i64 0, .int .i64 0, .int .i64 0] from (vK _ _ _ (⟨1, 1, 0, 0, 0, 0⟩ : S31) )) (xV (show Kd.M k31 _ _ _ (⟨20, 1, 0, 0, 1, 0⟩ : S31) [.int .i64 20, .int .i64 1, .int .i64 0, .int .i64 0, .int .i64 1, .int .i64 0] from (vK _ _ _ (⟨20, 1, 0, 0, 1, 0⟩ : S31) )) (Reps.none _ _)))); intro bE w13 aG hb hg_ hnew_; clear hg_ hnew_; (rw [← aT.out] at aG); have a7 := am (Kd.R_elder' (by exact sR <| a0.out) (Kd.R_base aG) hb); have a6 := am (Kd.R_elder' (by exact sR <| a2.out) (Kd.R_base aG) hb); have a5 := am (Kd.R_lower (Kd.R_new' (Kd.R_new' aG (Kd.R_lt (by exact sR <| a0.out))) (Kd.R_lt (by exact sR <| a2.out))) (tK (w := w) (g := g) (row := none) (by exact kB))); have a4 := am (IsS93.below (by exact kM) hb); have a9 := kT (pV hb g none); have aK := hX hb (by exact kL); clear a0; clear a2; clear HI0; clear HK; clear HB; have a0 := a7; have a2 := a6; have aX := a5; have HI0 := a4; have HK := a9; have HB := aK; clear a7 a6 a5 a4 a9 aK; clear hb aG))
  go_ret
  exact ⟨_, rfl, sR <| Kd.R_mono aX.out (fun _ hk => trivial), kM, kL, kB⟩
 rw [if_neg c4] at H
 have b9 : decide (80 < (aA.length : Int)) = false := decide_eq_false c4
 have b8 : decide (80 < aA.length) = false := decide_eq_false oM
 clear c4
 replace H := oA H; obtain ⟨aH, b0, H⟩ := H
 replace H := iB H; rcases H with ⟨rfl, H⟩ | ⟨rfl, H⟩
 ·simp only [Option.some.injEq, Prod.mk.injEq] at H
  obtain ⟨rfl, rfl, rfl⟩ := H
  go_wp2_with (first | (go_at_call 66; refine (spec_Sentence.calls (sC (Kd.R_reads' a2.out).2.2) ((Kd.R_reads' a2.out).2.1) b0.out).mono ?_; rintro e w25 ⟨rfl, hb⟩; have a7 := am (Kd.R_below (by exact sR <| a0.out) hb); have a6 := am (Kd.R_below (by exact sR <| a2.out) hb); have a5 := am (IsS93.below (by exact kM) hb); have a4 := kT (pV hb g none); have a9 := hX hb (by exact kL); clear a0; clear a2; clear HI0; clear HK; clear HB; have a0 := a7; have a2 := a6; have HI0 := a5; have HK := a4; have HB := a9; clear a7 a6 a5 a4 a9; (try clear hb)))
  go_ret
  exact ⟨_, rfl, sR <| Kd.R_mono a2.out (fun _ hk => trivial), kM, kL, kB⟩
 generalize aM : ([(⟨1, 1, 0, 0, 0, 0⟩ : S31), (⟨20, 1, 0, 0, 1, 0⟩ : S31)] : List (S31)) = bB at H
 have aS := am aM.symm; clear aM
 simp only [Option.some.injEq, Prod.mk.injEq] at H
 obtain ⟨rfl, rfl, rfl⟩ := H
 go_wp2_with (first | (go_at_call 66; refine (spec_Sentence.calls (sC (Kd.R_reads' a2.out).2.2) ((Kd.R_reads' a2.out).2.1) b0.out).mono ?_; rintro e w34 ⟨rfl, hb⟩; have a7 := am (Kd.R_below (by exact sR <| a0.out) hb); have a6 := am (Kd.R_below (by exact sR <| a2.out) hb); have a5 := am (IsS93.below (by exact kM) hb); have a4 := kT (pV hb g none); have a9 := hX hb (by exact kL); clear a0; clear a2; clear HI0; clear HK; clear HB; have a0 := a7; have a2 := a6; have HI0 := a5; have HK := a4; have HB := a9; clear a7 a6 a5 a4 a9; (try clear hb)) | ((with_reducible refine qC (N := 29) rfl ?_); refine Kd.R_lit k31 _ 31 ?hg (N := 29) ?hd (xs := ([(⟨1, 1, 0, 0, 0, 0⟩ : S31), (⟨20, 1, 0, 0, 1, 0⟩ : S31)] : List (S31))) (inner := [.int .i64 1, .int .i64 1, .int .i64 0, .int .i64 0, .int .i64 0, .int .i64 0, .int .i64 20, .int .i64 1, .int .i64 0, .int .i64 0, .int .i64 1, .int .i64 0]) (ok := fun _ => True) (okp := fun _ => True) ?hr ?hp (fun _ hk => hk) trivial (Below.refl _ _) (Nat.le_refl _) (by simp) ?_; (case hd => rfl); (case hg => rfl); (case hr => (go_simp; done)); (case hp => exact (xV (show Kd.M k31 _ _ _ (⟨1, 1, 0, 0, 0, 0⟩ : S31) [.int .i64 1, .int .i64 1, .int .i64 0, .int .i64 0, .int .i64 0, .int .i64 0] from (vK _ _ _ (⟨1, 1, 0, 0, 0, 0⟩ : S31) )) (xV (show Kd.M k31 _ _ _ (⟨20, 1, 0, 0, 1, 0⟩ : S31) [.int .i64 20, .int .i64 1, .int .i64 0, .int .i64 0, .int .i64 1, .int .i64 0] from (vK _ _ _ (⟨20, 1, 0, 0, 1, 0⟩ : S31) )) (Reps.none _ _)))); intro bD w35 aF hb hg_ hnew_; clear hg_ hnew_; (rw [← aS.out] at aF); have a7 := am (Kd.R_elder' (by exact sR <| a0.out) (Kd.R_base aF) hb); have a6 := am (Kd.R_elder' (by exact sR <| a2.out) (Kd.R_base aF) hb); have a5 := am (Kd.R_lower (Kd.R_new' (Kd.R_new' aF (Kd.R_lt (by exact sR <| a0.out))) (Kd.R_lt (by exact sR <| a2.out))) (tK (w := w) (g := g) (row := none) (by exact kB))); have a4 := am (IsS93.below (by exact kM) hb); have a9 := kT (pV hb g none); have aK := hX hb (by exact kL); clear a0; clear a2; clear HI0; clear HK; clear HB; have a0 := a7; have a2 := a6; have aW := a5; have HI0 := a4; have HK := a9; have HB := aK; clear a7 a6 a5 a4 a9 aK; clear hb aF))
 go_ret
 exact ⟨_, rfl, sR <| Kd.R_mono aW.out (fun _ hk => trivial), kM, kL, kB⟩
def uC (a3 : List Int) (a2 : Int) (a1 : Int) (l1 : List Int) : Option (Int × Int × Int) := (kW a3 a2 a1 (l1.length : Int)).bind fun a0 => (if 0 ≤ a0.1 then (if a0.1 < (l1.length : Int) then (some (rd l1 a0.1, a0.2.1, a0.2.2)) else (none)) else (none))
theorem spec_l01PickInt.calls {g : Nat} {a2 : List Int} {a6 a5 : Int} {A1 : Option Addr} {c1 : Nat} {l1 : List Int} {r1 r2 r3 : Int} (w0 w : World) (hI : IsS93 w0 w g a2 a6 a5) (hB : Below w0.heap.size w0 w) (hr1 : Kd.C (Kd.int .i64) w A1 l1.length l1) (hc1 : l1.length ≤ c1) (hf1 : ∀ ad, A1 = some ad → 0 < l1.length → ad.block ≠ g) (h : uC a2 a6 a5 l1 = some (r1, r2, r3)) :
  Calls Try.prog 88 #[.pointer (some ⟨g, 0, none⟩), .slice A1 l1.length c1] w fun e w' => e = .returned (.int .i64 r1) ∧ IsS93 w0 w' g a2 r2 r3 ∧ Below w0.heap.size w0 w' ∧ KeepBut w w' g none := by
 have a8 := am hr1
 have aE := am hc1
 clear hr1 hc1
 have HI0 := am hI
 have HK := am (KeepBut.refl w g none)
 have HL := am hB.size
 clear hI
 have HW0 := am hB.size
 have HB := am hB
 clear hB
 have H := h
 clear h
 unfold uC at H
 replace H := oA H; obtain ⟨⟨a1, aB, aA⟩, A3, H⟩ := H
 try dsimp only at H
 replace H := iN H; obtain ⟨aD, H⟩ := H
 replace H := iN H; obtain ⟨aC, H⟩ := H
 simp only [Option.some.injEq, Prod.mk.injEq] at H
 obtain ⟨rfl, rfl, rfl⟩ := H
 go_enter Try.func88, Try.ntmps88
 go_wp2_with (first | ((with_reducible refine gW ?_); first | (refine gF 69 (some 9) rfl ?_; refine gS Try.func69 (spec_l01Below.calls _ _ _ _ _ _ _ _ w0 _ kM kL A3.out) ?_; rintro w6 ⟨hi, hb, hk⟩; replace HK := kT hk; replace HB := am hb; replace HI0 := am hi; (try clear hb); (try clear hk); (try clear hi); have a4 : 0 ≤ (a1 : Int) := oD (by assumption); have a3 : a1 < (l1.length : Int) := oD (by assumption); obtain ⟨a9, a7, a0⟩ := Kd.at_int a8.out a1 a4 a3; cases a7; replace a0 := a5t HK.out a0 (by (rw [a1c]; exact hf1 _ rfl oM)); replace a4 := eq_true a4; replace a3 := eq_true a3)))
 go_ret
 exact ⟨rfl, kM, kL, kB⟩
end Go.Proofs.Ytkpipmojkhikaaa.PAll
