/- Written by a program of this session over the loaded program, and by hand: Go functions as plain Lean functions, and that a call comes to what they say. -/
import Derived.Test.YtkpipmojkhikaaaVDenied0
import Derived.Test.YtkpipmojkhikaaaVDenied1
import Derived.Test.YtkpipmojkhikaaaVDenied5
import Derived.Test.YtkpipmojkhikaaaVDenied8
import Derived.Test.YtkpipmojkhikaaaBase
import Derived.Test.YtkpipmojkhikaaaSq
namespace Go.Proofs.Ytkpipmojkhikaaa.PAll
open Go.RowKit Go.Proofs.YtkpipmojkhikaaaW.PrintWords Go.Proofs.YtkpipmojkhikaaaW.PrintLast Go.Proofs.YtkpipmojkhikaaaW.PrintMore Go.Proofs.YtkpipmojkhikaaaW.Sq
attribute [local go_sem] qZ qX sT sS qC qB qY qW
set_option linter.unusedVariables false
set_option maxHeartbeats 8000000
set_option maxRecDepth 100000
set_option linter.unusedSimpArgs false
def uB (k : Nat) (a5 : List Int) (a4 : Int) (a3 : Int) (a1 : Int) : Option ((List (S31)) × Int × Int) := (pR k a5 a4 a3 (([] : List (S31))) (([] : List (S31))) 0 a1 4).bind fun a0 => (if (a0.1.length : Int) > 80 then (some ((([(⟨1, 1, 0, 0, 0, 0⟩ : S31), (⟨20, 1, 0, 0, 1, 0⟩ : S31)] : List (S31))), a0.2.2.2.2.1, a0.2.2.2.2.2)) else ((qK k a0.1).bind fun a2 => (if a2 = true then (some (a0.1, a0.2.2.2.2.1, a0.2.2.2.2.2)) else (some ((([(⟨1, 1, 0, 0, 0, 0⟩ : S31), (⟨20, 1, 0, 0, 1, 0⟩ : S31)] : List (S31))), a0.2.2.2.2.1, a0.2.2.2.2.2)))))
theorem spec_l02Sentence.calls {k g : Nat} {aB : List Int} {aE aD a1 : Int} {r1 : List (S31)} {r2 r3 : Int} (w0 w : World) (hI : IsS93 w0 w g aB aE aD) (hB : Below w0.heap.size w0 w) (h : uB k aB aE aD a1 = some (r1, r2, r3)) :
  Calls Try.prog 64 #[.pointer (some ⟨g, 0, none⟩), .int .i64 a1] w fun e w' => ∃ aY : Value, e = .returned (aY) ∧ Kd.R k31 31 w' w.heap.size (fun _ => True) aY r1 ∧ IsS93 w0 w' g aB r2 r3 ∧ Below w0.heap.size w0 w' ∧ KeepBut w w' g none := by
 have hu31 := Try.underlying31
 have HI0 := am hI
 have HK := am (KeepBut.refl w g none)
 have HL := am hB.size
 clear hI
 have HW0 := am hB.size
 have HB := am hB
 clear hB
 have H := h
 clear h
 unfold uB at H
 obtain ⟨aC, aJ⟩ : ∃ y_ : List (S31), y_ = (([] : List (S31))) := ⟨_, rfl⟩
 replace H : ((pR k aB aE aD aC (([] : List (S31))) 0 a1 4).bind fun a3 => (if (a3.1.length : Int) > 80 then (some ((([(⟨1, 1, 0, 0, 0, 0⟩ : S31), (⟨20, 1, 0, 0, 1, 0⟩ : S31)] : List (S31))), a3.2.2.2.2.1, a3.2.2.2.2.2)) else ((qK k a3.1).bind fun aH => (if aH = true then (some (a3.1, a3.2.2.2.2.1, a3.2.2.2.2.2)) else (some ((([(⟨1, 1, 0, 0, 0, 0⟩ : S31), (⟨20, 1, 0, 0, 1, 0⟩ : S31)] : List (S31))), a3.2.2.2.2.1, a3.2.2.2.2.2)))))) = some (r1, r2, r3) := by (rw [aJ]; with_reducible exact H)
 have aV := am aJ
 clear aJ
 obtain ⟨aL, aI⟩ : ∃ y_ : List (S31), y_ = (([] : List (S31))) := ⟨_, rfl⟩
 replace H : ((pR k aB aE aD aC aL 0 a1 4).bind fun a3 => (if (a3.1.length : Int) > 80 then (some ((([(⟨1, 1, 0, 0, 0, 0⟩ : S31), (⟨20, 1, 0, 0, 1, 0⟩ : S31)] : List (S31))), a3.2.2.2.2.1, a3.2.2.2.2.2)) else ((qK k a3.1).bind fun aH => (if aH = true then (some (a3.1, a3.2.2.2.2.1, a3.2.2.2.2.2)) else (some ((([(⟨1, 1, 0, 0, 0, 0⟩ : S31), (⟨20, 1, 0, 0, 1, 0⟩ : S31)] : List (S31))), a3.2.2.2.2.1, a3.2.2.2.2.2)))))) = some (r1, r2, r3) := by (rw [aI]; with_reducible exact H)
 have aU := am aI
 clear aI
 replace H := oA H; obtain ⟨⟨aA, b6, b5, b4, b3, b2⟩, A3, H⟩ := H
 try dsimp only at H
 replace H := am H
 go_enter Try.func64, Try.ntmps64
 go_upto_region 2 with (first | ((with_reducible refine gW ?_); first | (refine lE k31 31 11 ?_; intro bG w5 aR hb; (rw [← aV.out] at aR); have a7 := am (Kd.R_lower aR (a0t (w := w) (g := g) (row := none) (by exact kB))); have a6 := am (IsS93.below (by exact kL) hb); have a5 := kT (uA hb g none); have a4 := hX hb (by exact kJ); clear HI0; clear HK; clear HB; have a8 := a7; have HI0 := a6; have HK := a5; have HB := a4; clear a7 a6 a5 a4; clear hb aR) | (refine lE k31 31 12 ?_; intro bF w7 aO hb; (rw [← aU.out] at aO); have a7 := am (Kd.R_elder' (by exact sR <| a8.out) (Kd.R_base aO) hb); have a6 := am (Kd.R_lower (Kd.R_new' aO (Kd.R_lt (by exact sR <| a8.out))) (a0t (w := w) (g := g) (row := none) (by exact kB))); have a5 := am (IsS93.below (by exact kL) hb); have a4 := kT (uA hb g none); have a9 := hX hb (by exact kJ); clear a8; clear HI0; clear HK; clear HB; have a8 := a7; have a0 := a6; have HI0 := a5; have HK := a4; have HB := a9; clear a7 a6 a5 a4 a9; clear hb aO; obtain ⟨a_, aZ, rfl⟩ := Kd.R_slice a8.out; obtain ⟨bA, b7, rfl⟩ := Kd.R_slice a0.out) | (refine gF 101 (some 14) rfl ?_; refine gT Try.func101 (spec_l02Made.calls k g aB aE aD (fun k_ => some k_ = (.slice a_ aC.length aZ : Value).ownBlock) (.slice a_ aC.length aZ) aC _ _ aL 0 a1 4 aA b6 b5 b4 b3 b2 w0 _ kL kJ (Kd.R_lower (Kd.R_tight rfl a8.out) HL.out) (Kd.C_kept_own ((IsS93.apart HI0.out a0.out (by decide))) (fun k_ hk_ hs_ => Or.elim hs_ (fun hs_ => (hk_.1.2) hs_) (fun e_ => (hk_.2) e_))) ((Kd.R_reads' a0.out).2.1) A3.out) ?_; rintro b1 w11 ⟨aQ, hi, hb, hkp⟩; have a2 := am (Kd.R_mono (ok' := fun k_ => some k_ ≠ (.slice bA aL.length b7 : Value).ownBlock) (Kd.R_raise (d := k31) (b := w0.heap.size) (b' := w.heap.size) (fun _ _ _ _ h_ => h_) aQ (fun k_ e_ => Or.elim (aQ.1 k_ e_) (fun hs_ => (fun e_ => Kd.R_base a8.out k_ e_.symm) hs_) (fun hn_ => Nat.le_trans (a0t (w := w) (g := g) (row := none) (by exact kB)) hn_))) (fun k_ hk_ => Or.elim hk_ (fun hs_ => fun e_ => ((((IsS93.apart HI0.out a0.out (by decide))).1 k_ e_.symm).1.2) hs_) (fun hn_ => (Kd.fresh' (Kd.R_lt (by exact sR <| a0.out)) k_ hn_)))); replace a0 := am (Kd.R_mono (ok' := fun k_ => some k_ ≠ (b1 : Value).ownBlock) (Kd.R_keptB ((IsS93.apart HI0.out a0.out (by decide))) hkp (fun k_ hk_ hs_ => Or.elim hs_ (fun hs_ => (hk_.1.2) hs_) (fun e_ => (hk_.2) e_))) (fun k_ hk_ => fun e_ => Or.elim (aQ.1 k_ e_.symm) (fun hs_ => hk_.2.1 (by exact .inl hs_)) (fun hn_ => Nat.not_le.2 hk_.2.2 hn_))); replace HI0 := am hi; replace HK := am (b2t (by exact kB) hkp (fun k_ hs_ => Or.elim hs_ (fun hs_ => (fun e_ => .inr (Kd.R_base a8.out k_ e_.symm)) hs_) (fun e_ => .inl e_))); replace HB := am hb; clear a8; (try clear hb); (try clear hkp); (try clear aQ); obtain ⟨bI, bH, rfl⟩ := Kd.R_slice a2.out)))
 obtain ⟨H⟩ := H
 by_cases c4 : (aA.length : Int) > 80
 ·rw [if_pos c4] at H
  have b9 : decide (80 < (aA.length : Int)) = true := decide_eq_true c4
  have b8 : decide (80 < aA.length) = true := decide_eq_true oM
  clear c4
  generalize aN : ([(⟨1, 1, 0, 0, 0, 0⟩ : S31), (⟨20, 1, 0, 0, 1, 0⟩ : S31)] : List (S31)) = bC at H
  have aT := am aN.symm; clear aN
  simp only [Option.some.injEq, Prod.mk.injEq] at H
  obtain ⟨rfl, rfl, rfl⟩ := H
  go_wp2_with (first | ((with_reducible refine qF (N := 29) rfl ?_); refine Kd.R_lit k31 _ 31 ?hg (N := 29) ?hd (xs := ([(⟨1, 1, 0, 0, 0, 0⟩ : S31), (⟨20, 1, 0, 0, 1, 0⟩ : S31)] : List (S31))) (inner := [.int .i64 1, .int .i64 1, .int .i64 0, .int .i64 0, .int .i64 0, .int .i64 0, .int .i64 20, .int .i64 1, .int .i64 0, .int .i64 0, .int .i64 1, .int .i64 0]) (ok := fun _ => True) (okp := fun _ => True) ?hr ?hp (fun _ hk => hk) trivial (Below.refl _ _) (Nat.le_refl _) (by simp) ?_; (case hd => rfl); (case hg => rfl); (case hr => (go_simp; done)); (case hp => exact (zL (show Kd.M k31 _ _ _ (⟨1, 1, 0, 0, 0, 0⟩ : S31) [.int .i64 1, .int .i64 1, .int .i64 0, .int .i64 0, .int .i64 0, .int .i64 0] from (vV _ _ _ (⟨1, 1, 0, 0, 0, 0⟩ : S31) )) (zL (show Kd.M k31 _ _ _ (⟨20, 1, 0, 0, 1, 0⟩ : S31) [.int .i64 20, .int .i64 1, .int .i64 0, .int .i64 0, .int .i64 1, .int .i64 0] from (vV _ _ _ (⟨20, 1, 0, 0, 1, 0⟩ : S31) )) (Reps.none _ _)))); intro bE w13 aG hb hg_ hnew_; clear hg_ hnew_; (rw [← aT.out] at aG); have a7 := am (Kd.R_elder' (by exact sR <| a0.out) (Kd.R_base aG) hb); have a6 := am (Kd.R_elder' (by exact sR <| a2.out) (Kd.R_base aG) hb); have a5 := am (Kd.R_lower (Kd.R_new' (Kd.R_new' aG (Kd.R_lt (by exact sR <| a0.out))) (Kd.R_lt (by exact sR <| a2.out))) (a0t (w := w) (g := g) (row := none) (by exact kB))); have a4 := am (IsS93.below (by exact kL) hb); have a9 := kT (uA hb g none); have aK := hX hb (by exact kJ); clear a0; clear a2; clear HI0; clear HK; clear HB; have a0 := a7; have a2 := a6; have aX := a5; have HI0 := a4; have HK := a9; have HB := aK; clear a7 a6 a5 a4 a9 aK; clear hb aG))
  go_ret
  exact ⟨_, rfl, sR <| Kd.R_mono aX.out (fun _ hk => trivial), kL, kJ, kB⟩
 rw [if_neg c4] at H
 have b9 : decide (80 < (aA.length : Int)) = false := decide_eq_false c4
 have b8 : decide (80 < aA.length) = false := decide_eq_false oM
 clear c4
 replace H := oA H; obtain ⟨aH, b0, H⟩ := H
 replace H := iB H; rcases H with ⟨rfl, H⟩ | ⟨rfl, H⟩
 ·simp only [Option.some.injEq, Prod.mk.injEq] at H
  obtain ⟨rfl, rfl, rfl⟩ := H
  go_wp2_with (first | (go_at_call 66; refine (spec_Sentence.calls (sC (Kd.R_reads' a2.out).2.2) ((Kd.R_reads' a2.out).2.1) b0.out).mono ?_; rintro e w25 ⟨rfl, hb⟩; have a7 := am (Kd.R_below (by exact sR <| a0.out) hb); have a6 := am (Kd.R_below (by exact sR <| a2.out) hb); have a5 := am (IsS93.below (by exact kL) hb); have a4 := kT (uA hb g none); have a9 := hX hb (by exact kJ); clear a0; clear a2; clear HI0; clear HK; clear HB; have a0 := a7; have a2 := a6; have HI0 := a5; have HK := a4; have HB := a9; clear a7 a6 a5 a4 a9; (try clear hb)))
  go_ret
  exact ⟨_, rfl, sR <| Kd.R_mono a2.out (fun _ hk => trivial), kL, kJ, kB⟩
 generalize aM : ([(⟨1, 1, 0, 0, 0, 0⟩ : S31), (⟨20, 1, 0, 0, 1, 0⟩ : S31)] : List (S31)) = bB at H
 have aS := am aM.symm; clear aM
 simp only [Option.some.injEq, Prod.mk.injEq] at H
 obtain ⟨rfl, rfl, rfl⟩ := H
 go_wp2_with (first | (go_at_call 66; refine (spec_Sentence.calls (sC (Kd.R_reads' a2.out).2.2) ((Kd.R_reads' a2.out).2.1) b0.out).mono ?_; rintro e w34 ⟨rfl, hb⟩; have a7 := am (Kd.R_below (by exact sR <| a0.out) hb); have a6 := am (Kd.R_below (by exact sR <| a2.out) hb); have a5 := am (IsS93.below (by exact kL) hb); have a4 := kT (uA hb g none); have a9 := hX hb (by exact kJ); clear a0; clear a2; clear HI0; clear HK; clear HB; have a0 := a7; have a2 := a6; have HI0 := a5; have HK := a4; have HB := a9; clear a7 a6 a5 a4 a9; (try clear hb)) | ((with_reducible refine qF (N := 29) rfl ?_); refine Kd.R_lit k31 _ 31 ?hg (N := 29) ?hd (xs := ([(⟨1, 1, 0, 0, 0, 0⟩ : S31), (⟨20, 1, 0, 0, 1, 0⟩ : S31)] : List (S31))) (inner := [.int .i64 1, .int .i64 1, .int .i64 0, .int .i64 0, .int .i64 0, .int .i64 0, .int .i64 20, .int .i64 1, .int .i64 0, .int .i64 0, .int .i64 1, .int .i64 0]) (ok := fun _ => True) (okp := fun _ => True) ?hr ?hp (fun _ hk => hk) trivial (Below.refl _ _) (Nat.le_refl _) (by simp) ?_; (case hd => rfl); (case hg => rfl); (case hr => (go_simp; done)); (case hp => exact (zL (show Kd.M k31 _ _ _ (⟨1, 1, 0, 0, 0, 0⟩ : S31) [.int .i64 1, .int .i64 1, .int .i64 0, .int .i64 0, .int .i64 0, .int .i64 0] from (vV _ _ _ (⟨1, 1, 0, 0, 0, 0⟩ : S31) )) (zL (show Kd.M k31 _ _ _ (⟨20, 1, 0, 0, 1, 0⟩ : S31) [.int .i64 20, .int .i64 1, .int .i64 0, .int .i64 0, .int .i64 1, .int .i64 0] from (vV _ _ _ (⟨20, 1, 0, 0, 1, 0⟩ : S31) )) (Reps.none _ _)))); intro bD w35 aF hb hg_ hnew_; clear hg_ hnew_; (rw [← aS.out] at aF); have a7 := am (Kd.R_elder' (by exact sR <| a0.out) (Kd.R_base aF) hb); have a6 := am (Kd.R_elder' (by exact sR <| a2.out) (Kd.R_base aF) hb); have a5 := am (Kd.R_lower (Kd.R_new' (Kd.R_new' aF (Kd.R_lt (by exact sR <| a0.out))) (Kd.R_lt (by exact sR <| a2.out))) (a0t (w := w) (g := g) (row := none) (by exact kB))); have a4 := am (IsS93.below (by exact kL) hb); have a9 := kT (uA hb g none); have aK := hX hb (by exact kJ); clear a0; clear a2; clear HI0; clear HK; clear HB; have a0 := a7; have a2 := a6; have aW := a5; have HI0 := a4; have HK := a9; have HB := aK; clear a7 a6 a5 a4 a9 aK; clear hb aF))
 go_ret
 exact ⟨_, rfl, sR <| Kd.R_mono aW.out (fun _ hk => trivial), kL, kJ, kB⟩
def vT (k : Nat) (l0 : List Int) : Option ((List (S31))) := (xH k l0).bind fun a0 => ((uB k a0.1 a0.2.1 a0.2.2 8).bind fun a1 => (some a1.1))
theorem spec_DrawSaid.calls {k : Nat} {A0 : Option Addr} {c0 : Nat} {l0 : List Int} {r : List (S31)} {w : World} (hr0 : Kd.C (Kd.int .u8) w A0 l0.length l0) (hc0 : l0.length ≤ c0) (h : vT k l0 = some r) :
  Calls Try.prog 35 #[.slice A0 l0.length c0] w fun e w' => ∃ a2 : Value, e = .returned (a2) ∧ Kd.R k31 31 w' w.heap.size (fun _ => True) a2 r ∧ Below w.heap.size w w' := by
 have a5 := am hr0
 have a6 := am hc0
 clear hr0 hc0
 have HB := am (Below.refl w.heap.size w)
 have H := h
 clear h
 unfold vT at H
 replace H := oA H; obtain ⟨⟨aD, aC, aB⟩, A2, H⟩ := H
 try dsimp only at H
 replace H := oA H; obtain ⟨⟨aA, a9, a8⟩, A3, H⟩ := H
 try dsimp only at H
 obtain rfl := oI H
 go_enter Try.func35, Try.ntmps35
 go_wp2_with (first | ((with_reducible refine gW ?_); first | (refine gF 39 (some 5) rfl ?_; refine gT Try.func39 (spec_l01New.calls w _ (sW HB.out) a5.out a6.out A2.out) ?_; rintro a4 w4 ⟨hi, hb, hb2⟩; replace HB := am hb; have a0 := am hi; (try clear hb); (try clear hb2); (try clear hi)) | (refine gC 64 (some 7) Try.func64 #[.pointer (some ⟨a4, 0, none⟩), .int .i64 8] ?_; (with_reducible refine (spec_l02Sentence.calls w _ ?side1 ?side2 A3.out).mono ?_); (case side1 => repeat (first | (with_reducible first | exact a0.out | apply IsS93.alloc | apply IsS93.drewN | apply IsS93.drew | apply a5v | apply a5u) | exact a0.out)); (case side2 => repeat (first | (with_reducible first | exact HB.out | apply kR | apply kI | apply kV | refine kX ?_ (a2n a0.out)) | exact HB.out)); rintro e w5 ⟨a7, rfl, a3, hi, hb, hk⟩; refine ⟨_, rfl, ?_⟩; have a1 := am (Kd.R_lower a3 (kE (by repeat (first | (with_reducible first | exact HB.out | apply kR | apply kI | apply kV | refine kX ?_ (a2n a0.out)) | exact HB.out)))); replace HB := am hb; replace a0 := am hi; (try clear hb); (try clear hk); (try clear hi); (try clear a3))))
 go_ret
 exact ⟨_, rfl, sR <| a1.out, by repeat (first | (with_reducible first | exact HB.out | apply kR | apply kI | apply kV | refine kX ?_ (a2n a0.out)) | exact HB.out)⟩
def qD (a0 : Int) (a1 : Int) (a2 : Int) : Option (Bool) := if a0 ≥ a1 then (some (decide (a0 ≤ a2))) else (some false)
theorem b9m {P : Prop} (h : P := by
 clear c4
 obtain rfl := oI H
 go_enter Try.func72, Try.ntmps72
 go_wp2
 go_ret
 exact ⟨rfl, dR⟩) : P := h
theorem impl_within.calls {a0 a1 a2 : Int} {r : Bool} {w : World} (h : qD a0 a1 a2 = some r) :
  Calls Try.prog 72 #[.int .i64 a0, .int .i64 a1, .int .i64 a2] w fun e w' => e = .returned (.bool r) ∧ Drawn0 w w' := by
 have H := h
 clear h
 unfold qD at H
 by_cases c4 : a0 ≥ a1
 ·rw [if_pos c4] at H
  have a3 : decide (a1 ≤ a0) = true := decide_eq_true c4
  exact b9m
 rw [if_neg c4] at H
 have a3 : decide (a1 ≤ a0) = false := decide_eq_false c4
 exact b9m
def sH (a0 : Int) : Option (Bool) := (qD a0 1 8).bind fun a1 => (some a1)
theorem impl_isWidth.calls {a0 : Int} {r : Bool} {w : World} (h : sH a0 = some r) :
  Calls Try.prog 83 #[.int .i64 a0] w fun e w' => e = .returned (.bool r) ∧ Drawn0 w w' := by
 have H := h
 clear h
 unfold sH at H
 replace H := oA H; obtain ⟨a1, A2, H⟩ := H
 obtain rfl := oI H
 go_enter Try.func83, Try.ntmps83
 go_wp2_with (first | ((with_reducible refine gW ?_); first | (refine gD (some 4) Try.func72 rfl (impl_within.calls A2.out) fun nd => ?_)))
 go_ret
 exact ⟨rfl, dR⟩
def rI (a0 : Int) (a1 : Int) : Option (Bool) := (sH a0).bind fun a3 => (if a3 = true then (if 0 ≤ (IntKind.u64.wrap (a0)) then ((qD a1 0 (wrap64 ((shl .i64 1 (IntKind.u64.wrap (a0))) - 1))).bind fun a2 => (some a2)) else (none)) else (some false))
theorem impl_WordOk.calls (a0 a1 : Int) (r : Bool) (w : World) (h : rI a0 a1 = some r) :
  Calls Try.prog 54 #[.int .i64 a0, .int .i64 a1] w fun e w' => e = .returned (.bool r) ∧ Drawn0 w w' := by
 have H := h
 clear h
 unfold rI at H
 replace H := oA H; obtain ⟨aD, A3, H⟩ := H
 replace H := iB H; rcases H with ⟨rfl, H⟩ | ⟨rfl, H⟩
 ·generalize a7 : IntKind.u64.wrap (a0) = a2 at H
  (try rw [a7] at A3)
  replace H := iTD H; obtain ⟨aF, aE, H⟩ := H
  generalize a4 : shl .i64 1 (a2) = a3 at H
  (try rw [a4] at A3)
  have a6 : (IntKind.i64.wrap (1 * 2 ^ min (a2).toNat 64)) = a3 := a4
  have a5 : (a2) ≤ 64 → (IntKind.i64.wrap (1 * 2 ^ (a2).toNat)) = a3 := xZ a4
  have aB : (IntKind.i64.wrap (2 ^ min (a2).toNat 64)) = a3 := by have h_ := a6; rw [Int.one_mul] at h_; exact h_
  have aA : (a2) ≤ 64 → (IntKind.i64.wrap (2 ^ (a2).toNat)) = a3 := fun hle_ => by have h_ := a5 hle_; rw [Int.one_mul] at h_; exact h_
  have a8 : (wrap64 (1 * 2 ^ min (a2).toNat 64)) = a3 := (vY _).symm.trans a6
  have a9 : (a2) ≤ 64 → (wrap64 (1 * 2 ^ (a2).toNat)) = a3 := fun h_ => (vY _).symm.trans (a5 h_)
  replace H := oA H; obtain ⟨aC, A8, H⟩ := H
  obtain rfl := oI H
  go_enter Try.func54, Try.ntmps54
  go_wp2_with (first | (go_at_call 72; refine cD (impl_within.calls A8.out) fun nd => ?_) | ((with_reducible refine gW ?_); first | (refine gD (some 6) Try.func83 rfl (impl_isWidth.calls A3.out) fun nd => ?_)))
  go_ret
  exact ⟨rfl, dR⟩
 obtain rfl := oI H
 go_enter Try.func54, Try.ntmps54
 go_wp2_with (first | ((with_reducible refine gW ?_); first | (refine gD (some 6) Try.func83 rfl (impl_isWidth.calls A3.out) fun nd => ?_)))
 go_ret
 exact ⟨rfl, dR⟩
def pO (a0 : Int) (a5 : Int) (a4 : Int) (a3 : Int) (a2 : Int) (a1 : Int) : Option (Bool) := if a0 = 19 then (some true) else (some (a0 == 20))
theorem b9b {P : Prop} (h : P := by
 obtain rfl := oI H
 go_enter Try.func53, Try.ntmps53
 go_wp2_with (first | ((with_reducible refine gW ?_); first | (refine bX 1 31 #[.int .i64 a5, .int .i64 a4, .int .i64 a3, .int .i64 a2, .int .i64 a1, .int .i64 a0] ?_; intro a9 hg aD hbox hb; have a6 := am hbox; have aA := gw hg; have aB := gw hg; replace HB := hB HB hb; clear hb hbox hg; have aC := cf6 a6.out)))
 go_ret
 exact ⟨rfl, bW⟩) : P := h
theorem impl_isQuant.calls {a5 a4 a3 a2 a1 a0 : Int} (r : Bool) (w : World) (h : pO a5 a4 a3 a2 a1 a0 = some r) :
  Calls Try.prog 53 #[.agg #[.int .i64 a5, .int .i64 a4, .int .i64 a3, .int .i64 a2, .int .i64 a1, .int .i64 a0]] w fun e w' => e = .returned (.bool r) ∧ Below w.heap.size w w' := by
 have hu31 := Try.underlying31
 have HB := am (Below.refl w.heap.size w)
 have H := h
 clear h
 unfold pO at H
 replace H := iE H; rcases H with ⟨a8, a7, H⟩ | ⟨a8, a7, H⟩
 ·exact b9b
 exact b9b
def wJ : Nat → Bool → Int → Int → Int → Int → Int → Int → Option (List Int)
 | 0, _, _, _, _, _, _, _ => none
 | k + 1, x3, a2, a6, a5, a0, a1, a3 => if x3 = true then (some (([a0] : List Int))) else ((qD a2 3 16).bind fun a4 => (if a4 = true then (some (([a0, a1] : List Int))) else (if a2 = 18 then (some (([a0, a1, a3] : List Int))) else (some (([] : List Int))))))
def vX (k : Nat) (a0 : Int) (a5 : Int) (a4 : Int) (a3 : Int) (a2 : Int) (a1 : Int) : Option (List Int) := if a0 = 2 then (wJ k true a0 a5 a4 a3 a2 a1) else (if a0 = 17 then (wJ k true a0 a5 a4 a3 a2 a1) else ((pO a0 a5 a4 a3 a2 a1).bind fun a6 => (wJ k a6 a0 a5 a4 a3 a2 a1)))
theorem b8w {P : Prop} (h : P := by
 replace H := am H
 have bJ := cf6 a0.out
 go_wp2
 go_meet
 case rel => exact ⟨_, true, rfl, H, ⟨oM⟩, ⟨sB <| a0.out⟩, ⟨bW⟩⟩) : P := h
theorem impl_Parts.calls (k : Nat) (a6 a5 a4 a1 a2 a3 : Int) (r : List Int) (w : World) (h : vX k a6 a5 a4 a1 a2 a3 = some r) :
  Calls Try.prog 58 #[.agg #[.int .i64 a6, .int .i64 a5, .int .i64 a4, .int .i64 a1, .int .i64 a2, .int .i64 a3]] w fun e w' => ∃ aU : Value, e = .returned (aU) ∧ Kd.R (Kd.int .i64) 3 w' w.heap.size (fun _ => True) aU r ∧ Below w.heap.size w w' := by
 have hu31 := Try.underlying31
 have HB := am (Below.refl w.heap.size w)
 have H := h
 clear h
 unfold vX at H
 have aG := am H; clear H
 go_enter Try.func58, Try.ntmps58
 go_upto_region 1 with (first | ((with_reducible refine qF (N := 1) rfl ?_); refine wT ?hg (N := 1) ?hd (cs := #[.int .i64 a6, .int .i64 a5, .int .i64 a4, .int .i64 a1, .int .i64 a2, .int .i64 a3]) (t := 31) ?hr ?_; (case hd => rfl); (case hg => rfl); (case hr => (go_simp; done)); intro aI hg w3 hbox hb; have aY := am (rA (by exact sW HB.out) hb); have aX := am (hbox); have aW := gw hg; have aV := gw hg; clear HB; have HB := aY; have a0 := aX; have b8 := aW; have b9 := aV; clear aY aX aW aV; clear hb hbox hg))
 (try simp only [Act.put, List.setIfInBounds_toArray, List.set_cons_zero, List.set_cons_succ])
 go_cut [3] (fun v3 wc => ∃ (kq : Nat) (a7 : Bool), v3 = .bool a7 ∧ Aside0 (wJ kq a7 a6 a5 a4 a1 a2 a3 = some r) ∧ Aside0 (kq ≤ k) ∧ Aside0 (wc.heap[aI]? = some (.cells #[.int .i64 a6, .int .i64 a5, .int .i64 a4, .int .i64 a1, .int .i64 a2, .int .i64 a3] 31 (0, 0))) ∧ Aside0 (Below w.heap.size w wc))
 case first =>
  have H := aG.out
  clear aG
  replace H := iE H; rcases H with ⟨b2, b1, H⟩ | ⟨b2, b1, H⟩
  ·exact b8w
  replace H := iE H; rcases H with ⟨b0, a_, H⟩ | ⟨b0, a_, H⟩
  ·exact b8w
  replace H := oA H; obtain ⟨aZ, A8, H⟩ := H
  replace H := am H
  have b7 := cf6 a0.out
  go_wp2_with (first | (go_at_call 53; refine (impl_isQuant.calls _ _ A8.out).mono ?_; rintro e w10 ⟨rfl, hb⟩; replace a0 := gB a0 hb; replace HB := hX hb; (try clear hb)))
  go_meet
  case rel => exact ⟨_, aZ, rfl, H, ⟨oM⟩, ⟨sB <| a0.out⟩, ⟨bW⟩⟩
 clear aG
 obtain ⟨kq, a7, rfl, HA, bL, a0, HB⟩ := hcut
 cases kq with
 | zero => cases HA.out
 | succ bK =>
  obtain ⟨H⟩ := HA
  simp only [wJ] at H
  replace H := iB H; rcases H with ⟨rfl, H⟩ | ⟨rfl, H⟩
  ·generalize aF : ([a1] : List Int) = bD at H
   have aO := am aF.symm; clear aF
   obtain rfl := oI H
   have b6 := cf6 a0.out
   go_wp2_with (first | ((with_reducible refine qF (N := 18) rfl ?_); refine Kd.R_lit (Kd.int .i64) _ 3 ?hg (N := 18) ?hd (xs := ([a1] : List Int)) (inner := [.int .i64 a1]) (ok := fun _ => True) (okp := fun _ => True) ?hr ?hp (fun _ hk => hk) trivial (Below.refl _ _) (Nat.le_refl _) (by simp) ?_; (case hd => rfl); (case hg => rfl); (case hr => (go_simp; done)); (case hp => exact (Reps.one (show Kd.M (Kd.int .i64) _ _ _ a1 [.int .i64 a1] from rfl) (Reps.none _ _))); intro bH w13 aB hb hg_ hnew_; clear hg_ hnew_; (rw [← aO.out] at aB); have aT := am (Kd.R_lower aB (kE (by exact bW))); replace a0 := gB a0 hb; replace HB := hX hb; clear hb aB))
   go_ret
   exact ⟨_, rfl, sR <| aT.out, bW⟩
  replace H := oA H; obtain ⟨bI, aH, H⟩ := H
  replace H := iB H; rcases H with ⟨rfl, H⟩ | ⟨rfl, H⟩
  ·generalize aE : ([a1, a2] : List Int) = bC at H
   have aN := am aE.symm; clear aE
   obtain rfl := oI H
   have b5 := cf6 a0.out
   go_wp2_with (first | ((with_reducible refine gW ?_); first | (refine gD (some 22) Try.func72 rfl (impl_within.calls aH.out) fun nd => ?_) | ((with_reducible refine qF (N := 27) rfl ?_); refine Kd.R_lit (Kd.int .i64) _ 3 ?hg (N := 27) ?hd (xs := ([a1, a2] : List Int)) (inner := [.int .i64 a1, .int .i64 a2]) (ok := fun _ => True) (okp := fun _ => True) ?hr ?hp (fun _ hk => hk) trivial (Below.refl _ _) (Nat.le_refl _) (by simp) ?_; (case hd => rfl); (case hg => rfl); (case hr => (go_simp; done)); (case hp => exact (Reps.one (show Kd.M (Kd.int .i64) _ _ _ a1 [.int .i64 a1] from rfl) (Reps.one (show Kd.M (Kd.int .i64) _ _ _ a2 [.int .i64 a2] from rfl) (Reps.none _ _)))); intro bG w18 aA hb hg_ hnew_; clear hg_ hnew_; (rw [← aN.out] at aA); have aS := am (Kd.R_lower aA (kE (by exact bW))); replace a0 := gB a0 hb; replace HB := hX hb; clear hb aA)))
   go_ret
   exact ⟨_, rfl, sR <| aS.out, bW⟩
  replace H := iE H; rcases H with ⟨aK, aJ, H⟩ | ⟨aK, aJ, H⟩
  ·generalize aD : ([a1, a2, a3] : List Int) = bB at H
   have aM := am aD.symm; clear aD
   obtain rfl := oI H
   have b4 := cf6 a0.out
   go_wp2_with (first | ((with_reducible refine gW ?_); first | (refine gD (some 22) Try.func72 rfl (impl_within.calls aH.out) fun nd => ?_) | ((with_reducible refine qF (N := 38) rfl ?_); refine Kd.R_lit (Kd.int .i64) _ 3 ?hg (N := 38) ?hd (xs := ([a1, a2, a3] : List Int)) (inner := [.int .i64 a1, .int .i64 a2, .int .i64 a3]) (ok := fun _ => True) (okp := fun _ => True) ?hr ?hp (fun _ hk => hk) trivial (Below.refl _ _) (Nat.le_refl _) (by simp) ?_; (case hd => rfl); (case hg => rfl); (case hr => (go_simp; done)); (case hp => exact (Reps.one (show Kd.M (Kd.int .i64) _ _ _ a1 [.int .i64 a1] from rfl) (Reps.one (show Kd.M (Kd.int .i64) _ _ _ a2 [.int .i64 a2] from rfl) (Reps.one (show Kd.M (Kd.int .i64) _ _ _ a3 [.int .i64 a3] from rfl) (Reps.none _ _))))); intro bF w22 a9 hb hg_ hnew_; clear hg_ hnew_; (rw [← aM.out] at a9); have aR := am (Kd.R_lower a9 (kE (by exact bW))); replace a0 := gB a0 hb; replace HB := hX hb; clear hb a9)))
   go_ret
   exact ⟨_, rfl, sR <| aR.out, bW⟩
  generalize aC : ([] : List Int) = bA at H
  have aL := am aC.symm; clear aC
  obtain rfl := oI H
  have b3 := cf6 a0.out
  go_wp2_with (first | ((with_reducible refine gW ?_); first | (refine gD (some 22) Try.func72 rfl (impl_within.calls aH.out) fun nd => ?_) | (refine lE (Kd.int .i64) 3 39 ?_; intro bE w25 a8 hb; (rw [← aL.out] at a8); have aQ := am (Kd.R_lower a8 (kE (by exact bW))); replace a0 := gB a0 hb; replace HB := hX hb; clear hb a8)))
  go_ret
  exact ⟨_, rfl, sR <| aQ.out, bW⟩
def yF (a0 : Int) : Option (Bool) := some true
theorem impl_reached_1.calls (a0 : Int) (r : Bool) (w : World) (h : yF a0 = some r) :
  Calls Try.prog 112 #[.int .i64 a0] w fun e w' => e = .returned (.bool r) ∧ Below w.heap.size w w' := by
 obtain rfl := oI h
 go_enter Try.func112, Try.ntmps112
 go_wp2
 go_ret
 exact ⟨rfl, by exact Below.refl _ _⟩
end Go.Proofs.Ytkpipmojkhikaaa.PAll
