/- Written by a program of this session over the loaded program, and by hand: Go functions as plain Lean functions, and that a call comes to what they say. -/
import Derived.Test.YtkpipmojkhikaaaVText0
import Derived.Test.YtkpipmojkhikaaaVText10
import Derived.Test.YtkpipmojkhikaaaVText11
import Derived.Test.YtkpipmojkhikaaaBase
import Derived.Test.YtkpipmojkhikaaaSq
namespace Go.Proofs.Ytkpipmojkhikaaa.PAll
open Go.RowKit Go.Proofs.YtkpipmojkhikaaaW.PrintWords Go.Proofs.YtkpipmojkhikaaaW.PrintLast Go.Proofs.YtkpipmojkhikaaaW.PrintMore Go.Proofs.YtkpipmojkhikaaaW.Sq
attribute [local go_sem] sD rZ uM uL qV qU sA rY
set_option linter.unusedVariables false
set_option maxHeartbeats 8000000
set_option maxRecDepth 100000
set_option linter.unusedSimpArgs false
section
attribute [local go_sem high] c0e
@[reducible] def c9t : Array Bool := #[false, false, false, false, false, false, false, false]
@[reducible] def c9r : Array Bool := #[true, false, false, false, false, false, false, false]
@[reducible] def c9p : Array Bool := #[true, false, true, false, false, false, false, false]
@[reducible] def c9n : Array Bool := #[true, true, true, false, false, false, false, false]
@[reducible] def c9l : Array Bool := #[true, true, true, false, true, false, false, false]
@[reducible] def c9j : Array Bool := #[true, true, true, true, true, false, false, false]
@[reducible] def c9h : Array Bool := #[true, true, true, true, true, true, false, false]
@[reducible] def c9f : Array Bool := #[true, true, true, true, true, true, true, false]
@[reducible] def c9d : Array Bool := #[true, true, true, true, true, true, true, true]
@[reducible] def c9b : Array Bool := #[false, false, false, false, false, false, false, false, false, false, false, false]
@[reducible] def c4y : Array Bool := #[true, false, false, false, false, false, false, false, false, false, false, false]
@[reducible] def c4w : Array Bool := #[true, false, true, false, false, false, false, false, false, false, false, false]
@[reducible] def c4u : Array Bool := #[true, false, true, false, true, false, false, false, false, false, false, false]
@[reducible] def c4s : Array Bool := #[true, true, true, false, true, false, false, false, false, false, false, false]
@[reducible] def c4r : Array Bool := #[true, true, true, false, true, false, true, false, false, false, false, false]
@[reducible] def c4q : Array Bool := #[true, true, true, true, true, false, true, false, false, false, false, false]
@[reducible] def c4p : Array Bool := #[true, true, true, true, true, true, true, false, false, false, false, false]
@[reducible] def c4o : Array Bool := #[true, true, true, true, true, true, true, true, false, false, false, false]
@[reducible] def c4n : Array Bool := #[true, true, true, true, true, true, true, true, true, false, false, false]
@[reducible] def c4m : Array Bool := #[true, true, true, true, true, true, true, true, true, true, false, false]
@[reducible] def c4l : Array Bool := #[true, true, true, true, true, true, true, true, true, true, true, false]
@[reducible] def c4k : Array Bool := #[true, true, true, true, true, true, true, true, true, true, true, true]
def vT : Nat → Int → Bool → Int → Int → Int → Int → Int → Int → Int → Int → Int → Int → Int → Int → Option (Bool)
 | 0, _, _, _, _, _, _, _, _, _, _, _, _, _, _ => none
 | k + 1, x4, aD, a0, a1, a7, aA, a6, a4, a3, a2, a9, aB, a8, a5 => if aD = true then (some (a0 == a3 && (a1 == a2 && (aA == aB && (a6 == a8 && (a4 == a5)))))) else (if a0 = 17 then (some (a0 == a3 && (a1 == a2 && (a6 == a8 && (a4 == a5))))) else ((rG a0 a1 a7 aA a6 a4).bind fun aC => (if aC = true then (some (a0 == a3 && (a1 == a2 && (a4 == a5)))) else (if x4 > 0 then (if x4 > 1 then (if x4 > 2 then (some (a0 == a3 && (a1 == a2 && (a7 == a9)))) else (some (a0 == a3 && (a1 == a2 && (a7 == a9 && (a4 == a5)))))) else (if x4 > 2 then (some (a0 == a3 && (a1 == a2 && (a7 == a9 && (a6 == a8))))) else (some (a0 == a3 && (a1 == a2 && (a7 == a9 && (a6 == a8 && (a4 == a5)))))))) else (some (a0 == a3 && (a1 == a2 && (a7 == a9 && (aA == aB && (a6 == a8 && (a4 == a5)))))))))))
def xS (k : Nat) (a0 : Int) (a1 : Int) (a5 : Int) (a4 : Int) (a3 : Int) (a2 : Int) : Option (Bool) := (wG k a0 a1 a5 a4 a3 a2).bind fun a6 => (if a0 = 0 then (vT k (a6.length : Int) true a0 a1 a5 a4 a3 a2 a0 a1 0 0 0 0) else (vT k (a6.length : Int) (a0 == 1) a0 a1 a5 a4 a3 a2 a0 a1 0 0 0 0))
def a0l : Bool × List (List Nat × List Nat) := (true, [([], []), ([0], [0]), ([], []), ([2], [2]), ([0, 1], []), ([4, 1, 0, 1], [1, 4]), ([0, 1, 2, 3, 4, 5], []), ([6, 3, 5, 0, 1, 2, 3, 4, 5], [3, 6])])
def a3z : List Nat := [0, 1, 0, 4, 3, 19, 63, 127]
theorem a2s : a0r .any (a1u Try.f109 6) = a0l := by kernel_rfl
theorem a1x : vL a0l.2 a3z = true := by kernel_rfl
def a0k : Bool × List (List Nat × List Nat) := (true, [([], []), ([0], [0]), ([], []), ([2], [2]), ([], []), ([4], [4]), ([0, 1], []), ([6, 1, 0, 1], [1, 6]), ([0, 1, 2, 3, 6, 7], []), ([8, 3, 7, 0, 1, 2, 3, 6, 7], [3, 8]), ([0, 1, 2, 3, 4, 5, 6, 7, 8, 9], []), ([10, 5, 9, 0, 1, 2, 3, 4, 5, 6, 7, 8, 9], [5, 10])])
def a3y : List Nat := [0, 1, 0, 4, 0, 16, 3, 67, 207, 463, 1023, 2047]
theorem a2r : a0r .any (a1u Try.f109 8) = a0k := by kernel_rfl
theorem a1w : vL a0k.2 a3y = true := by kernel_rfl
theorem a9h {P : Prop} (h : P := by
 have bG := cf6 a1.out
 go_wp2_with (first | ((with_reducible refine gW ?_); first | (refine gF 53 (some 37) rfl ?_; refine gS Try.func53 (impl_isQuant.calls _ _ b7.out) ?_; rintro bF hb; replace a1 := gB a1 hb; replace a3 := gB a3 hb; replace HB := hX hb; (try clear hb); have bR := cf6 a1.out; have bQ := cf6 a3.out)))
 go_ret
 exact ⟨rfl, bW⟩) : P := h
theorem c2a {P : Prop} (h : P := by
 refine a3w (w1 := ?_) (by rfl) rfl ?_ ?_
 rotate_left
 ·go_simp
  rfl
 refine hK.out _ _ ⟨((rM (p := ⟨a2, _, none⟩) a0.out _).trans (hHeld.1)), ((rM (p := ⟨a2, _, none⟩) a0.out _).trans (hHeld.2.1)), ((rM (p := ⟨a2, _, none⟩) a0.out _).trans (hHeld.2.2.1)), ((rM (p := ⟨a2, _, none⟩) a0.out _).trans (hHeld.2.2.2.1)), ((rM (p := ⟨a2, _, none⟩) a0.out _).trans (hHeld.2.2.2.2.1)), ((rM (p := ⟨a2, _, none⟩) a0.out _).trans (hHeld.2.2.2.2.2))⟩ (fun hHeld => ?_)
 clear hK K
 refine yK (yP HT_.out (by kernel_rfl)) ?_
 have bG := cf6 a1.out
 have bF := cf6 a3.out
 try go_wp2
 go_ret
 exact ⟨by (simp [b8b, b8a] <;> rfl), bW⟩) : P := h
theorem a9e {P : Prop} (h : P := by
 simp only [Act.put, List.setIfInBounds_toArray, List.set_cons_zero, List.set_cons_succ, xW, a1l]
 rfl) : P := h
theorem impl_usesOnly.calls (k : Nat) (a7 a8 aC aB aA a9 : Int) (r : Bool) (w : World) (h : xS k a7 a8 aC aB aA a9 = some r) :
  Calls Try.prog 109 #[.agg #[.int .i64 a7, .int .i64 a8, .int .i64 aC, .int .i64 aB, .int .i64 aA, .int .i64 a9]] w fun e w' => e = .returned (.bool r) ∧ Below w.heap.size w w' := by
 have hu31 := Try.underlying31
 have HB := am (Below.refl w.heap.size w)
 have H := h
 clear h
 unfold xS at H
 replace H := oA H; obtain ⟨a6, A2, H⟩ := H
 have aQ := am H; clear H
 go_enter Try.func109, Try.ntmps109
 go_upto_region 3 with (first | ((with_reducible refine gW ?_); first | ((with_reducible refine qC (N := 1) rfl ?_); refine xD ?hg (N := 1) ?hd (cs := #[.int .i64 a7, .int .i64 a8, .int .i64 aC, .int .i64 aB, .int .i64 aA, .int .i64 a9]) (t := 31) ?hr ?_; (case hd => rfl); (case hg => rfl); (case hr => first | (go_simp; done) | (go_simp; rfl)); intro a5 hg w4 hbox hb; have aG := am (zW (by exact sW HB.out) hb); have aF := am (hbox); have aE := gw hg; have aD := gw hg; clear HB; have HB := aG; have a1 := aF; have bJ := aE; have bL := aD; clear aG aF aE aD; clear hb hbox hg; have aO := cf6 a1.out) | ((with_reducible refine qC (N := 3) rfl ?_); refine xD ?hg (N := 3) ?hd (cs := #[.int .i64 0, .int .i64 0, .int .i64 0, .int .i64 0, .int .i64 0, .int .i64 0]) (t := 31) ?hr ?_; (case hd => rfl); (case hg => rfl); (case hr => first | (go_simp; done) | (go_simp; rfl)); intro a2 hg w6 hbox hb; have aG := am (kI (g := a5) (o := .cells #[.int .i64 a7, .int .i64 a8, .int .i64 aC, .int .i64 aB, .int .i64 aA, .int .i64 a9] 31 (0, 0)) (by exact sB <| a1.out) hb); have aF := hX hb; have aE := am (hbox); have aD := gw hg; have b5 := gw hg; have b4 := am ((by rw [hg]; exact Nat.ne_of_lt (sO (g := a5) (o := .cells #[.int .i64 a7, .int .i64 a8, .int .i64 aC, .int .i64 aB, .int .i64 aA, .int .i64 a9] 31 (0, 0)) (by exact sB <| a1.out)) : a5 ≠ a2)); have b3 := am ((by rw [hg]; exact Nat.ne_of_gt (sO (g := a5) (o := .cells #[.int .i64 a7, .int .i64 a8, .int .i64 aC, .int .i64 aB, .int .i64 aA, .int .i64 a9] 31 (0, 0)) (by exact sB <| a1.out)) : a2 ≠ a5)); clear a1; clear HB; have a1 := aG; have HB := aF; have a3 := aE; have bI := aD; have bK := b5; have a0 := b4; have a4 := b3; clear aG aF aE aD b5 b4 b3; clear hb hbox hg; have hnb7 := a4.out; have hnc7 := a0.out; have aN := cf6 a3.out; have aM := cf6 a1.out) | (refine gF 58 (some 11) rfl ?_; refine gT Try.func58 (impl_Parts.calls _ _ _ _ _ _ _ _ _ A2.out) ?_; rintro bM w10 ⟨b6, hb⟩; have aG := am (Kd.R_lower b6 (kJ (by exact bW))); have aF := am (kI (g := a5) (o := .cells #[.int .i64 a7, .int .i64 a8, .int .i64 aC, .int .i64 aB, .int .i64 aA, .int .i64 a9] 31 (0, 0)) (by (with_reducible repeat (first | refine sG ?_ _ | refine pO ?_ | refine sS ?_ _)); refine xH ?_ a0.out _; (with_reducible repeat (first | refine sG ?_ _ | refine pO ?_ | refine sS ?_ _)); refine xH ?_ a0.out _; (with_reducible repeat (first | refine sG ?_ _ | refine pO ?_ | refine sS ?_ _)); refine xH ?_ a0.out _; (with_reducible repeat (first | refine sG ?_ _ | refine pO ?_ | refine sS ?_ _)); refine xH ?_ a0.out _; (with_reducible repeat (first | refine sG ?_ _ | refine pO ?_ | refine sS ?_ _)); refine xH ?_ a0.out _; (with_reducible repeat (first | refine sG ?_ _ | refine pO ?_ | refine sS ?_ _)); refine xH ?_ a0.out _; exact sB <| a1.out) hb); have aE := am (kI (by exact sB <| pn (by exact sB <| a3.out)) hb); have aD := hX hb; clear a1; clear a3; clear HB; have b2 := aG; have a1 := aF; have a3 := aE; have HB := aD; clear aG aF aE aD; obtain ⟨bP, bO, rfl⟩ := Kd.R_slice b2.out))); clear hb b6
 (try simp only [Act.put, List.setIfInBounds_toArray, List.set_cons_zero, List.set_cons_succ])
 go_cut [13] (fun bH wc => ∃ (kq : Nat) (aL : Bool), bH = .bool aL ∧ Aside0 (vT kq (a6.length : Int) aL a7 a8 aC aB aA a9 a7 a8 0 0 0 0 = some r) ∧ Aside0 (kq ≤ k) ∧ Aside0 (wc.heap[a5]? = some (.cells #[.int .i64 a7, .int .i64 a8, .int .i64 aC, .int .i64 aB, .int .i64 aA, .int .i64 a9] 31 (0, 0))) ∧ Aside0 (wc.heap[a2]? = some (.cells #[.int .i64 a7, .int .i64 a8, .int .i64 0, .int .i64 0, .int .i64 0, .int .i64 0] 31 (0, 0))) ∧ Aside0 (Below w.heap.size w wc))
 case first =>
  have H := aQ.out
  clear aQ
  replace H := iE H; rcases H with ⟨b1, b0, H⟩ | ⟨b1, b0, H⟩
  ·replace H := am H
   have hnb13 := a0.out
   have hnc13 := a4.out
   have bE := cf6 a1.out
   go_wp2
   go_meet
   case rel => exact ⟨_, true, rfl, H, ⟨oM⟩, ⟨sB <| a1.out⟩, ⟨sB <| a3.out⟩, ⟨bW⟩⟩
  replace H := am H
  have hnb15 := a0.out
  have hnc15 := a4.out
  have bD := cf6 a1.out
  go_wp2
  go_meet
  case rel => exact ⟨_, ((a7 == 1)), rfl, H, ⟨oM⟩, ⟨sB <| a1.out⟩, ⟨sB <| a3.out⟩, ⟨bW⟩⟩
 clear aQ
 clear aO aN aM
 obtain ⟨kq, aL, rfl, HA, bT, a1, a3, HB⟩ := hcut
 cases kq with
 | zero => cases HA.out
 | succ bS =>
  obtain ⟨H⟩ := HA
  simp only [vT] at H
  replace H := iB H; rcases H with ⟨rfl, H⟩ | ⟨rfl, H⟩
  ·obtain rfl := oI H
   have hnb18 := a0.out
   have hnc18 := a4.out
   have bC := cf6 a1.out
   have bB := cf6 a3.out
   go_wp2
   go_ret
   exact ⟨rfl, bW⟩
  replace H := iE H; rcases H with ⟨a_, aZ, H⟩ | ⟨a_, aZ, H⟩
  ·obtain rfl := oI H
   have hnb22 := a0.out
   have hnc22 := a4.out
   have bA := cf6 a1.out
   try go_wp2
   replace a1 := am (pO a1.out)
   replace a3 := am (pO a3.out)
   replace HB := am (kO HB.out)
   refine tM (n := 8) (S := fun w' => w'.cell? ⟨a5, 0, none⟩ = some (.int .i64 a7) ∧ w'.cell? ⟨a5, 1, none⟩ = some (.int .i64 a8) ∧ w'.cell? ⟨a5, 2, none⟩ = some (.int .i64 aC) ∧ w'.cell? ⟨a5, 3, none⟩ = some (.int .i64 aB) ∧ w'.cell? ⟨a5, 4, none⟩ = some (.int .i64 aA) ∧ w'.cell? ⟨a5, 5, none⟩ = some (.int .i64 a9)) (ds := []) c9t (by kernel_rfl) rfl rfl (cz6 a1.out) (fun hHeld => ?_); refine rV a2s a1x (fun HT_ HW_ => ?_)
   generalize wc.drew = w24 at a1 a3 HB hHeld ⊢
   refine pT (i := 0) (N := some 29) c9r ?_
   refine pT (i := 2) (N := some 31) c9p ?_
   refine qF (i := 1) (N := some 30) (v := ?_) (a' := ?_) c9n rfl rfl (pE HT_.out HW_.out (by kernel_rfl)) (fun _ _ _ h => h) (Or.inl ⟨by rfl, ?_⟩) hHeld ?_ ?_
   rotate_left
   ·rintro w' ⟨s0, s1, s2, s3, s4, s5⟩
    go_simp
    with_reducible rfl
   rotate_left
   ·exact a9e
   refine pT (i := 4) (N := some 33) c9l ?_
   refine qF (i := 3) (N := some 32) (v := ?_) (a' := ?_) c9j rfl rfl (pE HT_.out HW_.out (by kernel_rfl)) (fun _ _ _ h => h) (Or.inl ⟨by rfl, ?_⟩) hHeld ?_ ?_
   rotate_left
   ·rintro w' ⟨s0, s1, s2, s3, s4, s5⟩
    go_simp
    with_reducible rfl
   rotate_left
   ·exact a9e
   refine yN (i := 5) (N := none) c9h rfl rfl (uW HT_.out (by kernel_rfl)) (by decide) (fun K hK => ?_)
   have hs25 : w24.cell? ⟨a2, 2, none⟩ = some (.int .i64 0) := (kG a3.out 2).trans rfl
   have hfs25 := kE a3.out 2
   have hns25_0 := a0.out
   have hms25_0 := a4.out
   refine a3w (w1 := ?_) (by rfl) rfl ?_ ?_
   rotate_left
   ·go_simp
    rfl
   refine hK.out _ _ ⟨((rM (p := ⟨a2, _, none⟩) a0.out _).trans (hHeld.1)), ((rM (p := ⟨a2, _, none⟩) a0.out _).trans (hHeld.2.1)), ((rM (p := ⟨a2, _, none⟩) a0.out _).trans (hHeld.2.2.1)), ((rM (p := ⟨a2, _, none⟩) a0.out _).trans (hHeld.2.2.2.1)), ((rM (p := ⟨a2, _, none⟩) a0.out _).trans (hHeld.2.2.2.2.1)), ((rM (p := ⟨a2, _, none⟩) a0.out _).trans (hHeld.2.2.2.2.2))⟩ (fun hHeld => ?_)
   clear hK K
   refine pT (i := 6) (N := some 34) c9f ?_
   refine yN (i := 7) (N := none) c9d rfl rfl (uW HT_.out (by kernel_rfl)) (by decide) (fun K hK => ?_)
   have hs26 : w24.cell? ⟨a2, 3, none⟩ = some (.int .i64 0) := (kG a3.out 3).trans rfl
   have hfs26 := kE a3.out 3
   have hns26_0 := a0.out
   have hms26_0 := a4.out
   exact c2a
  replace H := oA H; obtain ⟨bN, b7, H⟩ := H
  replace H := iB H; rcases H with ⟨rfl, H⟩ | ⟨rfl, H⟩
  ·obtain rfl := oI H
   have hnb31 := a0.out
   have hnc31 := a4.out
   have b9 := cf6 a1.out
   try go_wp2_with (first | ((with_reducible refine gW ?_); first | (refine gF 53 (some 37) rfl ?_; refine gS Try.func53 (impl_isQuant.calls _ _ b7.out) ?_; rintro w33 hb; replace a1 := gB a1 hb; replace a3 := gB a3 hb; replace HB := hX hb; (try clear hb))))
   replace a1 := am (pO a1.out)
   replace a3 := am (pO a3.out)
   replace HB := am (kO HB.out)
   refine tM (n := 12) (S := fun w' => w'.cell? ⟨a5, 0, none⟩ = some (.int .i64 a7) ∧ w'.cell? ⟨a5, 1, none⟩ = some (.int .i64 a8) ∧ w'.cell? ⟨a5, 2, none⟩ = some (.int .i64 aC) ∧ w'.cell? ⟨a5, 3, none⟩ = some (.int .i64 aB) ∧ w'.cell? ⟨a5, 4, none⟩ = some (.int .i64 aA) ∧ w'.cell? ⟨a5, 5, none⟩ = some (.int .i64 a9)) (ds := []) c9b (by kernel_rfl) rfl rfl (cz6 a1.out) (fun hHeld => ?_); refine rV a2r a1w (fun HT_ HW_ => ?_)
   generalize w33.drew = w34 at a1 a3 HB hHeld ⊢
   refine pT (i := 0) (N := some 38) c4y ?_
   refine pT (i := 2) (N := some 40) c4w ?_
   refine pT (i := 4) (N := some 42) c4u ?_
   refine qF (i := 1) (N := some 39) (v := ?_) (a' := ?_) c4s rfl rfl (pE HT_.out HW_.out (by kernel_rfl)) (fun _ _ _ h => h) (Or.inl ⟨by rfl, ?_⟩) hHeld ?_ ?_
   rotate_left
   ·rintro w' ⟨s0, s1, s2, s3, s4, s5⟩
    go_simp
    with_reducible rfl
   rotate_left
   ·exact a9e
   refine pT (i := 6) (N := some 44) c4r ?_
   refine qF (i := 3) (N := some 41) (v := ?_) (a' := ?_) c4q rfl rfl (pE HT_.out HW_.out (by kernel_rfl)) (fun _ _ _ h => h) (Or.inl ⟨by rfl, ?_⟩) hHeld ?_ ?_
   rotate_left
   ·rintro w' ⟨s0, s1, s2, s3, s4, s5⟩
    go_simp
    with_reducible rfl
   rotate_left
   ·exact a9e
   refine qF (i := 5) (N := some 43) (v := ?_) (a' := ?_) c4p rfl rfl (pE HT_.out HW_.out (by kernel_rfl)) (fun _ _ _ h => h) (Or.inl ⟨by rfl, ?_⟩) hHeld ?_ ?_
   rotate_left
   ·rintro w' ⟨s0, s1, s2, s3, s4, s5⟩
    go_simp
    with_reducible rfl
   rotate_left
   ·exact a9e
   refine yN (i := 7) (N := none) c4o rfl rfl (uW HT_.out (by kernel_rfl)) (by decide) (fun K hK => ?_)
   have hs35 : w34.cell? ⟨a2, 2, none⟩ = some (.int .i64 0) := (kG a3.out 2).trans rfl
   have hfs35 := kE a3.out 2
   have hns35_0 := a0.out
   have hms35_0 := a4.out
   refine a3w (w1 := ?_) (by rfl) rfl ?_ ?_
   rotate_left
   ·go_simp
    rfl
   refine hK.out _ _ ⟨((rM (p := ⟨a2, _, none⟩) a0.out _).trans (hHeld.1)), ((rM (p := ⟨a2, _, none⟩) a0.out _).trans (hHeld.2.1)), ((rM (p := ⟨a2, _, none⟩) a0.out _).trans (hHeld.2.2.1)), ((rM (p := ⟨a2, _, none⟩) a0.out _).trans (hHeld.2.2.2.1)), ((rM (p := ⟨a2, _, none⟩) a0.out _).trans (hHeld.2.2.2.2.1)), ((rM (p := ⟨a2, _, none⟩) a0.out _).trans (hHeld.2.2.2.2.2))⟩ (fun hHeld => ?_)
   clear hK K
   refine pT (i := 8) (N := some 45) c4n ?_
   refine yN (i := 9) (N := none) c4m rfl rfl (uW HT_.out (by kernel_rfl)) (by decide) (fun K hK => ?_)
   have hs36 : w34.cell? ⟨a2, 3, none⟩ = some (.int .i64 0) := (kG a3.out 3).trans rfl
   have hfs36 := kE a3.out 3
   have hns36_0 := a0.out
   have hms36_0 := a4.out
   refine a3w (w1 := ?_) (by rfl) rfl ?_ ?_
   rotate_left
   ·go_simp
    rfl
   refine hK.out _ _ ⟨((rM (p := ⟨a2, _, none⟩) a0.out _).trans (hHeld.1)), ((rM (p := ⟨a2, _, none⟩) a0.out _).trans (hHeld.2.1)), ((rM (p := ⟨a2, _, none⟩) a0.out _).trans (hHeld.2.2.1)), ((rM (p := ⟨a2, _, none⟩) a0.out _).trans (hHeld.2.2.2.1)), ((rM (p := ⟨a2, _, none⟩) a0.out _).trans (hHeld.2.2.2.2.1)), ((rM (p := ⟨a2, _, none⟩) a0.out _).trans (hHeld.2.2.2.2.2))⟩ (fun hHeld => ?_)
   clear hK K
   refine pT (i := 10) (N := some 46) c4l ?_
   refine yN (i := 11) (N := none) c4k rfl rfl (uW HT_.out (by kernel_rfl)) (by decide) (fun K hK => ?_)
   have hs37 : w34.cell? ⟨a2, 4, none⟩ = some (.int .i64 0) := (kG a3.out 4).trans rfl
   have hfs37 := kE a3.out 4
   have hns37_0 := a0.out
   have hms37_0 := a4.out
   exact c2a
  by_cases aK : (a6.length : Int) > 0
  rotate_left
  ·rw [if_neg aK] at H
   have aY : decide (0 < (a6.length : Int)) = false := decide_eq_false aK
   have aX : decide (0 < a6.length) = false := decide_eq_false oM
   have b8 : ¬ 0 < a6.length := by omega
   clear aK
   obtain rfl := oI H
   have hnb64 := a0.out
   have hnc64 := a4.out
   exact a9h
  rw [if_pos aK] at H
  have aY : decide (0 < (a6.length : Int)) = true := decide_eq_true aK
  have aX : decide (0 < a6.length) = true := decide_eq_true oM
  have b8 : 0 < a6.length := by omega
  clear aK
  by_cases aJ : (a6.length : Int) > 1
  ·rw [if_pos aJ] at H
   have aW : decide (1 < (a6.length : Int)) = true := decide_eq_true aJ
   have aV : decide (1 < a6.length) = true := decide_eq_true oM
   clear aJ
   by_cases aI : (a6.length : Int) > 2
   ·rw [if_pos aI] at H
    have aU : decide (2 < (a6.length : Int)) = true := decide_eq_true aI
    have aT : decide (2 < a6.length) = true := decide_eq_true oM
    clear aI
    obtain rfl := oI H
    have hnb43 := a0.out
    have hnc43 := a4.out
    exact a9h
   rw [if_neg aI] at H
   have aU : decide (2 < (a6.length : Int)) = false := decide_eq_false aI
   have aT : decide (2 < a6.length) = false := decide_eq_false oM
   clear aI
   obtain rfl := oI H
   have hnb48 := a0.out
   have hnc48 := a4.out
   exact a9h
  rw [if_neg aJ] at H
  have aW : decide (1 < (a6.length : Int)) = false := decide_eq_false aJ
  have aV : decide (1 < a6.length) = false := decide_eq_false oM
  clear aJ
  by_cases aH : (a6.length : Int) > 2
  ·rw [if_pos aH] at H
   have aS : decide (2 < (a6.length : Int)) = true := decide_eq_true aH
   have aR : decide (2 < a6.length) = true := decide_eq_true oM
   clear aH
   obtain rfl := oI H
   have hnb54 := a0.out
   have hnc54 := a4.out
   exact a9h
  rw [if_neg aH] at H
  have aS : decide (2 < (a6.length : Int)) = false := decide_eq_false aH
  have aR : decide (2 < a6.length) = false := decide_eq_false oM
  clear aH
  obtain rfl := oI H
  have hnb59 := a0.out
  have hnc59 := a4.out
  exact a9h
end
def zH (a0 : Int) : Option (Bool) := (qN a0 0 7).bind fun a1 => (some a1)
theorem impl_isVar.calls {a0 : Int} {r : Bool} {w : World} (h : zH a0 = some r) :
  Calls Try.prog 110 #[.int .i64 a0] w fun e w' => e = .returned (.bool r) ∧ Drawn0 w w' := by
 have H := h
 clear h
 unfold zH at H
 replace H := oA H; obtain ⟨a1, A2, H⟩ := H
 obtain rfl := oI H
 go_enter Try.func110, Try.ntmps110
 go_wp2_with (first | ((with_reducible refine gW ?_); first | (refine gD (some 4) Try.func72 rfl (impl_within.calls A2.out) fun nd => ?_)))
 go_ret
 exact ⟨rfl, dR⟩
def inB (x a b : Int) : Bool := decide (a ≤ x ∧ x ≤ b)
theorem vY (x a b : Int) : qN x a b = some (inB x a b) := by
 unfold qN inB
 by_cases h : x ≥ a
 ·rw [if_pos h]; simp [h]
 ·rw [if_neg h]; simp [h]
theorem yU (x : Int) : wW x = some (inB x 1 8) := by
 unfold wW; rw [vY]; rfl
theorem b2p (x : Int) : zH x = some (inB x 0 7) := by
 unfold zH; rw [vY]; rfl
open Go.Proofs.Ytkpipmojkhikaaa.Base in
theorem xO (w a : Int) : yT w a = some (wok w a) := by
 unfold yT wok
 rw [yU]; simp only [Option.bind_some]
 by_cases h : 1 ≤ w ∧ w ≤ 8
 ·have hp := b3d (by omega : 0 ≤ w) h.2
  rw [if_pos (by simp [inB, h]), if_pos (b3g w), b6g oM oM, c5j oM h.2, vY, oY oM oM]
  simp [inB, h]
 ·rw [if_neg (by simp [inB]; omega)]; simp; omega
def kV (op a b c : Int) : List Int := if op = 2 ∨ op = 17 ∨ op = 19 ∨ op = 20 then [a] else if 3 ≤ op ∧ op ≤ 16 then [a, b] else if op = 18 then [a, b, c] else []
theorem uD (op a b c : Int) : (kV op a b c).length ≤ 3 := by
 unfold kV; split <;> (try split) <;> (try split) <;> simp
theorem a9z (op w q a b c : Int) {k : Nat} (hk : 1 ≤ k) : wG k op w q a b c = some (kV op a b c) := by
 obtain ⟨k, rfl⟩ : ∃ m, k = m + 1 := ⟨k - 1, oM⟩
 unfold wG kV rG
 simp only [wP, vY, inB]
 by_cases h2 : op = 2
 ·subst h2; simp
 ·by_cases a3 : op = 17
  ·subst a3; simp
  ·by_cases a2 : op = 19
   ·subst a2; simp
   ·by_cases a1 : op = 20
    ·subst a1; simp
    ·have hq : ¬ (op = 2 ∨ op = 17 ∨ op = 19 ∨ op = 20) := by omega
     rw [if_neg h2, if_neg a3, if_neg a2, if_neg hq]
     simp only [Option.bind_some, decide_eq_true_eq]
     rw [if_neg (by simpa using a1)]
     by_cases h3 : 3 ≤ op ∧ op ≤ 16
     ·rw [if_pos h3, if_pos h3]
     ·rw [if_neg h3, if_neg h3]
      by_cases a0 : op = 18
      ·rw [if_pos a0, if_pos a0]
      ·rw [if_neg a0, if_neg a0]
def xM (op K A B C : Int) : Bool :=
 if op = 0 ∨ op = 1 then A == 0 && B == 0 && C == 0 else if op = 17 then B == 0 && C == 0 else if op = 19 ∨ op = 20 then C == 0
 else if op = 2 then K == 0 && B == 0 && C == 0 else if 3 ≤ op ∧ op ≤ 16 then K == 0 && C == 0 else if op = 18 then K == 0 else K == 0 && A == 0 && B == 0 && C == 0
theorem c9z (op W K A B C : Int) {k : Nat} (hk : 3 ≤ k) : xS k op W K A B C = some (xM op K A B C) := by
 obtain ⟨k, rfl⟩ : ∃ m, k = m + 1 := ⟨k - 1, oM⟩
 unfold xS xM
 rw [a9z op W K A B C oM]
 simp only [Option.bind_some, vT]
 unfold rG kV
 by_cases h0 : op = 0
 ·subst h0; simp [Bool.and_assoc]
 by_cases h1 : op = 1
 ·subst h1; simp [Bool.and_assoc]
 by_cases a2 : op = 17
 ·subst a2; simp
 by_cases a1 : op = 19
 ·subst a1; simp
 by_cases a0 : op = 20
 ·subst a0; simp
 by_cases h2 : op = 2
 ·subst h2; simp [Bool.and_assoc]
 by_cases h3 : 3 ≤ op ∧ op ≤ 16
 ·have e : ¬ (op = 2 ∨ op = 17 ∨ op = 19 ∨ op = 20) := by omega
  simp [h0, h1, a2, a1, a0, h2, h3]
 by_cases a3 : op = 18
 ·subst a3; simp
 ·simp [h0, h1, a2, a1, a0, h2, h3, a3, Bool.and_assoc]
theorem d2e {w : World} {g T : Nat} {a b c d e f : Int} (h : w.heap[g]? = some (.cells #[.int .i64 a, .int .i64 b, .int .i64 c, .int .i64 d, .int .i64 e, .int .i64 f] T (0, 0))) :
  w.cell? ⟨g, 0, none⟩ = some (.int .i64 a) ∧ w.cell? ⟨g, 1, none⟩ = some (.int .i64 b) ∧ w.cell? ⟨g, 2, none⟩ = some (.int .i64 c) ∧ w.cell? ⟨g, 3, none⟩ = some (.int .i64 d) ∧ w.cell? ⟨g, 4, none⟩ = some (.int .i64 e) ∧ w.cell? ⟨g, 5, none⟩ = some (.int .i64 f) :=
 ⟨(kG h 0).trans rfl, (kG h 1).trans rfl, (kG h 2).trans rfl, (kG h 3).trans rfl, (kG h 4).trans rfl, (kG h 5).trans rfl⟩
theorem a8t {w w1 : World} {o : Obj} {n : Nat} (hb : Below ((w.alloc o).drewN n).heap.size ((w.alloc o).drewN n) w1) : w1.heap[w.heap.size]? = some o :=
 (hb.block _ (by simp)).trans (heap_alloc_new w o)
theorem c0l {w w1 : World} {o : Obj} (hb : Below (w.alloc o).heap.size (w.alloc o) w1) : w1.heap[w.heap.size]? = some o :=
 (hb.block _ (by simp)).trans (heap_alloc_new w o)
theorem b8m {w w1 : World} {o o' : Obj} {g : Nat} (h : w.heap[g]? = some o) (hb : Below (w.alloc o').heap.size (w.alloc o') w1) : w1.heap[g]? = some o :=
 (hb.block _ (by have := (Array.getElem?_eq_some_iff.1 h).1; simp; omega)).trans ((Below.heap_alloc w o' g (Array.getElem?_eq_some_iff.1 h).1).trans h)
theorem d3v {w : World} {g T : Nat} {a b c : Int} (h : w.heap[g]? = some (.cells #[.int .i64 a, .int .i64 b, .int .i64 c] T (0, 0))) :
  w.cell? ⟨g, 0, none⟩ = some (.int .i64 a) ∧ w.cell? ⟨g, 1, none⟩ = some (.int .i64 b) ∧ w.cell? ⟨g, 2, none⟩ = some (.int .i64 c) :=
 ⟨(kG h 0).trans rfl, (kG h 1).trans rfl, (kG h 2).trans rfl⟩
def wv (l : List (S31)) (ps : List Int) (j t : Nat) : Int := if t < j then (kA l (rd ps (t : Int))).f1 else 0
def pM (op W K B : Int) (u v x : Int) : Bool :=
 if op = 0 then Go.Proofs.Ytkpipmojkhikaaa.Base.wok W K else if op = 1 then inB K 0 7 else if op = 2 then u == W
 else if 3 ≤ op ∧ op ≤ 12 then u == W && v == W else if 13 ≤ op ∧ op ≤ 15 then u == v && W == 1
 else if op = 16 then wrap64 (u + v) == W else if op = 17 then inB K 0 (wrap64 (u - W))
 else if op = 18 then u == 1 && v == W && x == W else inB K 0 7 && inB B 1 8 && u == 1 && W == 1
def sM (l : List (S31)) (op W K A B C : Int) : Bool :=
 inB W 1 8 && inB op 0 20 && xM op K A B C && (kV op A B C).all (fun p => inB p 0 ((l.length : Int) - 1)) &&
  pM op W K B (wv l (kV op A B C) (kV op A B C).length 0) (wv l (kV op A B C) (kV op A B C).length 1) (wv l (kV op A B C) (kV op A B C).length 2)
def yF (l0 : List (S31)) (a5 : Int) (a4 : Int) (a3 : Int) (a2 : Int) (a1 : Int) (a0 : Int) : Option Bool := some (sM l0 a5 a4 a3 a2 a1 a0)
set_option maxHeartbeats 2000000 in
theorem isRight_no1.calls (A0 : Option Addr) (c0 : Nat) (l0 : List (S31)) (a5 a0 a4 a3 a2 a1 : Int) (w : World) (hr0 : Kd.C k31 w A0 l0.length l0) (hc0 : l0.length ≤ c0) (b1 : inB a0 1 8 = false) :
  Calls Try.prog 73 #[.slice A0 l0.length c0, .agg #[.int .i64 a5, .int .i64 a0, .int .i64 a4, .int .i64 a3, .int .i64 a2, .int .i64 a1]] w fun e w' => e = .returned (.bool (false)) ∧ Below w.heap.size w w' := by
 go_enter Try.func73, Try.ntmps73
 go_wp2_with (first | (go_at_call 83; refine cD (impl_isWidth.calls (yU _)) fun nd => ?_) | (go_at_call 72; refine cD (impl_within.calls (vY _ _ _)) fun nd => ?_) | (go_at_call 110; refine cD (impl_isVar.calls (b2p _)) fun nd => ?_) | (go_at_call 54; refine cD (impl_WordOk.calls (xO _ _)) fun nd => ?_))
 go_ret
 exact ⟨rfl, kN (kS (Below.refl _ _) _) _⟩
set_option maxHeartbeats 2000000 in
theorem isRight_no2.calls (A0 : Option Addr) (c0 : Nat) (l0 : List (S31)) (a1 a0 a5 a4 a3 a2 : Int) (w : World) (hr0 : Kd.C k31 w A0 l0.length l0) (hc0 : l0.length ≤ c0) (b1 : inB a0 1 8 = true) (b2 : inB a1 0 20 = false) :
  Calls Try.prog 73 #[.slice A0 l0.length c0, .agg #[.int .i64 a1, .int .i64 a0, .int .i64 a5, .int .i64 a4, .int .i64 a3, .int .i64 a2]] w fun e w' => e = .returned (.bool (false)) ∧ Below w.heap.size w w' := by
 go_enter Try.func73, Try.ntmps73
 go_wp2_with (first | (go_at_call 83; refine cD (impl_isWidth.calls (yU _)) fun nd => ?_) | (go_at_call 72; refine cD (impl_within.calls (vY _ _ _)) fun nd => ?_) | (go_at_call 110; refine cD (impl_isVar.calls (b2p _)) fun nd => ?_) | (go_at_call 54; refine cD (impl_WordOk.calls (xO _ _)) fun nd => ?_))
 go_ret
 exact ⟨rfl, kN (kS (Below.refl _ _) _) _⟩
set_option maxHeartbeats 2000000 in
theorem isRight_no3.calls (A0 : Option Addr) (c0 : Nat) (l0 : List (S31)) (a0 a5 a4 a3 a2 a1 : Int) (w : World) (hr0 : Kd.C k31 w A0 l0.length l0) (hc0 : l0.length ≤ c0) (b1 : inB a5 1 8 = true) (b2 : inB a0 0 20 = true) (b3 : xM a0 a4 a3 a2 a1 = false) :
  Calls Try.prog 73 #[.slice A0 l0.length c0, .agg #[.int .i64 a0, .int .i64 a5, .int .i64 a4, .int .i64 a3, .int .i64 a2, .int .i64 a1]] w fun e w' => e = .returned (.bool (false)) ∧ Below w.heap.size w w' := by
 go_enter Try.func73, Try.ntmps73
 go_wp2_with (first | (go_at_call 83; refine cD (impl_isWidth.calls (yU _)) fun nd => ?_) | (go_at_call 72; refine cD (impl_within.calls (vY _ _ _)) fun nd => ?_) | (go_at_call 110; refine cD (impl_isVar.calls (b2p _)) fun nd => ?_) | (go_at_call 54; refine cD (impl_WordOk.calls (xO _ _)) fun nd => ?_) | (go_at_call 109; refine (impl_usesOnly.calls 3 _ _ _ _ _ _ _ _ (c9z _ _ _ _ _ _ oM)).mono ?_; rintro e w1 ⟨rfl, hb⟩; have BK := am (a8t hb); have HB := am (show Below w.heap.size w w1 from (kN (kS (Below.refl _ _) _) _).trans (hb.mono (by simp))); have hlt := (Array.getElem?_eq_some_iff.1 BK.out).1; clear hb; obtain ⟨q0, q1, q2, q3, q4, q5⟩ := d2e BK.out))
 go_ret
 exact ⟨rfl, HB.out⟩
theorem b2j {P : Prop} (h : P := by
 (go_wp2_with (first | (go_at_call 83; refine cD (impl_isWidth.calls (yU _)) fun nd => ?_) | (go_at_call 72; refine cD (impl_within.calls (vY _ _ _)) fun nd => ?_) | (go_at_call 110; refine cD (impl_isVar.calls (b2p _)) fun nd => ?_) | (go_at_call 54; refine cD (impl_WordOk.calls (xO _ _)) fun nd => ?_)); go_ret; exact ⟨by rw [HR.out, E]; ((simp only [g1, Bool.true_and, Bool.false_and, Bool.and_true, Bool.and_false]; rfl)), by exact kN HB.out _⟩)) : P := h
theorem b2i {P : Prop} (h : P := by
 (go_wp2_with (first | (go_at_call 83; refine cD (impl_isWidth.calls (yU _)) fun nd => ?_) | (go_at_call 72; refine cD (impl_within.calls (vY _ _ _)) fun nd => ?_) | (go_at_call 110; refine cD (impl_isVar.calls (b2p _)) fun nd => ?_) | (go_at_call 54; refine cD (impl_WordOk.calls (xO _ _)) fun nd => ?_)); go_ret; exact ⟨by rw [HR.out, E]; (rfl), by exact kN HB.out _⟩)) : P := h
theorem c0x {P : Prop} (h : P := by
 (go_wp2_with (first | (go_at_call 83; refine cD (impl_isWidth.calls (yU _)) fun nd => ?_) | (go_at_call 72; refine cD (impl_within.calls (vY _ _ _)) fun nd => ?_) | (go_at_call 110; refine cD (impl_isVar.calls (b2p _)) fun nd => ?_) | (go_at_call 54; refine cD (impl_WordOk.calls (xO _ _)) fun nd => ?_)); go_ret; exact ⟨by rw [HR.out, E]; ((simp only [g3, g2, g1, Bool.true_and, Bool.false_and, Bool.and_true, Bool.and_false]; rfl)), by exact kN HB.out _⟩)) : P := h
theorem c0v {P : Prop} (h : P := by
 (go_wp2_with (first | (go_at_call 83; refine cD (impl_isWidth.calls (yU _)) fun nd => ?_) | (go_at_call 72; refine cD (impl_within.calls (vY _ _ _)) fun nd => ?_) | (go_at_call 110; refine cD (impl_isVar.calls (b2p _)) fun nd => ?_) | (go_at_call 54; refine cD (impl_WordOk.calls (xO _ _)) fun nd => ?_)); go_ret; exact ⟨by rw [HR.out, E]; ((simp only [g2, g1, Bool.true_and, Bool.false_and, Bool.and_true, Bool.and_false]; rfl)), by exact kN HB.out _⟩)) : P := h
set_option maxHeartbeats 2000000 in
theorem isRight_go.calls (A0 : Option Addr) (c0 : Nat) (l0 : List (S31)) (a0 a2 a3 a5 a1 a4 : Int) (w : World) (hr0 : Kd.C k31 w A0 l0.length l0) (hc0 : l0.length ≤ c0) (b1 : inB a2 1 8 = true) (b2 : inB a0 0 20 = true) (b3 : xM a0 a3 a5 a1 a4 = true) (r : Bool)
  (hno : ¬ (∀ t : Nat, t < (kV a0 a5 a1 a4).length → inB (rd (kV a0 a5 a1 a4) (t : Int)) 0 ((l0.length : Int) - 1) = true) → r = false)
  (hyes : (∀ t : Nat, t < (kV a0 a5 a1 a4).length → inB (rd (kV a0 a5 a1 a4) (t : Int)) 0 ((l0.length : Int) - 1) = true) → r = pM a0 a2 a3 a1 (wv l0 (kV a0 a5 a1 a4) (kV a0 a5 a1 a4).length 0) (wv l0 (kV a0 a5 a1 a4) (kV a0 a5 a1 a4).length 1) (wv l0 (kV a0 a5 a1 a4) (kV a0 a5 a1 a4).length 2)) :
  Calls Try.prog 73 #[.slice A0 l0.length c0, .agg #[.int .i64 a0, .int .i64 a2, .int .i64 a3, .int .i64 a5, .int .i64 a1, .int .i64 a4]] w fun e w' => e = .returned (.bool (r)) ∧ Below w.heap.size w w' := by
 have a7 := am hr0
 have aF := am hc0
 clear hr0 hc0
 have hl0 : (l0.length : Int) ≤ 9223372036854775807 := by have := a7.out.2.1; omega
 have HNO := am hno
 have HYES := am hyes
 clear hno hyes
 go_enter Try.func73, Try.ntmps73
 go_wp2_with (first | (go_at_call 83; refine cD (impl_isWidth.calls (yU _)) fun nd => ?_) | (go_at_call 72; refine cD (impl_within.calls (vY _ _ _)) fun nd => ?_) | (go_at_call 110; refine cD (impl_isVar.calls (b2p _)) fun nd => ?_) | (go_at_call 54; refine cD (impl_WordOk.calls (xO _ _)) fun nd => ?_) | (go_at_call 109; refine (impl_usesOnly.calls 3 _ _ _ _ _ _ _ _ (c9z _ _ _ _ _ _ oM)).mono ?_; rintro e w1 ⟨rfl, hb⟩; have BK := am (a8t hb); have HB := am (show Below w.heap.size w w1 from (kN (kS (Below.refl _ _) _) _).trans (hb.mono (by simp))); have hlt := (Array.getElem?_eq_some_iff.1 BK.out).1; clear hb; obtain ⟨q0, q1, q2, q3, q4, q5⟩ := d2e BK.out))
 refine (impl_Parts.calls 1 _ _ _ _ _ _ _ _ (a9z _ _ _ _ _ _ oM)).mono ?_
 rintro e w2 ⟨v0, rfl, HO, hb⟩
 have a8 := am (b8m BK.out hb)
 have AR := am (c0l hb)
 have HB2 := am ((HB.out.alloc HB.out.size _).trans (hb.mono (by have := HB.out.size; simp; omega)))
 have aB := am HB.out.size
 clear q0 q1 q2 q3 q4 q5 hb HB BK
 obtain ⟨A5, c5, rfl, _, _⟩ := Kd.R_reads HO
 have a6 := am (show Kd.R (Kd.int .i64) 3 w2 (w1.heap.size + 1) (fun k => w1.heap.size + 1 ≤ k) (.slice A5 (kV a0 a5 a1 a4).length c5) (kV a0 a5 a1 a4) from
  Kd.R_mono (Kd.R_bound (Kd.R_lower HO (by simp))) (fun k hk => hk.2.1))
 clear HO
 have hps3 := uD a0 a5 a1 a4
 obtain ⟨ps, hps⟩ : ∃ ps, kV a0 a5 a1 a4 = ps := ⟨_, rfl⟩
 rw [hps] at HNO HYES a6 hps3 ⊢
 clear hps
 have aC := am hps3
 clear hps3
 go_wp2
 go_loopg [27] ps.length (fun g a9 w' => ∃ j : Nat, a9 = .int .i64 (j : Int) ∧ Aside0 (g + j = ps.length) ∧ Aside0 (∀ t : Nat, t < j → inB (rd ps (t : Int)) 0 ((l0.length : Int) - 1) = true) ∧
  Aside0 (w'.heap[w1.heap.size]? = some (.cells #[.int .i64 (wv l0 ps j 0), .int .i64 (wv l0 ps j 1), .int .i64 (wv l0 ps j 2)] 101 (0, 0))) ∧
  Aside0 (w'.heap[w.heap.size]? = some (.cells #[.int .i64 a0, .int .i64 a2, .int .i64 a3, .int .i64 a5, .int .i64 a1, .int .i64 a4] 31 (0, 0))) ∧
  Aside0 (Kd.R (Kd.int .i64) 3 w' (w1.heap.size + 1) (fun k => w1.heap.size + 1 ≤ k) (.slice A5 ps.length c5) ps) ∧ Aside0 (Below w.heap.size w w'))
 case atStart => exact ⟨0, rfl, ⟨rfl⟩, ⟨fun t ht => absurd ht oM⟩, AR, a8, a6, HB2⟩
 clear AR a8 a6 HB2
 obtain ⟨j, rfl, HG, HA, AR, BK, HO, HB⟩ := hrel
 by_cases hj : j < ps.length
 ·have hj3 : j < 3 := by have := aC.out; omega
  have p1 : (0 : Int) ≤ (j : Int) := by omega
  have p2 : (j : Int) < (ps.length : Int) := by omega
  have t1 : decide ((j : Int) < (ps.length : Int)) = true := decide_eq_true p2
  obtain ⟨A6, c6, e6, _, hr6⟩ := Kd.R_reads HO.out
  cases e6
  obtain ⟨aD, e5, aA⟩ := Kd.at_int hr6 (j : Int) p1 p2
  cases e5
  rw [Int.toNat_natCast] at aA
  clear hr6
  by_cases hin : inB (rd ps (j : Int)) 0 ((l0.length : Int) - 1) = true
  rotate_left
  ·have hin' : inB (rd ps (j : Int)) 0 ((l0.length : Int) - 1) = false := by simpa using hin
   go_wp2_with (first | (go_at_call 83; refine cD (impl_isWidth.calls (yU _)) fun nd => ?_) | (go_at_call 72; refine cD (impl_within.calls (vY _ _ _)) fun nd => ?_) | (go_at_call 110; refine cD (impl_isVar.calls (b2p _)) fun nd => ?_) | (go_at_call 54; refine cD (impl_WordOk.calls (xO _ _)) fun nd => ?_))
   go_ret
   exact ⟨by rw [HNO.out (fun h => hin (h j hj))] <;> rfl, kN HB.out _⟩
  have hi2 : 0 ≤ rd ps (j : Int) ∧ rd ps (j : Int) ≤ (l0.length : Int) - 1 := by simpa [inB] using hin
  have p3 : 0 ≤ rd ps (j : Int) := hi2.1
  have p4 : rd ps (j : Int) < (l0.length : Int) := by omega
  clear hi2
  obtain ⟨aE, e0, y0, y1, y2, y3, y4, y5⟩ := pL a7.out (rd ps (j : Int)) p3 p4
  cases e0
  replace y1 := kC HB.out y1
  clear y0 y2 y3 y4 y5
  have fz : wr.frozen? ⟨w1.heap.size, j, none⟩ = false := by have h := AR.out; simp [World.frozen?, h]
  have old : ∃ v, wr.cell? ⟨w1.heap.size, j, none⟩ = some v := by
   have h := kG AR.out j
   have : j = 0 ∨ j = 1 ∨ j = 2 := by omega
   rcases this with rfl | rfl | rfl <;> exact ⟨_, h.trans rfl⟩
  obtain ⟨ov, old⟩ := old
  go_wp2_with (first | (go_at_call 83; refine cD (impl_isWidth.calls (yU _)) fun nd => ?_) | (go_at_call 72; refine cD (impl_within.calls (vY _ _ _)) fun nd => ?_) | (go_at_call 110; refine cD (impl_isVar.calls (b2p _)) fun nd => ?_) | (go_at_call 54; refine cD (impl_WordOk.calls (xO _ _)) fun nd => ?_))
  obtain ⟨g1, rfl⟩ : ∃ g1, gk = g1 + 1 := ⟨gk - 1, by have := HG.out; omega⟩
  go_roundg g1
  case measure => omega
  case rel =>
   refine ⟨j + 1, by go_num, ⟨by have := HG.out; omega⟩, ⟨fun t ht => ?_⟩, ⟨?_⟩, ⟨?_⟩, ⟨?_⟩, ⟨?_⟩⟩
   ·rcases Nat.lt_or_ge t j with h | h
    ·exact HA.out t h
    obtain rfl : t = j := by omega
    exact hin
   ·have h := qM (show (wr.drewN nd).heap[w1.heap.size]? = some (.cells _ _ (0, 0)) from AR.out) j (.int .i64 (kA l0 (rd ps (j : Int))).f1)
    refine h.trans ?_
    have : j = 0 ∨ j = 1 ∨ j = 2 := by omega
    rcases this with rfl | rfl | rfl <;> simp [wv]
   ·exact xH (show (wr.drewN nd).heap[w.heap.size]? = some (.cells _ _ (0, 0)) from BK.out) (by simp; omega) _
   ·exact Kd.R_far (Kd.R_drewN HO.out _) (fun k hk => by simp; omega) _
   exact kZ (kN HB.out _) aB.out
 have t1 : decide ((j : Int) < (ps.length : Int)) = false := decide_eq_false oM
 obtain rfl : j = ps.length := by have := HG.out; omega
 obtain ⟨q0, q1, q2, q3, q4, q5⟩ := d2e BK.out
 obtain ⟨z0, z1, z2⟩ := d3v AR.out
 have HR := am (HYES.out HA.out)
 clear HYES HNO HA hj
 generalize wv l0 ps ps.length 0 = u at *
 generalize wv l0 ps ps.length 1 = v at *
 generalize wv l0 ps ps.length 2 = x at *
 have hop : (a0 = 0) ∨ (a0 = 1) ∨ (a0 = 2) ∨ (3 ≤ a0 ∧ a0 ≤ 12) ∨ (13 ≤ a0 ∧ a0 ≤ 15) ∨ (a0 = 16) ∨ (a0 = 17) ∨ (a0 = 18) ∨ (a0 = 19 ∨ a0 = 20) := by
  have h : 0 ≤ a0 ∧ a0 ≤ 20 := by simpa [inB] using b2
  omega
 clear b1 b2 b3
 have tc := fun (b : Bool) => (Bool.eq_false_or_eq_true b).symm
 rcases hop with h | h | h | h | h | h | h | h | h
 ·have E : pM a0 a2 a3 a1 u v x = Go.Proofs.Ytkpipmojkhikaaa.Base.wok a2 a3 := by unfold pM; rw [if_pos h]
  have k0 : (a0 == 0) = true := by simp [h]
  exact b2i
 ·have E : pM a0 a2 a3 a1 u v x = inB a3 0 7 := by unfold pM; rw [if_neg oM, if_pos h]
  have k0 : (a0 == 0) = false := by simp [inB]; omega
  have k1 : (a0 == 1) = true := by simp [h]
  exact b2i
 ·have E : pM a0 a2 a3 a1 u v x = (u == a2) := by unfold pM; rw [if_neg oM, if_neg oM, if_pos h]
  have k0 : (a0 == 0) = false := by simp [inB]; omega
  have k1 : (a0 == 1) = false := by simp [inB]; omega
  have k2 : (a0 == 2) = true := by simp [h]
  (go_wp2_with (first | (go_at_call 83; refine cD (impl_isWidth.calls (yU _)) fun nd => ?_) | (go_at_call 72; refine cD (impl_within.calls (vY _ _ _)) fun nd => ?_) | (go_at_call 110; refine cD (impl_isVar.calls (b2p _)) fun nd => ?_) | (go_at_call 54; refine cD (impl_WordOk.calls (xO _ _)) fun nd => ?_)); go_ret; exact ⟨by rw [HR.out, E]; (rfl), by exact HB.out⟩)
 ·have E : pM a0 a2 a3 a1 u v x = ((u == a2) && (v == a2)) := by unfold pM; rw [if_neg oM, if_neg oM, if_neg oM, if_pos h]
  have k0 : (a0 == 0) = false := by simp [inB]; omega
  have k1 : (a0 == 1) = false := by simp [inB]; omega
  have k2 : (a0 == 2) = false := by simp [inB]; omega
  have k3 : (inB a0 3 12) = true := by simp [inB]; omega
  rcases tc (u == a2) with g1 | g1
  ·exact b2j
  exact b2j
 ·have E : pM a0 a2 a3 a1 u v x = ((u == v) && (a2 == 1)) := by unfold pM; rw [if_neg oM, if_neg oM, if_neg oM, if_neg oM, if_pos h]
  have k0 : (a0 == 0) = false := by simp [inB]; omega
  have k1 : (a0 == 1) = false := by simp [inB]; omega
  have k2 : (a0 == 2) = false := by simp [inB]; omega
  have k3 : (inB a0 3 12) = false := by simp [inB]; omega
  have k4 : (inB a0 13 15) = true := by simp [inB]; omega
  rcases tc (u == v) with g1 | g1
  ·exact b2j
  exact b2j
 ·have E : pM a0 a2 a3 a1 u v x = (wrap64 (u + v) == a2) := by unfold pM; rw [if_neg oM, if_neg oM, if_neg oM, if_neg oM, if_neg oM, if_pos h]
  have k0 : (a0 == 0) = false := by simp [inB]; omega
  have k1 : (a0 == 1) = false := by simp [inB]; omega
  have k2 : (a0 == 2) = false := by simp [inB]; omega
  have k3 : (inB a0 3 12) = false := by simp [inB]; omega
  have k4 : (inB a0 13 15) = false := by simp [inB]; omega
  have k5 : (a0 == 16) = true := by simp [h]
  exact b2i
 ·have E : pM a0 a2 a3 a1 u v x = inB a3 0 (wrap64 (u - a2)) := by unfold pM; rw [if_neg oM, if_neg oM, if_neg oM, if_neg oM, if_neg oM, if_neg oM, if_pos h]
  have k0 : (a0 == 0) = false := by simp [inB]; omega
  have k1 : (a0 == 1) = false := by simp [inB]; omega
  have k2 : (a0 == 2) = false := by simp [inB]; omega
  have k3 : (inB a0 3 12) = false := by simp [inB]; omega
  have k4 : (inB a0 13 15) = false := by simp [inB]; omega
  have k5 : (a0 == 16) = false := by simp [inB]; omega
  have k6 : (a0 == 17) = true := by simp [h]
  exact b2i
 ·have E : pM a0 a2 a3 a1 u v x = ((u == 1) && (v == a2) && (x == a2)) := by unfold pM; rw [if_neg oM, if_neg oM, if_neg oM, if_neg oM, if_neg oM, if_neg oM, if_neg oM, if_pos h]
  have k0 : (a0 == 0) = false := by simp [inB]; omega
  have k1 : (a0 == 1) = false := by simp [inB]; omega
  have k2 : (a0 == 2) = false := by simp [inB]; omega
  have k3 : (inB a0 3 12) = false := by simp [inB]; omega
  have k4 : (inB a0 13 15) = false := by simp [inB]; omega
  have k5 : (a0 == 16) = false := by simp [inB]; omega
  have k6 : (a0 == 17) = false := by simp [inB]; omega
  have k7 : (a0 == 18) = true := by simp [h]
  rcases tc (u == 1) with g2 | g2
  ·(go_wp2_with (first | (go_at_call 83; refine cD (impl_isWidth.calls (yU _)) fun nd => ?_) | (go_at_call 72; refine cD (impl_within.calls (vY _ _ _)) fun nd => ?_) | (go_at_call 110; refine cD (impl_isVar.calls (b2p _)) fun nd => ?_) | (go_at_call 54; refine cD (impl_WordOk.calls (xO _ _)) fun nd => ?_)); go_ret; exact ⟨by rw [HR.out, E]; ((simp only [g2, Bool.true_and, Bool.false_and, Bool.and_true, Bool.and_false]; rfl)), by exact kN HB.out _⟩)
  rcases tc (v == a2) with g1 | g1
  ·exact c0v
  exact c0v
 have E : pM a0 a2 a3 a1 u v x = (inB a3 0 7 && inB a1 1 8 && (u == 1) && (a2 == 1)) := by unfold pM; rw [if_neg oM, if_neg oM, if_neg oM, if_neg oM, if_neg oM, if_neg oM, if_neg oM, if_neg oM]
 have k0 : (a0 == 0) = false := by rcases h with rfl | rfl <;> rfl
 have k1 : (a0 == 1) = false := by rcases h with rfl | rfl <;> rfl
 have k2 : (a0 == 2) = false := by rcases h with rfl | rfl <;> rfl
 have k3 : (inB a0 3 12) = false := by simp [inB]; omega
 have k4 : (inB a0 13 15) = false := by simp [inB]; omega
 have k5 : (a0 == 16) = false := by rcases h with rfl | rfl <;> rfl
 have k6 : (a0 == 17) = false := by rcases h with rfl | rfl <;> rfl
 have k7 : (a0 == 18) = false := by rcases h with rfl | rfl <;> rfl
 rcases tc (inB a3 0 7) with g3 | g3
 ·(go_wp2_with (first | (go_at_call 83; refine cD (impl_isWidth.calls (yU _)) fun nd => ?_) | (go_at_call 72; refine cD (impl_within.calls (vY _ _ _)) fun nd => ?_) | (go_at_call 110; refine cD (impl_isVar.calls (b2p _)) fun nd => ?_) | (go_at_call 54; refine cD (impl_WordOk.calls (xO _ _)) fun nd => ?_)); go_ret; exact ⟨by rw [HR.out, E]; ((simp only [g3, Bool.true_and, Bool.false_and, Bool.and_true, Bool.and_false]; rfl)), by exact kN HB.out _⟩)
 rcases tc (inB a1 1 8) with g2 | g2
 ·(go_wp2_with (first | (go_at_call 83; refine cD (impl_isWidth.calls (yU _)) fun nd => ?_) | (go_at_call 72; refine cD (impl_within.calls (vY _ _ _)) fun nd => ?_) | (go_at_call 110; refine cD (impl_isVar.calls (b2p _)) fun nd => ?_) | (go_at_call 54; refine cD (impl_WordOk.calls (xO _ _)) fun nd => ?_)); go_ret; exact ⟨by rw [HR.out, E]; ((simp only [g3, g2, Bool.true_and, Bool.false_and, Bool.and_true, Bool.and_false]; rfl)), by exact kN HB.out _⟩)
 rcases tc (u == 1) with g1 | g1
 ·exact c0x
 exact c0x
theorem b2v (l : List Int) (P : Int → Bool) : (∀ t : Nat, t < l.length → P (rd l (t : Int)) = true) ↔ l.all P = true := by
 rw [List.all_eq_true]
 constructor
 ·intro h x hx
  obtain ⟨t, ht, rfl⟩ := List.getElem_of_mem hx
  have := h t ht
  rwa [show rd l (t : Int) = l[t] from by simp [rd, ht]] at this
 ·intro h t ht
  rw [show rd l (t : Int) = l[t] from by simp [rd, ht]]
  exact h _ (List.getElem_mem ht)
theorem impl_isRight.calls (A0 : Option Addr) (c0 : Nat) (l0 : List (S31)) (a0 a5 a4 a3 a2 a1 : Int) (r : Bool) (w : World) (hr0 : Kd.C k31 w A0 l0.length l0) (hc0 : l0.length ≤ c0) (h : yF l0 a0 a5 a4 a3 a2 a1 = some r) :
  Calls Try.prog 73 #[.slice A0 l0.length c0, .agg #[.int .i64 a0, .int .i64 a5, .int .i64 a4, .int .i64 a3, .int .i64 a2, .int .i64 a1]] w fun e w' => e = .returned (.bool (r)) ∧ Below w.heap.size w w' := by
 obtain rfl : sM l0 a0 a5 a4 a3 a2 a1 = r := oI h
 cases b1 : inB a5 1 8 with
 | false => simpa [sM, b1] using isRight_no1.calls A0 c0 l0 a0 a5 a4 a3 a2 a1 w hr0 hc0 b1
 | true =>
  cases b2 : inB a0 0 20 with
  | false => simpa [sM, b1, b2] using isRight_no2.calls A0 c0 l0 a0 a5 a4 a3 a2 a1 w hr0 hc0 b1 b2
  | true =>
   cases b3 : xM a0 a4 a3 a2 a1 with
   | false => simpa [sM, b1, b2, b3] using isRight_no3.calls A0 c0 l0 a0 a5 a4 a3 a2 a1 w hr0 hc0 b1 b2 b3
   | true =>
    refine isRight_go.calls A0 c0 l0 a0 a5 a4 a3 a2 a1 w hr0 hc0 b1 b2 b3 _ (fun hn => ?_) (fun hy => ?_)
    ·rw [b2v _ (fun p => inB p 0 ((l0.length : Int) - 1))] at hn
     simp only [Bool.not_eq_true] at hn
     unfold sM
     rw [hn]; simp
    rw [b2v _ (fun p => inB p 0 ((l0.length : Int) - 1))] at hy
    unfold sM
    rw [b1, b2, b3, hy]; simp only [Bool.true_and]
end Go.Proofs.Ytkpipmojkhikaaa.PAll
