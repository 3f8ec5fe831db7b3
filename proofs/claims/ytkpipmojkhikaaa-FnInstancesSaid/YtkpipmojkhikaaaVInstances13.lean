/- Written by a program of this session over the loaded program, and by hand: Go functions as plain Lean functions, and that a call comes to what they say. -/
import Derived.Test.YtkpipmojkhikaaaVInstances0
import Derived.Test.YtkpipmojkhikaaaVInstances11
import Derived.Test.YtkpipmojkhikaaaVInstances12
import Derived.Test.YtkpipmojkhikaaaBase
import Derived.Test.YtkpipmojkhikaaaSq
namespace Go.Proofs.Ytkpipmojkhikaaa.PAll
open Go.RowKit Go.Proofs.YtkpipmojkhikaaaW.PrintWords Go.Proofs.YtkpipmojkhikaaaW.PrintLast Go.Proofs.YtkpipmojkhikaaaW.PrintMore Go.Proofs.YtkpipmojkhikaaaW.Sq
attribute [local go_sem] rF rC tK tJ qE qD rD rA
set_option linter.unusedVariables false
set_option maxHeartbeats 8000000
set_option maxRecDepth 100000
set_option linter.unusedSimpArgs false
def tT : Nat → List (S31) → List (S31) → Int → Int → Option (Bool)
 | 0, _, _, _, _ => none
 | k + 1, x0, x9, a1, a0 => if a0 < a1 then (if 0 ≤ a0 then (if a0 < (x9.length : Int) then (if a0 ≤ (x0.length : Int) then ((a1t (x0.take (a0 : Int).toNat) ((kA x9 a0).f0) ((kA x9 a0).f1) ((kA x9 a0).f2) ((kA x9 a0).f3) ((kA x9 a0).f4) ((kA x9 a0).f5)).bind fun a2 => (if a2 = true then (tT k x0 x9 a1 (wrap64 (a0 + 1))) else (some false))) else (none)) else (none)) else (none)) else (some true)
def uK (k : Nat) (l0 : List (S31)) : Option (Bool) := (pY (l0.length : Int) 1 80).bind fun a0 => (if a0 = true then (tT k l0 l0 (l0.length : Int) 0) else (some false))
theorem b0e {P : Prop} (h : P := by
 simp only [Act.put, List.setIfInBounds_toArray, List.set_cons_zero, List.set_cons_succ, vE, a3o]
 rfl) : P := h
theorem impl_TermOk.calls (k : Nat) (A0 : Option Addr) (c0 : Nat) (l0 : List (S31)) (r : Bool) (w : World) (hr0 : Kd.C k31 w A0 l0.length l0) (hc0 : l0.length ≤ c0) (h : uK k l0 = some r) :
  Calls Try.prog 44 #[.slice A0 l0.length c0] w fun e w' => e = .returned (.bool r) ∧ Below w.heap.size w w' := by
 have hu31 := Try.underlying31
 have aD := am hr0
 have aQ := am hc0
 clear hr0 hc0
 have HB := am (Below.refl w.heap.size w)
 have H := h
 clear h
 unfold uK at H
 replace H := oA H; obtain ⟨aY, A2, H⟩ := H
 replace H := iB H; rcases H with ⟨rfl, H⟩ | ⟨rfl, H⟩
 rotate_left
 ·obtain rfl := oI H
  go_enter Try.func44, Try.ntmps44
  go_wp2_with (first | ((with_reducible refine gW ?_); first | (refine gD (some 7) Try.func72 rfl (impl_within.calls A2.out) fun nd => ?_)))
  go_ret
  exact ⟨rfl, sW HB.out⟩
 replace H := am H
 go_enter Try.func44, Try.ntmps44
 go_wp2_with (first | ((with_reducible refine gW ?_); first | (refine gD (some 7) Try.func72 rfl (impl_within.calls A2.out) fun nd => ?_)))
 go_loopg [11] k (fun kq aW w' => ∃ (a0 : Int), aW = .int .i64 a0 ∧ Aside0 (tT kq l0 l0 (l0.length : Int) a0 = some r) ∧ Aside0 (kq ≤ k) ∧ Aside0 (Below w.heap.size w w'))
 case atStart => exact ⟨0, rfl, H, ⟨Nat.le_refl _⟩, ⟨sW HB.out⟩⟩
 clear H
 obtain ⟨a0, rfl, HA, aO, HB⟩ := hrel
 cases gk with
 | zero => cases HA.out
 | succ k1 =>
  obtain ⟨H⟩ := HA
  simp only [tT] at H
  replace H := iD H; rcases H with ⟨aT, H⟩ | ⟨aT, H⟩
  rotate_left
  ·obtain rfl := oI H
   go_wp2
   go_ret
   exact ⟨rfl, sW HB.out⟩
  replace H := iN H; obtain ⟨b2, H⟩ := H
  replace H := iN H; obtain ⟨b1, H⟩ := H
  have b0 := eq_true (oD (by assumption) : 0 ≤ a0)
  replace H := iTD H; obtain ⟨a_, aZ, H⟩ := H
  generalize aC : l0.take (a0 : Int).toNat = a5 at H
  have a6 := am aC.symm; clear aC
  replace H := oA H; obtain ⟨aX, A9, H⟩ := H
  replace H := iB H; rcases H with ⟨rfl, H⟩ | ⟨rfl, H⟩
  ·replace H := am H
   obtain ⟨aS, aR, a3, rfl, aJ, aI, aH, aG, aF, aE⟩ := ix (pE (Kd.C_below aD.out HB.out) a0)
   try go_wp2_with (first | ((with_reducible refine gW ?_); first | (refine bX 4 31 #[.int .i64 0, .int .i64 0, .int .i64 0, .int .i64 0, .int .i64 0, .int .i64 0] ?_; intro a1 hg w11 hbox hb; have a2 := am hbox; have aM := gw hg; have aN := gw hg; replace HB := hB HB hb; clear hb hbox hg; have aV := cf6 a2.out)))
   have a8 : Aside0 (((((((w11.setCell ⟨a1, 0, none⟩ (.int .i64 ((kA l0 a0).f0))).setCell ⟨a1, 1, none⟩ (.int .i64 ((kA l0 a0).f1))).setCell ⟨a1, 2, none⟩ (.int .i64 ((kA l0 a0).f2))).setCell ⟨a1, 3, none⟩ (.int .i64 ((kA l0 a0).f3))).setCell ⟨a1, 4, none⟩ (.int .i64 ((kA l0 a0).f4))).setCell ⟨a1, 5, none⟩ (.int .i64 ((kA l0 a0).f5))).heap[a1]? = some (.cells #[.int .i64 ((kA l0 a0).f0), .int .i64 ((kA l0 a0).f1), .int .i64 ((kA l0 a0).f2), .int .i64 ((kA l0 a0).f3), .int .i64 ((kA l0 a0).f4), .int .i64 ((kA l0 a0).f5)] 31 (0, 0))) := ⟨by (with_reducible repeat (first | refine pA ?_ _ | refine kU ?_ | refine kY ?_ _)); refine pN (cs := #[.int .i64 ((kA l0 a0).f0), .int .i64 ((kA l0 a0).f1), .int .i64 ((kA l0 a0).f2), .int .i64 ((kA l0 a0).f3), .int .i64 ((kA l0 a0).f4), .int .i64 0]) ?_ 5 _ rfl; (with_reducible repeat (first | refine pA ?_ _ | refine kU ?_ | refine kY ?_ _)); refine pN (cs := #[.int .i64 ((kA l0 a0).f0), .int .i64 ((kA l0 a0).f1), .int .i64 ((kA l0 a0).f2), .int .i64 ((kA l0 a0).f3), .int .i64 0, .int .i64 0]) ?_ 4 _ rfl; (with_reducible repeat (first | refine pA ?_ _ | refine kU ?_ | refine kY ?_ _)); refine pN (cs := #[.int .i64 ((kA l0 a0).f0), .int .i64 ((kA l0 a0).f1), .int .i64 ((kA l0 a0).f2), .int .i64 0, .int .i64 0, .int .i64 0]) ?_ 3 _ rfl; (with_reducible repeat (first | refine pA ?_ _ | refine kU ?_ | refine kY ?_ _)); refine pN (cs := #[.int .i64 ((kA l0 a0).f0), .int .i64 ((kA l0 a0).f1), .int .i64 0, .int .i64 0, .int .i64 0, .int .i64 0]) ?_ 2 _ rfl; (with_reducible repeat (first | refine pA ?_ _ | refine kU ?_ | refine kY ?_ _)); refine pN (cs := #[.int .i64 ((kA l0 a0).f0), .int .i64 0, .int .i64 0, .int .i64 0, .int .i64 0, .int .i64 0]) ?_ 1 _ rfl; (with_reducible repeat (first | refine pA ?_ _ | refine kU ?_ | refine kY ?_ _)); refine pN (cs := #[.int .i64 0, .int .i64 0, .int .i64 0, .int .i64 0, .int .i64 0, .int .i64 0]) ?_ 0 _ rfl; exact sB <| a2.out⟩
   have a7 : Aside0 (Below w.heap.size w ((((((w11.setCell ⟨a1, 0, none⟩ (.int .i64 ((kA l0 a0).f0))).setCell ⟨a1, 1, none⟩ (.int .i64 ((kA l0 a0).f1))).setCell ⟨a1, 2, none⟩ (.int .i64 ((kA l0 a0).f2))).setCell ⟨a1, 3, none⟩ (.int .i64 ((kA l0 a0).f3))).setCell ⟨a1, 4, none⟩ (.int .i64 ((kA l0 a0).f4))).setCell ⟨a1, 5, none⟩ (.int .i64 ((kA l0 a0).f5)))) := ⟨by exact bW⟩
   clear a2
   clear HB
   generalize ((((((w11.setCell ⟨a1, 0, none⟩ (.int .i64 ((kA l0 a0).f0))).setCell ⟨a1, 1, none⟩ (.int .i64 ((kA l0 a0).f1))).setCell ⟨a1, 2, none⟩ (.int .i64 ((kA l0 a0).f2))).setCell ⟨a1, 3, none⟩ (.int .i64 ((kA l0 a0).f3))).setCell ⟨a1, 4, none⟩ (.int .i64 ((kA l0 a0).f4))).setCell ⟨a1, 5, none⟩ (.int .i64 ((kA l0 a0).f5))) = w13 at a8 a7 ⊢
   have a2 := a8
   have HB := a7
   clear a8 a7
   replace a2 := am (kU a2.out)
   replace HB := am (kM HB.out)
   have aL : (a0 : Int) ≤ ((l0.length : Int) : Int) := oD (by assumption)
   obtain ⟨i015, hi015, _, hsz15, _⟩ := info_parts uV
   have hroom15 : l0.length ≤ c0 := aQ.out
   have hC15 : Kd.C k31 _ (some a3) l0.length l0 := aD.out
   have hcut15 := b0y (P := Try.prog) 24 31 .i64 Try.underlying24 hi015 (some a3) l0.length c0 a0 (oD (by assumption)) aL hroom15
   have hr15 := Kd.C_take (m := (a0 : Int).toNat) hC15 oM
   have aB : a5.length = (a0 : Int).toNat := (by rw [a6.out, List.length_take]; omega)
   rw [← a6.out] at hr15
   rw [← aB] at hcut15
   have a4 := am hr15
   have a9 := am (show a5.length ≤ c0 from by omega)
   clear hr15 hC15 hroom15 hi015 hsz15
   have KY15 := am aB
   clear aB
   replace aL := eq_true aL
   refine wT (n := 6) (S := fun w' => w'.cell? ⟨a1, 0, none⟩ = some (.int .i64 ((kA l0 a0).f0)) ∧ w'.cell? ⟨a1, 1, none⟩ = some (.int .i64 ((kA l0 a0).f1)) ∧ w'.cell? ⟨a1, 2, none⟩ = some (.int .i64 ((kA l0 a0).f2)) ∧ w'.cell? ⟨a1, 3, none⟩ = some (.int .i64 ((kA l0 a0).f3)) ∧ w'.cell? ⟨a1, 4, none⟩ = some (.int .i64 ((kA l0 a0).f4)) ∧ w'.cell? ⟨a1, 5, none⟩ = some (.int .i64 ((kA l0 a0).f5))) (ds := []) #[false, false, false, false, false, false] (by kernel_rfl) rfl rfl (cz6 a2.out) (fun hHeld => ?_)
   generalize w13.drew = w14 at a2 HB a4 hHeld ⊢
   refine pS (i := 0) (N := some 16) #[true, false, false, false, false, false] ?_
   refine pS (i := 1) (N := some 17) #[true, true, false, false, false, false] ?_
   refine pS (i := 2) (N := some 18) #[true, true, true, false, false, false] ?_
   refine sL (i := 3) (N := some 19) (v := ?_) (a' := ?_) #[true, true, true, true, false, false] rfl rfl (by kernel_rfl) (fun _ _ _ h => h) (Or.inl ⟨by rfl, ?_⟩) hHeld ?_ ?_
   rotate_left
   ·rintro w' ⟨s0, s1, s2, s3, s4, s5⟩
    go_simp
    with_reducible rfl
   rotate_left
   ·exact b0e
   refine a0s (i := 4) (N := some 20) #[true, true, true, true, true, false] rfl rfl (by kernel_rfl) (by decide) (fun K hK => ?_)
   refine a5g Try.func73 (by kernel_rfl) rfl #[.slice (some a3) a5.length c0, .agg #[.int .i64 ((kA l0 a0).f0), .int .i64 ((kA l0 a0).f1), .int .i64 ((kA l0 a0).f2), .int .i64 ((kA l0 a0).f3), .int .i64 ((kA l0 a0).f4), .int .i64 ((kA l0 a0).f5)]] (by rfl) rfl rfl tm ?_
   with_reducible refine (impl_isRight.calls ?side1 ?side2 A9.out).mono ?_
   (case side1 => exact sC (Kd.C_below a4.out HB.out))
   (case side2 => exact a9.out)
   rintro e w16 ⟨rfl, hb⟩
   refine ⟨_, rfl, ?_⟩
   replace a2 := gB a2 hb
   replace HB := hX hb
   clear hb
   refine hK.out _ _ (cz6 a2.out) (fun hHeld => ?_)
   clear hK K
   refine sM (a' := ?_) ?_ ?_
   rotate_left
   ·show Act.put _ (some 20) _ = _
    exact b0e
   refine pS (i := 5) (N := some 21) #[true, true, true, true, true, true] ?_
   refine a1b (by kernel_rfl) ?_
   try go_wp2
   go_roundg k1
   case measure => have := aO.out; omega
   case rel => exact ⟨(wrap64 (a0 + 1)), rfl, H, ⟨by have := aO.out; omega⟩, ⟨bW⟩⟩
  obtain rfl := oI H
  obtain ⟨aS, aR, a3, rfl, aJ, aI, aH, aG, aF, aE⟩ := ix (pE (Kd.C_below aD.out HB.out) a0)
  try go_wp2_with (first | ((with_reducible refine gW ?_); first | (refine bX 4 31 #[.int .i64 0, .int .i64 0, .int .i64 0, .int .i64 0, .int .i64 0, .int .i64 0] ?_; intro a1 hg w17 hbox hb; have a2 := am hbox; have aM := gw hg; have aN := gw hg; replace HB := hB HB hb; clear hb hbox hg; have aU := cf6 a2.out)))
  have a8 : Aside0 (((((((w17.setCell ⟨a1, 0, none⟩ (.int .i64 ((kA l0 a0).f0))).setCell ⟨a1, 1, none⟩ (.int .i64 ((kA l0 a0).f1))).setCell ⟨a1, 2, none⟩ (.int .i64 ((kA l0 a0).f2))).setCell ⟨a1, 3, none⟩ (.int .i64 ((kA l0 a0).f3))).setCell ⟨a1, 4, none⟩ (.int .i64 ((kA l0 a0).f4))).setCell ⟨a1, 5, none⟩ (.int .i64 ((kA l0 a0).f5))).heap[a1]? = some (.cells #[.int .i64 ((kA l0 a0).f0), .int .i64 ((kA l0 a0).f1), .int .i64 ((kA l0 a0).f2), .int .i64 ((kA l0 a0).f3), .int .i64 ((kA l0 a0).f4), .int .i64 ((kA l0 a0).f5)] 31 (0, 0))) := ⟨by (with_reducible repeat (first | refine pA ?_ _ | refine kU ?_ | refine kY ?_ _)); refine pN (cs := #[.int .i64 ((kA l0 a0).f0), .int .i64 ((kA l0 a0).f1), .int .i64 ((kA l0 a0).f2), .int .i64 ((kA l0 a0).f3), .int .i64 ((kA l0 a0).f4), .int .i64 0]) ?_ 5 _ rfl; (with_reducible repeat (first | refine pA ?_ _ | refine kU ?_ | refine kY ?_ _)); refine pN (cs := #[.int .i64 ((kA l0 a0).f0), .int .i64 ((kA l0 a0).f1), .int .i64 ((kA l0 a0).f2), .int .i64 ((kA l0 a0).f3), .int .i64 0, .int .i64 0]) ?_ 4 _ rfl; (with_reducible repeat (first | refine pA ?_ _ | refine kU ?_ | refine kY ?_ _)); refine pN (cs := #[.int .i64 ((kA l0 a0).f0), .int .i64 ((kA l0 a0).f1), .int .i64 ((kA l0 a0).f2), .int .i64 0, .int .i64 0, .int .i64 0]) ?_ 3 _ rfl; (with_reducible repeat (first | refine pA ?_ _ | refine kU ?_ | refine kY ?_ _)); refine pN (cs := #[.int .i64 ((kA l0 a0).f0), .int .i64 ((kA l0 a0).f1), .int .i64 0, .int .i64 0, .int .i64 0, .int .i64 0]) ?_ 2 _ rfl; (with_reducible repeat (first | refine pA ?_ _ | refine kU ?_ | refine kY ?_ _)); refine pN (cs := #[.int .i64 ((kA l0 a0).f0), .int .i64 0, .int .i64 0, .int .i64 0, .int .i64 0, .int .i64 0]) ?_ 1 _ rfl; (with_reducible repeat (first | refine pA ?_ _ | refine kU ?_ | refine kY ?_ _)); refine pN (cs := #[.int .i64 0, .int .i64 0, .int .i64 0, .int .i64 0, .int .i64 0, .int .i64 0]) ?_ 0 _ rfl; exact sB <| a2.out⟩
  have a7 : Aside0 (Below w.heap.size w ((((((w17.setCell ⟨a1, 0, none⟩ (.int .i64 ((kA l0 a0).f0))).setCell ⟨a1, 1, none⟩ (.int .i64 ((kA l0 a0).f1))).setCell ⟨a1, 2, none⟩ (.int .i64 ((kA l0 a0).f2))).setCell ⟨a1, 3, none⟩ (.int .i64 ((kA l0 a0).f3))).setCell ⟨a1, 4, none⟩ (.int .i64 ((kA l0 a0).f4))).setCell ⟨a1, 5, none⟩ (.int .i64 ((kA l0 a0).f5)))) := ⟨by exact bW⟩
  clear a2
  clear HB
  generalize ((((((w17.setCell ⟨a1, 0, none⟩ (.int .i64 ((kA l0 a0).f0))).setCell ⟨a1, 1, none⟩ (.int .i64 ((kA l0 a0).f1))).setCell ⟨a1, 2, none⟩ (.int .i64 ((kA l0 a0).f2))).setCell ⟨a1, 3, none⟩ (.int .i64 ((kA l0 a0).f3))).setCell ⟨a1, 4, none⟩ (.int .i64 ((kA l0 a0).f4))).setCell ⟨a1, 5, none⟩ (.int .i64 ((kA l0 a0).f5))) = w19 at a8 a7 ⊢
  have a2 := a8
  have HB := a7
  clear a8 a7
  replace a2 := am (kU a2.out)
  replace HB := am (kM HB.out)
  have aK : (a0 : Int) ≤ ((l0.length : Int) : Int) := oD (by assumption)
  obtain ⟨i021, hi021, _, hsz21, _⟩ := info_parts uV
  have hroom21 : l0.length ≤ c0 := aQ.out
  have hC21 : Kd.C k31 _ (some a3) l0.length l0 := aD.out
  have hcut21 := b0y (P := Try.prog) 24 31 .i64 Try.underlying24 hi021 (some a3) l0.length c0 a0 (oD (by assumption)) aK hroom21
  have hr21 := Kd.C_take (m := (a0 : Int).toNat) hC21 oM
  have aA : a5.length = (a0 : Int).toNat := (by rw [a6.out, List.length_take]; omega)
  rw [← a6.out] at hr21
  rw [← aA] at hcut21
  have a4 := am hr21
  have a9 := am (show a5.length ≤ c0 from by omega)
  clear hr21 hC21 hroom21 hi021 hsz21
  have KY21 := am aA
  clear aA
  replace aK := eq_true aK
  refine wT (n := 6) (S := fun w' => w'.cell? ⟨a1, 0, none⟩ = some (.int .i64 ((kA l0 a0).f0)) ∧ w'.cell? ⟨a1, 1, none⟩ = some (.int .i64 ((kA l0 a0).f1)) ∧ w'.cell? ⟨a1, 2, none⟩ = some (.int .i64 ((kA l0 a0).f2)) ∧ w'.cell? ⟨a1, 3, none⟩ = some (.int .i64 ((kA l0 a0).f3)) ∧ w'.cell? ⟨a1, 4, none⟩ = some (.int .i64 ((kA l0 a0).f4)) ∧ w'.cell? ⟨a1, 5, none⟩ = some (.int .i64 ((kA l0 a0).f5))) (ds := []) #[false, false, false, false, false, false] (by kernel_rfl) rfl rfl (cz6 a2.out) (fun hHeld => ?_)
  generalize w19.drew = w20 at a2 HB a4 hHeld ⊢
  refine pS (i := 0) (N := some 16) #[true, false, false, false, false, false] ?_
  refine pS (i := 1) (N := some 17) #[true, true, false, false, false, false] ?_
  refine pS (i := 2) (N := some 18) #[true, true, true, false, false, false] ?_
  refine sL (i := 3) (N := some 19) (v := ?_) (a' := ?_) #[true, true, true, true, false, false] rfl rfl (by kernel_rfl) (fun _ _ _ h => h) (Or.inl ⟨by rfl, ?_⟩) hHeld ?_ ?_
  rotate_left
  ·rintro w' ⟨s0, s1, s2, s3, s4, s5⟩
   go_simp
   with_reducible rfl
  rotate_left
  ·exact b0e
  refine a0s (i := 4) (N := some 20) #[true, true, true, true, true, false] rfl rfl (by kernel_rfl) (by decide) (fun K hK => ?_)
  refine a5g Try.func73 (by kernel_rfl) rfl #[.slice (some a3) a5.length c0, .agg #[.int .i64 ((kA l0 a0).f0), .int .i64 ((kA l0 a0).f1), .int .i64 ((kA l0 a0).f2), .int .i64 ((kA l0 a0).f3), .int .i64 ((kA l0 a0).f4), .int .i64 ((kA l0 a0).f5)]] (by rfl) rfl rfl tm ?_
  with_reducible refine (impl_isRight.calls ?side1 ?side2 A9.out).mono ?_
  (case side1 => exact sC (Kd.C_below a4.out HB.out))
  (case side2 => exact a9.out)
  rintro e w22 ⟨rfl, hb⟩
  refine ⟨_, rfl, ?_⟩
  replace a2 := gB a2 hb
  replace HB := hX hb
  clear hb
  refine hK.out _ _ (cz6 a2.out) (fun hHeld => ?_)
  clear hK K
  refine sM (a' := ?_) ?_ ?_
  rotate_left
  ·show Act.put _ (some 20) _ = _
   exact b0e
  refine pS (i := 5) (N := some 21) #[true, true, true, true, true, true] ?_
  refine a1b (by kernel_rfl) ?_
  try go_wp2
  go_ret
  exact ⟨rfl, bW⟩
def yJ (a0 : Int) : Option (Bool) := some true
theorem impl_reached_1.calls (a0 : Int) (r : Bool) (w : World) (h : yJ a0 = some r) :
  Calls Try.prog 112 #[.int .i64 a0] w fun e w' => e = .returned (.bool r) ∧ Below w.heap.size w w' := by
 obtain rfl := oI h
 go_enter Try.func112, Try.ntmps112
 go_wp2
 go_ret
 exact ⟨rfl, by exact Below.refl _ _⟩
mutual
def sT (pf : Int → Option Bool) : Nat → List (S31) → List Bool → Int → Option (List Bool)
 | 0, _, _, _ => none
 | k + 1, x0, x7, x8 => if x8 ≥ 0 then (if 0 ≤ x8 then (if x8 < (x7.length : Int) then (if a0j false x7 x8 = true then ((pf x8).bind fun a4 => (vD pf k x0 x7 x8 (!a4))) else (vD pf k x0 x7 x8 true)) else (none)) else (none)) else (some x7)
def vD (pf : Int → Option Bool) : Nat → List (S31) → List Bool → Int → Bool → Option (List Bool)
 | 0, _, _, _, _ => none
 | k + 1, x0, x7, x8, a5 => if a5 = true then (sT pf k x0 x7 (wrap64 (x8 - 1))) else (if 0 ≤ x8 then (if x8 < (x0.length : Int) then ((xD k ((kA x0 x8).f0) ((kA x0 x8).f1) ((kA x0 x8).f2) ((kA x0 x8).f3) ((kA x0 x8).f4) ((kA x0 x8).f5)).bind fun a2 => (vC pf k x0 x7 x8 a2 (a2.length : Int) 0)) else (none)) else (none))
def vC (pf : Int → Option Bool) : Nat → List (S31) → List Bool → Int → List Int → Int → Int → Option (List Bool)
 | 0, _, _, _, _, _, _ => none
 | k + 1, x0, x7, x8, a1, a3, a0 => if a0 < a3 then (if 0 ≤ a0 then (if a0 < (a1.length : Int) then (if 0 ≤ (rd a1 a0) then (if (rd a1 a0) < (x7.length : Int) then (vC pf k x0 (x7.set ((rd a1 a0) : Int).toNat true) x8 a1 a3 (wrap64 (a0 + 1))) else (none)) else (none)) else (none)) else (none)) else (sT pf k x0 x7 (wrap64 (x8 - 1)))
end
def vX (pf : Int → Option Bool) (k : Nat) (l0 : List (S31)) (a1 : Int) : Option (List Bool) := if 0 ≤ (l0.length : Int) then (if ((l0.length : Int) : Int).toNat ≤ 281474976710656 then ((some (List.replicate ((l0.length : Int) : Int).toNat false : List Bool)).bind fun a0 => (if 0 ≤ a1 then (if a1 < (a0.length : Int) then (sT pf k l0 (a0.set (a1 : Int).toNat true) a1) else (none)) else (none))) else (none)) else (none)
theorem impl_reach.calls (F : Nat) (cp : Array Value) (pf : Int → Option Bool) (k : Nat) (A0 : Option Addr) (c0 : Nat) (l0 : List (S31)) (a1 : Int) (r : List Bool) (w : World) (hr0 : Kd.C k31 w A0 l0.length l0) (hc0 : l0.length ≤ c0) (eg : ∀ args w, (callFunc F args).run Try.prog w = .ok (.enter F args) w) (hp : ∀ (W : World) (i : Int) (b : Bool), Below w.heap.size w W → pf i = some b → Calls Try.prog F (#[.int .i64 i] ++ cp) W fun e w' => e = .returned (.bool b) ∧ Below W.heap.size W w') (h : vX pf k l0 a1 = some r) :
  Calls Try.prog 76 #[.slice A0 l0.length c0, .int .i64 a1, .func (.func F) #[] cp] w fun e w' => ∃ bE : Value, e = .returned (bE) ∧ Kd.R Kd.bool 4 w' w.heap.size (fun _ => True) bE r ∧ Below w.heap.size w w' := by
 have hu31 := Try.underlying31
 have b_ := am hr0
 have cR := am hc0
 have HPF := am hp
 clear hr0 hc0 hp
 have HB := am (Below.refl w.heap.size w)
 have H := h
 clear h
 unfold vX at H
 replace H := iTD H; obtain ⟨bQ, bP, H⟩ := H
 replace H := iTD H; obtain ⟨bO, bN, H⟩ := H
 replace H := oS H; obtain ⟨aI, bD, H⟩ := H
 replace H := iN H; obtain ⟨bM, H⟩ := H
 replace H := iN H; obtain ⟨bL, H⟩ := H
 generalize aR : aI.set (a1 : Int).toNat true = b2 at H
 have bC := am aR.symm; clear aR
 replace H := am H
 go_enter Try.func76, Try.ntmps76
 go_wp2_with (first | ((with_reducible refine pQ (N := 13) rfl ?_); refine Kd.R_make Kd.bool _ 4 rfl (N := 13) rfl 76 _ _ rfl (l0.length : Int) rfl rfl Try.underlying76 (.bool false) 1 a8i rfl (by decide) oM false (ok := fun _ => True) (okp := fun _ => True) rfl (fun _ hk => hk) trivial (oD (by assumption)) (Nat.le_trans (Nat.mul_le_mul_right _ (oD (by assumption) : (l0.length : Int).toNat ≤ 281474976710656)) oM) (Below.refl _ _) (Nat.le_refl _) ?_; intro cN w8 b6 hb hg_ hnew_; clear hg_ hnew_; (rw [← bD.out] at b6); have a9 := rL b6 HB; replace HB := hB HB hb; clear hb b6; have p7 : 0 ≤ (a1 : Int) := oD (by assumption); have q7 : (a1 : Int) < ((aI.length : Int) : Int) := oD (by assumption); obtain ⟨a7, aG, bZ, bG, gl7, cl7, HG7⟩ := Kd.R_form a9.out oM; (cases bZ); have bH := am bG; have GG7 := am HG7; clear bG gl7 HG7; obtain ⟨b7, hf7_0⟩ := Kd.R_celln false a9.out (a1 : Int) p7 q7; replace p7 := eq_true p7; replace q7 := eq_true q7; obtain ⟨cC, hz10_⟩ := Kd.R_celln false a9.out (a1 : Int) (oD (by assumption)) (oD (by assumption)); have aN := Kd.R_putg a9.out (a1 : Int) true) | ((with_reducible refine rO (t := 4) (p := 16) rfl ?_); refine qK (t := 4) (p := 16) (v := ?vo_w11) (w1 := (w8.setCell ⟨a7, (a1 : Int).toNat, none⟩ (.bool true))) ?hg ?ho ?hn ?hr ?_; (case ho => rfl); (case hg => rfl); (case hn => rfl); (case hr => (go_simp; done)); intro w11 hw; have hg : w8.grownBy w11 (some a7) := (by rw [hw]; exact aN.2); have hp_ : Kd.R Kd.bool 4 w11 w.heap.size (fun _ => True) (.slice (some ⟨a7, 0, none⟩) aI.length aG) b2 := (by rw [hw, bC.out]; exact aN.1); clear aN; replace a9 := am hp_; replace HB := am ((by rw [hw]; exact pJ (HB.out) bH.out : Below w.heap.size w w11)); clear hg hw hp_))
 go_loopg [8] k (fun kq v8 w' => ∃ (a4 : List Bool) (a2 : Int), v8 = .int .i64 a2 ∧ Aside0 (sT pf kq l0 a4 a2 = some r) ∧ Aside0 (kq ≤ k) ∧ Aside0 (Kd.R Kd.bool 4 w' w.heap.size (fun _ => True) (.slice (some ⟨a7, 0, none⟩) aI.length aG) a4) ∧ Aside0 (Below w.heap.size w w'))
 case atStart => exact ⟨b2, a1, rfl, H, ⟨Nat.le_refl _⟩, ⟨sR <| a9.out⟩, ⟨sW HB.out⟩⟩
 clear H
 clear bQ bP bO bN bM bL b7; try clear p7; try clear q7; try clear p7; try clear q7
 obtain ⟨a4, a2, rfl, HA, aE, a0, HB⟩ := hrel
 have hl7_1 := (Kd.R_reads' a0.out).1
 rw [hl7_1] at a0
 (try simp only [hl7_1])
 cases gk with
 | zero => cases HA.out
 | succ k1 =>
  obtain ⟨H⟩ := HA
  simp only [sT] at H
  by_cases aH : a2 ≥ 0
  rotate_left
  ·rw [if_neg aH] at H
   have aS : decide (0 ≤ a2) = false := decide_eq_false aH
   clear aH
   obtain rfl := oI H
   go_wp2
   go_ret
   exact ⟨_, rfl, sR <| a0.out, sW HB.out⟩
  rw [if_pos aH] at H
  have aS : decide (0 ≤ a2) = true := decide_eq_true aH
  clear aH
  have aO := am H; clear H
  go_upto_region 6 with (fail)
  go_cut [32] (fun bU wc => ∃ (kq : Nat) (aF : Bool), bU = .bool aF ∧ Aside0 (vD pf kq l0 a4 a2 aF = some r) ∧ Aside0 (kq ≤ k1) ∧ Aside0 (Kd.R Kd.bool 4 wc w.heap.size (fun _ => True) (.slice (some ⟨a7, 0, none⟩) a4.length aG) a4) ∧ Aside0 (Below w.heap.size w wc))
  case first =>
   have H := aO.out
   clear aO
   replace H := iN H; obtain ⟨cJ, H⟩ := H
   replace H := iN H; obtain ⟨cI, H⟩ := H
   generalize hbq16 : a0j false a4 a2 = cQ at H
   have aT := am hbq16.symm; clear hbq16
   replace H := iB H; rcases H with ⟨rfl, H⟩ | ⟨rfl, H⟩
   ·replace H := oA H; obtain ⟨b3, cB, H⟩ := H
    replace H := am H
    have aB : 0 ≤ (a2 : Int) := oD (by assumption)
    have aA : a2 < (a4.length : Int) := oD (by assumption)
    obtain ⟨aJ, aL, a6⟩ := Kd.at_bool (Kd.R_reads' a0.out).2.2 a2 aB aA
    (try rw [← aT.out] at a6)
    obtain rfl : (⟨a7, 0, none⟩ : Addr) = aJ := (by injection aL)
    (simp only [uL] at a6)
    replace aB := eq_true aB
    replace aA := eq_true aA
    go_wp2_with (first | (go_at_fn F; refine (HPF.out _ a2 b3 (by exact sW HB.out) cB.out).mono ?_; rintro e w19 ⟨rfl, hb⟩; replace a0 := rB a0 hb; replace HB := hB HB hb; (try clear hb)))
    go_meet
    case rel => exact ⟨_, (!b3), rfl, H, ⟨by have := aE.out; omega⟩, ⟨by (try simp only [hl7_1]); exact sR <| a0.out⟩, ⟨sW HB.out⟩⟩
   replace H := am H
   have aB : 0 ≤ (a2 : Int) := oD (by assumption)
   have aA : a2 < (a4.length : Int) := oD (by assumption)
   obtain ⟨aJ, aL, a6⟩ := Kd.at_bool (Kd.R_reads' a0.out).2.2 a2 aB aA
   (try rw [← aT.out] at a6)
   obtain rfl : (⟨a7, 0, none⟩ : Addr) = aJ := (by injection aL)
   (simp only [uL] at a6)
   replace aB := eq_true aB
   replace aA := eq_true aA
   go_wp2
   go_meet
   case rel => exact ⟨_, true, rfl, H, ⟨by have := aE.out; omega⟩, ⟨by (try simp only [hl7_1]); exact sR <| a0.out⟩, ⟨sW HB.out⟩⟩
  clear aO
  clear aS
  obtain ⟨kq, aF, rfl, HA, aD, a0, HB⟩ := hcut
  cases kq with
  | zero => cases HA.out
  | succ aK =>
   obtain ⟨H⟩ := HA
   simp only [vD] at H
   replace H := iB H; rcases H with ⟨rfl, H⟩ | ⟨rfl, H⟩
   ·replace H := am H
    go_wp2
    (try simp only [← hl7_1])
    go_roundg aK
    case measure => have := aE.out; have := aD.out; omega
    case rel => exact ⟨a4, (wrap64 (a2 - 1)), rfl, H, ⟨by have := aE.out; have := aD.out; omega⟩, ⟨by (try simp only [hl7_1]); exact sR <| a0.out⟩, ⟨sW HB.out⟩⟩
   replace H := iN H; obtain ⟨bA, H⟩ := H
   replace H := iN H; obtain ⟨b9, H⟩ := H
   replace H := oA H; obtain ⟨a5, c1, H⟩ := H
   replace H := am H
   obtain ⟨bJ, bI, cL, rfl, b0, a_, aZ, aY, aX, aW⟩ := ix (pE (Kd.C_below b_.out HB.out) a2)
   go_wp2_with (first | ((with_reducible refine gW ?_); first | (refine gF 58 (some 37) rfl ?_; refine gT Try.func58 (impl_Parts.calls _ _ _ _ _ _ _ _ _ c1.out) ?_; rintro cM w24 ⟨bF, hb⟩; replace a0 := rB a0 hb; have aU := rL bF HB; replace HB := hB HB hb; (try clear hb); (try clear bF); obtain ⟨bR, bK, rfl⟩ := Kd.R_slice aU.out)))
   go_loopg [39] aK (fun kq bT w' => ∃ (a8 : List Bool) (a3 : Int), bT = .int .i64 a3 ∧ Aside0 (vC pf kq l0 a8 a2 a5 (a5.length : Int) a3 = some r) ∧ Aside0 (kq ≤ aK) ∧ Aside0 (Kd.R Kd.bool 4 w' w.heap.size (fun _ => True) (.slice (some ⟨a7, 0, none⟩) a4.length aG) a8) ∧ Aside0 (Kd.R (Kd.int .i64) 3 w' w.heap.size (fun _ => True) (.slice bR a5.length bK) a5) ∧ Aside0 (Below w.heap.size w w'))
   case atStart => exact ⟨a4, 0, rfl, H, ⟨Nat.le_refl _⟩, ⟨by (try simp only [hl7_1]); exact sR <| a0.out⟩, ⟨by (try simp only [hl7_1]); exact sR <| aU.out⟩, ⟨sW HB.out⟩⟩
   clear H
   clear bA b9 b0 a_ aZ aY aX aW bJ bI
   obtain ⟨a8, a3, rfl, HA, aV, a0, aC, HB⟩ := hrel
   have hl7_3 := (Kd.R_reads' a0.out).1
   rw [hl7_3] at a0
   (try simp only [hl7_3])
   (try simp only [hl7_3] at aC)
   cases gk with
   | zero => cases HA.out
   | succ k3 =>
    obtain ⟨H⟩ := HA
    simp only [vC] at H
    replace H := iD H; rcases H with ⟨b8, H⟩ | ⟨b8, H⟩
    ·replace H := iN H; obtain ⟨cH, H⟩ := H
     replace H := iN H; obtain ⟨cG, H⟩ := H
     replace H := iN H; obtain ⟨cF, H⟩ := H
     replace H := iN H; obtain ⟨cE, H⟩ := H
     generalize aQ : a8.set ((rd a5 a3) : Int).toNat true = b1 at H
     have bB := am aQ.symm; clear aQ
     replace H := am H
     obtain ⟨cP, cO, cK, rfl, bS⟩ := ix (Kd.at_int (Kd.R_reads' aC.out).2.2 a3)
     have b5 : 0 ≤ ((rd a5 a3) : Int) := oD (by assumption)
     have b4 : ((rd a5 a3) : Int) < ((a8.length : Int) : Int) := oD (by assumption)
     obtain ⟨bV, hf31_0⟩ := Kd.R_celln false a0.out ((rd a5 a3) : Int) b5 b4
     replace b5 := eq_true b5
     replace b4 := eq_true b4
     have aM := Kd.R_putg a0.out ((rd a5 a3) : Int) true
     go_wp2_with (first | ((with_reducible refine rO (t := 4) (p := 45) rfl ?_); refine qK (t := 4) (p := 45) (v := ?vo_w33) (w1 := (wr.setCell ⟨a7, ((rd a5 a3) : Int).toNat, none⟩ (.bool true))) ?hg ?ho ?hn ?hr ?_; (case ho => rfl); (case hg => rfl); (case hn => rfl); (case hr => (go_simp; done)); intro w33 hw; have hg : wr.grownBy w33 (some a7) := (by rw [hw]; exact aM.2); have hp_ : Kd.R Kd.bool 4 w33 w.heap.size (fun _ => True) (.slice (some ⟨a7, 0, none⟩) a8.length aG) b1 := (by rw [hw, bB.out]; exact aM.1); clear aM; replace aC := am (Kd.R_over' (v := (.slice (some ⟨a7, 0, none⟩) a8.length aG)) (by exact sR <| aC.out) (Kd.R_typed a0.out) (by decide) hg); replace a0 := am hp_; replace HB := am ((by rw [hw]; exact pJ (HB.out) bH.out : Below w.heap.size w w33)); clear hg hw hp_))
     (try simp only [← hl7_3])
     go_roundg k3
     case measure => have := aE.out; have := aD.out; have := aV.out; omega
     case rel => exact ⟨b1, (wrap64 (a3 + 1)), rfl, H, ⟨by have := aE.out; have := aD.out; have := aV.out; omega⟩, ⟨by (try simp only [hl7_1]); (try simp only [hl7_3]); exact sR <| a0.out⟩, ⟨by (try simp only [hl7_1]); (try simp only [hl7_3]); exact sR <| aC.out⟩, ⟨sW HB.out⟩⟩
    replace H := am H
    go_wp2
    (try simp only [← hl7_1, ← hl7_3])
    go_roundg k3
    case measure => have := aE.out; have := aD.out; have := aV.out; omega
    case rel => exact ⟨a8, (wrap64 (a2 - 1)), rfl, H, ⟨by have := aE.out; have := aD.out; have := aV.out; omega⟩, ⟨by (try simp only [hl7_1]); (try simp only [hl7_3]); exact sR <| a0.out⟩, ⟨sW HB.out⟩⟩
@[reducible] def b9s : Array Bool := #[false, false, false, false, false, false, false, false, false, false, false, false, false, false, false, false]
@[reducible] def b9q : Array Bool := #[false, true, false, false, false, false, false, false, false, false, false, false, false, false, false, false]
@[reducible] def b9o : Array Bool := #[true, true, false, false, false, false, false, false, false, false, false, false, false, false, false, false]
@[reducible] def b9m : Array Bool := #[true, true, true, false, false, false, false, false, false, false, false, false, false, false, false, false]
@[reducible] def b9k : Array Bool := #[true, true, true, true, false, false, false, false, false, false, false, false, false, false, false, false]
@[reducible] def b9i : Array Bool := #[true, true, true, true, true, false, false, false, false, false, false, false, false, false, false, false]
@[reducible] def b9g : Array Bool := #[true, true, true, true, true, true, false, false, false, false, false, false, false, false, false, false]
@[reducible] def b9e : Array Bool := #[true, true, true, true, true, true, true, false, false, false, false, false, false, false, false, false]
@[reducible] def c4o : Array Bool := #[true, true, true, true, true, true, true, false, true, false, false, false, false, false, false, false]
@[reducible] def b9c : Array Bool := #[true, true, true, true, true, true, true, true, true, false, false, false, false, false, false, false]
@[reducible] def b3k : Array Bool := #[true, true, true, true, true, true, true, true, true, true, false, false, false, false, false, false]
@[reducible] def b3j : Array Bool := #[true, true, true, true, true, true, true, true, true, true, true, false, false, false, false, false]
@[reducible] def b3i : Array Bool := #[true, true, true, true, true, true, true, true, true, true, true, true, false, false, false, false]
@[reducible] def b3h : Array Bool := #[true, true, true, true, true, true, true, true, true, true, true, true, true, false, false, false]
@[reducible] def b3f : Array Bool := #[true, true, true, true, true, true, true, true, true, true, true, true, true, true, false, false]
@[reducible] def c1r : Array Bool := #[true, true, true, true, true, true, true, true, true, true, true, true, true, true, true, false]
@[reducible] def c1p : Array Bool := #[true, true, true, true, true, true, true, true, true, true, true, true, true, true, true, true]
@[reducible] def c1m : Array Bool := #[true, true, true, true, true, true, true, true, false, false, false, false, false, false, false, false]
def vY (l0 : List (S31)) (v i : Int) : Option Bool := if 0 ≤ i then (if i < (l0.length : Int) then some (!(((kA l0 i).f0 == 19) || ((kA l0 i).f0 == 20)) || ((kA l0 i).f2 != v)) else none) else none
theorem zJ (a b c d e f : Int) : qQ a b c d e f = some ((a == 19) || (a == 20)) := by
 unfold qQ
 by_cases h : a = 19
 ·rw [if_pos h]; simp [h]
 ·rw [if_neg h]; simp [h]
theorem yK {P : Prop} (h : P := by
 simp only [Act.put, List.setIfInBounds_toArray, List.set_cons_zero, List.set_cons_succ, vE, a3o]
 rfl) : P := h
theorem b8f {P : Prop} (h : P := by
 refine pS (i := 14) (N := some 19) c1r ?_
 refine pS (i := 15) (N := some 4) c1p ?_
 refine a1b (by kernel_rfl) ?_
 go_wp2
 go_ret
 exact ⟨by rw [← H.out] <;> rfl, HB3.out⟩) : P := h
set_option maxHeartbeats 2000000 in
theorem impl_freeAt_1.calls (A0 : Option Addr) (c0 : Nat) (l0 : List (S31)) (v i : Int) (b : Bool) (g1 g2 : Nat) (w : World) (hr0 : Kd.C k31 w A0 l0.length l0) (hc0 : l0.length ≤ c0)
  (b1 : w.cell? ⟨g1, 0, none⟩ = some (.slice A0 l0.length c0)) (b2 : w.cell? ⟨g2, 0, none⟩ = some (.int .i64 v)) (h : vY l0 v i = some b) :
  Calls Try.prog 111 #[.int .i64 i, .pointer (some ⟨g1, 0, none⟩), .pointer (some ⟨g2, 0, none⟩)] w fun e w' => e = .returned (.bool b) ∧ Below w.heap.size w w' := by
 unfold vY at h
 by_cases p1 : 0 ≤ i
 rotate_left
 ·rw [if_neg p1] at h; exact absurd h (by simp)
 rw [if_pos p1] at h
 by_cases p2 : i < (l0.length : Int)
 rotate_left
 ·rw [if_neg p2] at h; exact absurd h (by simp)
 rw [if_pos p2] at h
 replace h := oI h
 obtain ⟨a0, e0, y0, y1, y2, y3, y4, y5⟩ := pE hr0 i p1 p2
 cases e0
 have a1 := am hr0
 have a2 := am hc0
 clear hr0 hc0
 generalize (kA l0 i).f0 = op at *
 generalize (kA l0 i).f1 = W at *
 generalize (kA l0 i).f2 = Kq at *
 generalize (kA l0 i).f3 = A at *
 generalize (kA l0 i).f4 = B at *
 generalize (kA l0 i).f5 = Cq at *
 obtain ⟨q, hq⟩ : ∃ q : Bool, ((op == 19) || (op == 20)) = q := ⟨_, rfl⟩
 rw [hq] at h
 have HQ := am hq
 clear hq
 have H := am h
 clear h
 have t1 : decide (0 ≤ i) = true := decide_eq_true p1
 have t2 : decide (i < (l0.length : Int)) = true := decide_eq_true p2
 cases q with
 | true =>
  go_enter Try.func111, Try.ntmps111
  go_wp2
  refine wT (n := 16) (S := fun w' => w'.cell? ⟨g1, 0, none⟩ = some (.slice (some a0) l0.length c0) ∧ w'.cell? ⟨g2, 0, none⟩ = some (.int .i64 v) ∧ w'.cell? (a0.add (i.toNat * 6)) = some (.int .i64 op) ∧ w'.cell? ⟨(a0.add (i.toNat * 6)).block, (a0.add (i.toNat * 6)).off + 1, none⟩ = some (.int .i64 W) ∧ w'.cell? ⟨(a0.add (i.toNat * 6)).block, (a0.add (i.toNat * 6)).off + 2, none⟩ = some (.int .i64 Kq) ∧ w'.cell? ⟨(a0.add (i.toNat * 6)).block, (a0.add (i.toNat * 6)).off + 3, none⟩ = some (.int .i64 A) ∧ w'.cell? ⟨(a0.add (i.toNat * 6)).block, (a0.add (i.toNat * 6)).off + 4, none⟩ = some (.int .i64 B) ∧ w'.cell? ⟨(a0.add (i.toNat * 6)).block, (a0.add (i.toNat * 6)).off + 5, none⟩ = some (.int .i64 Cq)) (ds := []) b9s (by kernel_rfl) rfl rfl ⟨b1, b2, y0, y1, y2, y3, y4, y5⟩ (fun hHeld => ?_)
  refine pS (i := 1) (N := some 6) b9q ?_
  refine sL (i := 0) (N := some 5) (v := ?_) (a' := ?_) b9o rfl rfl (by kernel_rfl) (fun _ _ _ h => h) (Or.inl ⟨by rfl, ?_⟩) hHeld ?_ ?_
  rotate_left
  ·rintro w' ⟨s0, s1, s2, s3, s4, s5, s6, s7⟩
   go_simp
   with_reducible rfl
  rotate_left
  ·exact yK
  refine pS (i := 2) (N := some 7) b9m ?_
  refine sL (i := 3) (N := some 8) (v := ?_) (a' := ?_) b9k rfl rfl (by kernel_rfl) (fun _ _ _ h => h) (Or.inl ⟨by rfl, ?_⟩) hHeld ?_ ?_
  rotate_left
  ·rintro w' ⟨s0, s1, s2, s3, s4, s5, s6, s7⟩
   go_simp
   with_reducible rfl
  rotate_left
  ·exact yK
  refine a0s (i := 4) (N := some 9) b9i rfl rfl (by kernel_rfl) (by decide) (fun K hK => ?_)
  refine a5g Try.func53 (by kernel_rfl) rfl #[.agg #[.int .i64 op, .int .i64 W, .int .i64 Kq, .int .i64 A, .int .i64 B, .int .i64 Cq]] (by rfl) rfl rfl (by simp only [List.map_toArray, List.map_cons, List.map_nil]; rfl) ?_
  with_reducible refine (impl_isQuant.calls true _ (by rw [zJ, HQ.out])).mono ?_
  rintro e w3 ⟨rfl, hb⟩
  refine ⟨_, rfl, ?_⟩
  have HB3 := am (show Below w.heap.size w w3 from Below.trans (by apply kM; exact Below.refl _ _) (hb.mono (by simp)))
  clear hb
  refine hK.out _ _ ⟨(kC HB3.out b1), (kC HB3.out b2), (kC HB3.out y0), (kC HB3.out y1), (kC HB3.out y2), (kC HB3.out y3), (kC HB3.out y4), (kC HB3.out y5)⟩ (fun hHeld => ?_)
  clear hK K
  refine sM (a' := ?_) ?_ ?_
  rotate_left
  ·show Act.put _ (some 9) _ = _
   exact yK
  refine pS (i := 5) (N := some 10) b9g ?_
  refine pS (i := 6) (N := some 11) b9e ?_
  refine pS (i := 8) (N := some 13) c4o ?_
  refine sL (i := 7) (N := some 12) (v := ?_) (a' := ?_) b9c rfl rfl (by kernel_rfl) (fun _ _ _ h => h) (Or.inl ⟨by rfl, ?_⟩) hHeld ?_ ?_
  rotate_left
  ·rintro w' ⟨s0, s1, s2, s3, s4, s5, s6, s7⟩
   go_simp
   with_reducible rfl
  rotate_left
  ·exact yK
  refine pS (i := 9) (N := some 14) b3k ?_
  refine pS (i := 10) (N := some 15) b3j ?_
  refine sL (i := 11) (N := some 16) (v := ?_) (a' := ?_) b3i rfl rfl (by kernel_rfl) (fun _ _ _ h => h) (Or.inl ⟨by rfl, ?_⟩) hHeld ?_ ?_
  rotate_left
  ·rintro w' ⟨s0, s1, s2, s3, s4, s5, s6, s7⟩
   go_simp
   with_reducible rfl
  rotate_left
  ·exact yK
  refine sL (i := 12) (N := some 17) (v := ?_) (a' := ?_) b3h rfl rfl (by kernel_rfl) (fun _ _ _ h => h) (Or.inl ⟨by rfl, ?_⟩) hHeld ?_ ?_
  rotate_left
  ·rintro w' ⟨s0, s1, s2, s3, s4, s5, s6, s7⟩
   go_simp
   with_reducible rfl
  rotate_left
  ·exact yK
  refine pS (i := 13) (N := some 18) b3f ?_
  exact b8f
 | false =>
  go_enter Try.func111, Try.ntmps111
  go_wp2
  refine wT (n := 16) (S := fun w' => w'.cell? ⟨g1, 0, none⟩ = some (.slice (some a0) l0.length c0) ∧ w'.cell? ⟨g2, 0, none⟩ = some (.int .i64 v) ∧ w'.cell? (a0.add (i.toNat * 6)) = some (.int .i64 op) ∧ w'.cell? ⟨(a0.add (i.toNat * 6)).block, (a0.add (i.toNat * 6)).off + 1, none⟩ = some (.int .i64 W) ∧ w'.cell? ⟨(a0.add (i.toNat * 6)).block, (a0.add (i.toNat * 6)).off + 2, none⟩ = some (.int .i64 Kq) ∧ w'.cell? ⟨(a0.add (i.toNat * 6)).block, (a0.add (i.toNat * 6)).off + 3, none⟩ = some (.int .i64 A) ∧ w'.cell? ⟨(a0.add (i.toNat * 6)).block, (a0.add (i.toNat * 6)).off + 4, none⟩ = some (.int .i64 B) ∧ w'.cell? ⟨(a0.add (i.toNat * 6)).block, (a0.add (i.toNat * 6)).off + 5, none⟩ = some (.int .i64 Cq)) (ds := []) b9s (by kernel_rfl) rfl rfl ⟨b1, b2, y0, y1, y2, y3, y4, y5⟩ (fun hHeld => ?_)
  refine pS (i := 1) (N := some 6) b9q ?_
  refine sL (i := 0) (N := some 5) (v := ?_) (a' := ?_) b9o rfl rfl (by kernel_rfl) (fun _ _ _ h => h) (Or.inl ⟨by rfl, ?_⟩) hHeld ?_ ?_
  rotate_left
  ·rintro w' ⟨s0, s1, s2, s3, s4, s5, s6, s7⟩
   go_simp
   with_reducible rfl
  rotate_left
  ·exact yK
  refine pS (i := 2) (N := some 7) b9m ?_
  refine sL (i := 3) (N := some 8) (v := ?_) (a' := ?_) b9k rfl rfl (by kernel_rfl) (fun _ _ _ h => h) (Or.inl ⟨by rfl, ?_⟩) hHeld ?_ ?_
  rotate_left
  ·rintro w' ⟨s0, s1, s2, s3, s4, s5, s6, s7⟩
   go_simp
   with_reducible rfl
  rotate_left
  ·exact yK
  refine a0s (i := 4) (N := some 9) b9i rfl rfl (by kernel_rfl) (by decide) (fun K hK => ?_)
  refine a5g Try.func53 (by kernel_rfl) rfl #[.agg #[.int .i64 op, .int .i64 W, .int .i64 Kq, .int .i64 A, .int .i64 B, .int .i64 Cq]] (by rfl) rfl rfl (by simp only [List.map_toArray, List.map_cons, List.map_nil]; rfl) ?_
  with_reducible refine (impl_isQuant.calls false _ (by rw [zJ, HQ.out])).mono ?_
  rintro e w3 ⟨rfl, hb⟩
  refine ⟨_, rfl, ?_⟩
  have HB3 := am (show Below w.heap.size w w3 from Below.trans (by apply kM; exact Below.refl _ _) (hb.mono (by simp)))
  clear hb
  refine hK.out _ _ ⟨(kC HB3.out b1), (kC HB3.out b2), (kC HB3.out y0), (kC HB3.out y1), (kC HB3.out y2), (kC HB3.out y3), (kC HB3.out y4), (kC HB3.out y5)⟩ (fun hHeld => ?_)
  clear hK K
  refine sM (a' := ?_) ?_ ?_
  rotate_left
  ·show Act.put _ (some 9) _ = _
   exact yK
  refine pS (i := 5) (N := some 10) b9g ?_
  refine pS (i := 6) (N := some 11) b9e ?_
  refine qX (i := 7) (N := some 12) (v := undef) (a' := ?_) c1m rfl rfl (by kernel_rfl) (fun _ _ _ h => h) (Or.inr ⟨by rfl, rfl⟩) ?_ ?_
  rotate_left
  ·exact yK
  refine qX (i := 8) (N := some 13) (v := undef) (a' := ?_) b9c rfl rfl (by kernel_rfl) (fun _ _ _ h => h) (Or.inr ⟨by rfl, rfl⟩) ?_ ?_
  rotate_left
  ·exact yK
  refine qX (i := 9) (N := some 14) (v := undef) (a' := ?_) b3k rfl rfl (by kernel_rfl) (fun _ _ _ h => h) (Or.inr ⟨by rfl, rfl⟩) ?_ ?_
  rotate_left
  ·exact yK
  refine qX (i := 10) (N := some 15) (v := undef) (a' := ?_) b3j rfl rfl (by kernel_rfl) (fun _ _ _ h => h) (Or.inr ⟨by rfl, rfl⟩) ?_ ?_
  rotate_left
  ·exact yK
  refine qX (i := 11) (N := some 16) (v := undef) (a' := ?_) b3i rfl rfl (by kernel_rfl) (fun _ _ _ h => h) (Or.inr ⟨by rfl, rfl⟩) ?_ ?_
  rotate_left
  ·exact yK
  refine qX (i := 12) (N := some 17) (v := undef) (a' := ?_) b3h rfl rfl (by kernel_rfl) (fun _ _ _ h => h) (Or.inr ⟨by rfl, rfl⟩) ?_ ?_
  rotate_left
  ·exact yK
  refine qX (i := 13) (N := some 18) (v := undef) (a' := ?_) b3f rfl rfl (by kernel_rfl) (fun _ _ _ h => h) (Or.inr ⟨by rfl, rfl⟩) ?_ ?_
  rotate_left
  ·exact yK
  exact b8f
def yO (k : Nat) (l0 : List (S31)) (a1 : Int) : Option (List Bool) := vX (vY l0 a1) k l0 (wrap64 ((l0.length : Int) - 1))
set_option maxHeartbeats 2000000 in
theorem impl_freeAt.calls (k : Nat) (A0 : Option Addr) (c0 : Nat) (l0 : List (S31)) (a1 : Int) (r : List Bool) (w : World) (hr0 : Kd.C k31 w A0 l0.length l0) (hc0 : l0.length ≤ c0) (h : yO k l0 a1 = some r) :
  Calls Try.prog 74 #[.slice A0 l0.length c0, .int .i64 a1] w fun e w' => ∃ a0 : Value, e = .returned (a0) ∧ Kd.R Kd.bool 4 w' w.heap.size (fun _ => True) a0 r ∧ Below w.heap.size w w' := by
 have a3 := am hr0
 have a2 := am hc0
 have H := am h
 clear hr0 hc0 h
 have hmf : ∀ (fn : Fn) (first cap : Array Value) (w : World), (Instr.makeFunc fn first cap).run Try.prog w = .ok (.func fn first cap) w := fun _ _ _ _ => rfl
 go_enter Try.func74, Try.ntmps74
 go_wp2_with fail
 have hb0 : Below w.heap.size w ((w.alloc (Obj.cells #[Value.slice A0 l0.length c0] 24)).alloc (Obj.cells #[Value.int IntKind.i64 a1] 3)) := kN (kN (Below.refl _ _) _) _
 have h1 : ((w.alloc (Obj.cells #[Value.slice A0 l0.length c0] 24)).alloc (Obj.cells #[Value.int IntKind.i64 a1] 3)).heap[w.heap.size]? = some (Obj.cells #[Value.slice A0 l0.length c0] 24) := kY (heap_alloc_new w _) _
 have h2 : ((w.alloc (Obj.cells #[Value.slice A0 l0.length c0] 24)).alloc (Obj.cells #[Value.int IntKind.i64 a1] 3)).heap[w.heap.size + 1]? = some (Obj.cells #[Value.int IntKind.i64 a1] 3) := by
  have := heap_alloc_new (w.alloc (Obj.cells #[Value.slice A0 l0.length c0] 24)) (Obj.cells #[Value.int IntKind.i64 a1] 3)
  rwa [show (w.alloc (Obj.cells #[Value.slice A0 l0.length c0] 24)).heap.size = w.heap.size + 1 from by simp] at this
 have hC := Kd.C_alloc (Kd.C_alloc a3.out (Obj.cells #[Value.slice A0 l0.length c0] 24)) (Obj.cells #[Value.int IntKind.i64 a1] 3)
 refine (impl_reach.calls 111 #[.pointer (some ⟨w.heap.size, 0, none⟩), .pointer (some ⟨w.heap.size + 1, 0, none⟩)] (vY l0 a1) k A0 c0 l0 (wrap64 ((l0.length : Int) - 1)) r _ hC a2.out (fun _ _ => rfl) ?hp H.out).mono ?_
 case hp =>
  intro W i b hW hb
  exact impl_freeAt_1.calls A0 c0 l0 a1 i b w.heap.size (w.heap.size + 1) W (Kd.C_below hC hW) a2.out ((kH (kR h1 hW) 0).trans rfl) ((kH (kR h2 hW) 0).trans rfl) hb
 rintro e w' ⟨v0, rfl, HO, hb⟩
 have a4 := am (Kd.R_lower HO (kE hb0))
 have HB2 := am (hb0.trans (hb.mono (kE hb0)))
 clear HO hb h1 h2 hC hb0
 go_wp2
 go_ret
 exact ⟨v0, rfl, a4.out, HB2.out⟩
def vP (k : Nat) (l0 : List (S31)) : Option (List Bool) := (vX yJ k l0 (wrap64 ((l0.length : Int) - 1))).bind fun a0 => (some a0)
theorem impl_reached.calls (k : Nat) (A0 : Option Addr) (c0 : Nat) (l0 : List (S31)) (r : List Bool) (w : World) (hr0 : Kd.C k31 w A0 l0.length l0) (hc0 : l0.length ≤ c0) (h : vP k l0 = some r) :
  Calls Try.prog 75 #[.slice A0 l0.length c0] w fun e w' => ∃ a1 : Value, e = .returned (a1) ∧ Kd.R Kd.bool 4 w' w.heap.size (fun _ => True) a1 r ∧ Below w.heap.size w w' := by
 have a3 := am hr0
 have a4 := am hc0
 clear hr0 hc0
 have HB := am (Below.refl w.heap.size w)
 have H := h
 clear h
 unfold vP at H
 replace H := oA H; obtain ⟨a6, A2, H⟩ := H
 obtain rfl := oI H
 go_enter Try.func75, Try.ntmps75
 go_wp2_with (first | ((with_reducible refine gW ?_); first | (refine gC 76 (some 7) Try.func76 #[.slice A0 l0.length c0, .int .i64 (wrap64 ((l0.length : Int) - 1)), .func (.func 112) #[] #[]] ?_; (with_reducible refine (impl_reach.calls _ _ _ _ _ _ _ _ _ _ ?side1 ?side2 ?eg ?hp A2.out).mono ?_); (case eg => exact fun _ _ => rfl); (case hp => intro W i b _ h_; refine (impl_reached_1.calls i b W h_).mono ?_; exact fun _ _ h => h); (case side1 => repeat (first | exact a3.out | (with_reducible refine Kd.C_alloc ?_ _) | (with_reducible refine Kd.C_drewN ?_ _) | (with_reducible refine Kd.C_drew ?_))); (case side2 => exact a4.out); rintro e w3 ⟨a5, rfl, a2, hb⟩; refine ⟨_, rfl, ?_⟩; have a0 := rL a2 HB; replace HB := hB HB hb; (try clear hb); (try clear a2))))
 go_ret
 exact ⟨_, rfl, sR <| a0.out, sW HB.out⟩
end Go.Proofs.Ytkpipmojkhikaaa.PAll
