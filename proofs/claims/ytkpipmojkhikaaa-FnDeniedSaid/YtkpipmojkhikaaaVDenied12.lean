/- Written by a program of this session over the loaded program, and by hand: Go functions as plain Lean functions, and that a call comes to what they say. -/
import Derived.Test.YtkpipmojkhikaaaVDenied0
import Derived.Test.YtkpipmojkhikaaaVDenied9
import Derived.Test.YtkpipmojkhikaaaVDenied10
import Derived.Test.YtkpipmojkhikaaaVDenied11
import Derived.Test.YtkpipmojkhikaaaBase
import Derived.Test.YtkpipmojkhikaaaSq
namespace Go.Proofs.Ytkpipmojkhikaaa.PAll
open Go.RowKit Go.Proofs.YtkpipmojkhikaaaW.PrintWords Go.Proofs.YtkpipmojkhikaaaW.PrintLast Go.Proofs.YtkpipmojkhikaaaW.PrintMore Go.Proofs.YtkpipmojkhikaaaW.Sq
attribute [local go_sem] qZ qX sT sS qC qB qY qW
set_option linter.unusedVariables false
set_option maxHeartbeats 8000000
set_option maxRecDepth 100000
set_option linter.unusedSimpArgs false
def tO : Nat → List (S31) → List (S31) → Int → Int → Option (Bool)
 | 0, _, _, _, _ => none
 | k + 1, x0, x9, a1, a0 => if a0 < a1 then (if 0 ≤ a0 then (if a0 < (x9.length : Int) then (if a0 ≤ (x0.length : Int) then ((a1l (x0.take (a0 : Int).toNat) ((kA x9 a0).f0) ((kA x9 a0).f1) ((kA x9 a0).f2) ((kA x9 a0).f3) ((kA x9 a0).f4) ((kA x9 a0).f5)).bind fun a2 => (if a2 = true then (tO k x0 x9 a1 (wrap64 (a0 + 1))) else (some false))) else (none)) else (none)) else (none)) else (some true)
def tH (k : Nat) (l0 : List (S31)) : Option (Bool) := (qD (l0.length : Int) 1 80).bind fun a0 => (if a0 = true then (tO k l0 l0 (l0.length : Int) 0) else (some false))
theorem b0s {P : Prop} (h : P := by
 simp only [Act.put, List.setIfInBounds_toArray, List.set_cons_zero, List.set_cons_succ, vY, a5f]
 rfl) : P := h
theorem impl_TermOk.calls (k : Nat) (A0 : Option Addr) (c0 : Nat) (l0 : List (S31)) (r : Bool) (w : World) (hr0 : Kd.C k31 w A0 l0.length l0) (hc0 : l0.length ≤ c0) (h : tH k l0 = some r) :
  Calls Try.prog 44 #[.slice A0 l0.length c0] w fun e w' => e = .returned (.bool r) ∧ Below w.heap.size w w' := by
 have hu31 := Try.underlying31
 have aD := am hr0
 have aQ := am hc0
 clear hr0 hc0
 have HB := am (Below.refl w.heap.size w)
 have H := h
 clear h
 unfold tH at H
 replace H := oA H; obtain ⟨aY, A2, H⟩ := H
 replace H := iB H; rcases H with ⟨rfl, H⟩ | ⟨rfl, H⟩
 rotate_left
 ·obtain rfl := oI H
  go_enter Try.func44, Try.ntmps44
  go_wp2_with (first | ((with_reducible refine gW ?_); first | (refine gD (some 7) Try.func72 rfl (impl_within.calls A2.out) fun nd => ?_)))
  go_ret
  exact ⟨rfl, sW HB.out⟩
 replace H := am H
 go_enter Try.func44, Try.ntmps44
 go_wp2_with (first | ((with_reducible refine gW ?_); first | (refine gD (some 7) Try.func72 rfl (impl_within.calls A2.out) fun nd => ?_)))
 go_loopg [11] k (fun kq aW w' => ∃ (a0 : Int), aW = .int .i64 a0 ∧ Aside0 (tO kq l0 l0 (l0.length : Int) a0 = some r) ∧ Aside0 (kq ≤ k) ∧ Aside0 (Below w.heap.size w w'))
 case atStart => exact ⟨0, rfl, H, ⟨Nat.le_refl _⟩, ⟨sW HB.out⟩⟩
 clear H
 obtain ⟨a0, rfl, HA, aO, HB⟩ := hrel
 cases gk with
 | zero => cases HA.out
 | succ k1 =>
  obtain ⟨H⟩ := HA
  simp only [tO] at H
  replace H := iD H; rcases H with ⟨aT, H⟩ | ⟨aT, H⟩
  rotate_left
  ·obtain rfl := oI H
   go_wp2
   go_ret
   exact ⟨rfl, sW HB.out⟩
  replace H := iN H; obtain ⟨b2, H⟩ := H
  replace H := iN H; obtain ⟨b1, H⟩ := H
  have b0 := eq_true (oD (by assumption) : 0 ≤ a0)
  replace H := iTD H; obtain ⟨a_, aZ, H⟩ := H
  generalize aC : l0.take (a0 : Int).toNat = a5 at H
  have a6 := am aC.symm; clear aC
  replace H := oA H; obtain ⟨aX, A9, H⟩ := H
  replace H := iB H; rcases H with ⟨rfl, H⟩ | ⟨rfl, H⟩
  ·replace H := am H
   obtain ⟨aS, aR, a3, rfl, aJ, aI, aH, aG, aF, aE⟩ := ix (oZ (Kd.C_below aD.out HB.out) a0)
   try go_wp2_with (first | ((with_reducible refine gW ?_); first | (refine bX 4 31 #[.int .i64 0, .int .i64 0, .int .i64 0, .int .i64 0, .int .i64 0, .int .i64 0] ?_; intro a1 hg w11 hbox hb; have a2 := am hbox; have aM := gw hg; have aN := gw hg; replace HB := hB HB hb; clear hb hbox hg; have aV := cf6 a2.out)))
   have a8 : Aside0 (((((((w11.setCell ⟨a1, 0, none⟩ (.int .i64 ((kA l0 a0).f0))).setCell ⟨a1, 1, none⟩ (.int .i64 ((kA l0 a0).f1))).setCell ⟨a1, 2, none⟩ (.int .i64 ((kA l0 a0).f2))).setCell ⟨a1, 3, none⟩ (.int .i64 ((kA l0 a0).f3))).setCell ⟨a1, 4, none⟩ (.int .i64 ((kA l0 a0).f4))).setCell ⟨a1, 5, none⟩ (.int .i64 ((kA l0 a0).f5))).heap[a1]? = some (.cells #[.int .i64 ((kA l0 a0).f0), .int .i64 ((kA l0 a0).f1), .int .i64 ((kA l0 a0).f2), .int .i64 ((kA l0 a0).f3), .int .i64 ((kA l0 a0).f4), .int .i64 ((kA l0 a0).f5)] 31 (0, 0))) := ⟨by (with_reducible repeat (first | refine pG ?_ _ | refine pB ?_ | refine pD ?_ _)); refine pN (cs := #[.int .i64 ((kA l0 a0).f0), .int .i64 ((kA l0 a0).f1), .int .i64 ((kA l0 a0).f2), .int .i64 ((kA l0 a0).f3), .int .i64 ((kA l0 a0).f4), .int .i64 0]) ?_ 5 _ rfl; (with_reducible repeat (first | refine pG ?_ _ | refine pB ?_ | refine pD ?_ _)); refine pN (cs := #[.int .i64 ((kA l0 a0).f0), .int .i64 ((kA l0 a0).f1), .int .i64 ((kA l0 a0).f2), .int .i64 ((kA l0 a0).f3), .int .i64 0, .int .i64 0]) ?_ 4 _ rfl; (with_reducible repeat (first | refine pG ?_ _ | refine pB ?_ | refine pD ?_ _)); refine pN (cs := #[.int .i64 ((kA l0 a0).f0), .int .i64 ((kA l0 a0).f1), .int .i64 ((kA l0 a0).f2), .int .i64 0, .int .i64 0, .int .i64 0]) ?_ 3 _ rfl; (with_reducible repeat (first | refine pG ?_ _ | refine pB ?_ | refine pD ?_ _)); refine pN (cs := #[.int .i64 ((kA l0 a0).f0), .int .i64 ((kA l0 a0).f1), .int .i64 0, .int .i64 0, .int .i64 0, .int .i64 0]) ?_ 2 _ rfl; (with_reducible repeat (first | refine pG ?_ _ | refine pB ?_ | refine pD ?_ _)); refine pN (cs := #[.int .i64 ((kA l0 a0).f0), .int .i64 0, .int .i64 0, .int .i64 0, .int .i64 0, .int .i64 0]) ?_ 1 _ rfl; (with_reducible repeat (first | refine pG ?_ _ | refine pB ?_ | refine pD ?_ _)); refine pN (cs := #[.int .i64 0, .int .i64 0, .int .i64 0, .int .i64 0, .int .i64 0, .int .i64 0]) ?_ 0 _ rfl; exact sB <| a2.out⟩
   have a7 : Aside0 (Below w.heap.size w ((((((w11.setCell ⟨a1, 0, none⟩ (.int .i64 ((kA l0 a0).f0))).setCell ⟨a1, 1, none⟩ (.int .i64 ((kA l0 a0).f1))).setCell ⟨a1, 2, none⟩ (.int .i64 ((kA l0 a0).f2))).setCell ⟨a1, 3, none⟩ (.int .i64 ((kA l0 a0).f3))).setCell ⟨a1, 4, none⟩ (.int .i64 ((kA l0 a0).f4))).setCell ⟨a1, 5, none⟩ (.int .i64 ((kA l0 a0).f5)))) := ⟨by exact bW⟩
   clear a2
   clear HB
   generalize ((((((w11.setCell ⟨a1, 0, none⟩ (.int .i64 ((kA l0 a0).f0))).setCell ⟨a1, 1, none⟩ (.int .i64 ((kA l0 a0).f1))).setCell ⟨a1, 2, none⟩ (.int .i64 ((kA l0 a0).f2))).setCell ⟨a1, 3, none⟩ (.int .i64 ((kA l0 a0).f3))).setCell ⟨a1, 4, none⟩ (.int .i64 ((kA l0 a0).f4))).setCell ⟨a1, 5, none⟩ (.int .i64 ((kA l0 a0).f5))) = w13 at a8 a7 ⊢
   have a2 := a8
   have HB := a7
   clear a8 a7
   replace a2 := am (pB a2.out)
   replace HB := am (kV HB.out)
   have aL : (a0 : Int) ≤ ((l0.length : Int) : Int) := oD (by assumption)
   obtain ⟨i015, hi015, _, hsz15, _⟩ := info_parts xL
   have hroom15 : l0.length ≤ c0 := aQ.out
   have hC15 : Kd.C k31 _ (some a3) l0.length l0 := aD.out
   have hcut15 := c0z (P := Try.prog) 24 31 .i64 Try.underlying24 hi015 (some a3) l0.length c0 a0 (oD (by assumption)) aL hroom15
   have hr15 := Kd.C_take (m := (a0 : Int).toNat) hC15 oM
   have aB : a5.length = (a0 : Int).toNat := (by rw [a6.out, List.length_take]; omega)
   rw [← a6.out] at hr15
   rw [← aB] at hcut15
   have a4 := am hr15
   have a9 := am (show a5.length ≤ c0 from by omega)
   clear hr15 hC15 hroom15 hi015 hsz15
   have KY15 := am aB
   clear aB
   replace aL := eq_true aL
   refine xE (n := 6) (S := fun w' => w'.cell? ⟨a1, 0, none⟩ = some (.int .i64 ((kA l0 a0).f0)) ∧ w'.cell? ⟨a1, 1, none⟩ = some (.int .i64 ((kA l0 a0).f1)) ∧ w'.cell? ⟨a1, 2, none⟩ = some (.int .i64 ((kA l0 a0).f2)) ∧ w'.cell? ⟨a1, 3, none⟩ = some (.int .i64 ((kA l0 a0).f3)) ∧ w'.cell? ⟨a1, 4, none⟩ = some (.int .i64 ((kA l0 a0).f4)) ∧ w'.cell? ⟨a1, 5, none⟩ = some (.int .i64 ((kA l0 a0).f5))) (ds := []) #[false, false, false, false, false, false] (by kernel_rfl) rfl rfl (cz6 a2.out) (fun hHeld => ?_)
   generalize w13.drew = w14 at a2 HB a4 hHeld ⊢
   refine pS (i := 0) (N := some 16) #[true, false, false, false, false, false] ?_
   refine pS (i := 1) (N := some 17) #[true, true, false, false, false, false] ?_
   refine pS (i := 2) (N := some 18) #[true, true, true, false, false, false] ?_
   refine sI (i := 3) (N := some 19) (v := ?_) (a' := ?_) #[true, true, true, true, false, false] rfl rfl (by kernel_rfl) (fun _ _ _ h => h) (Or.inl ⟨by rfl, ?_⟩) hHeld ?_ ?_
   rotate_left
   ·rintro w' ⟨s0, s1, s2, s3, s4, s5⟩
    go_simp
    with_reducible rfl
   rotate_left
   ·exact b0s
   refine a3e (i := 4) (N := some 20) #[true, true, true, true, true, false] rfl rfl (by kernel_rfl) (by decide) (fun K hK => ?_)
   refine a5g Try.func73 (by kernel_rfl) rfl #[.slice (some a3) a5.length c0, .agg #[.int .i64 ((kA l0 a0).f0), .int .i64 ((kA l0 a0).f1), .int .i64 ((kA l0 a0).f2), .int .i64 ((kA l0 a0).f3), .int .i64 ((kA l0 a0).f4), .int .i64 ((kA l0 a0).f5)]] (by rfl) rfl rfl tm ?_
   with_reducible refine (impl_isRight.calls ?side1 ?side2 A9.out).mono ?_
   (case side1 => exact sC (Kd.C_below a4.out HB.out))
   (case side2 => exact a9.out)
   rintro e w16 ⟨rfl, hb⟩
   refine ⟨_, rfl, ?_⟩
   replace a2 := gB a2 hb
   replace HB := hX hb
   clear hb
   refine hK.out _ _ (cz6 a2.out) (fun hHeld => ?_)
   clear hK K
   refine wO (a' := ?_) ?_ ?_
   rotate_left
   ·show Act.put _ (some 20) _ = _
    exact b0s
   refine pS (i := 5) (N := some 21) #[true, true, true, true, true, true] ?_
   refine a1v (by kernel_rfl) ?_
   try go_wp2
   go_roundg k1
   case measure => have := aO.out; omega
   case rel => exact ⟨(wrap64 (a0 + 1)), rfl, H, ⟨by have := aO.out; omega⟩, ⟨bW⟩⟩
  obtain rfl := oI H
  obtain ⟨aS, aR, a3, rfl, aJ, aI, aH, aG, aF, aE⟩ := ix (oZ (Kd.C_below aD.out HB.out) a0)
  try go_wp2_with (first | ((with_reducible refine gW ?_); first | (refine bX 4 31 #[.int .i64 0, .int .i64 0, .int .i64 0, .int .i64 0, .int .i64 0, .int .i64 0] ?_; intro a1 hg w17 hbox hb; have a2 := am hbox; have aM := gw hg; have aN := gw hg; replace HB := hB HB hb; clear hb hbox hg; have aU := cf6 a2.out)))
  have a8 : Aside0 (((((((w17.setCell ⟨a1, 0, none⟩ (.int .i64 ((kA l0 a0).f0))).setCell ⟨a1, 1, none⟩ (.int .i64 ((kA l0 a0).f1))).setCell ⟨a1, 2, none⟩ (.int .i64 ((kA l0 a0).f2))).setCell ⟨a1, 3, none⟩ (.int .i64 ((kA l0 a0).f3))).setCell ⟨a1, 4, none⟩ (.int .i64 ((kA l0 a0).f4))).setCell ⟨a1, 5, none⟩ (.int .i64 ((kA l0 a0).f5))).heap[a1]? = some (.cells #[.int .i64 ((kA l0 a0).f0), .int .i64 ((kA l0 a0).f1), .int .i64 ((kA l0 a0).f2), .int .i64 ((kA l0 a0).f3), .int .i64 ((kA l0 a0).f4), .int .i64 ((kA l0 a0).f5)] 31 (0, 0))) := ⟨by (with_reducible repeat (first | refine pG ?_ _ | refine pB ?_ | refine pD ?_ _)); refine pN (cs := #[.int .i64 ((kA l0 a0).f0), .int .i64 ((kA l0 a0).f1), .int .i64 ((kA l0 a0).f2), .int .i64 ((kA l0 a0).f3), .int .i64 ((kA l0 a0).f4), .int .i64 0]) ?_ 5 _ rfl; (with_reducible repeat (first | refine pG ?_ _ | refine pB ?_ | refine pD ?_ _)); refine pN (cs := #[.int .i64 ((kA l0 a0).f0), .int .i64 ((kA l0 a0).f1), .int .i64 ((kA l0 a0).f2), .int .i64 ((kA l0 a0).f3), .int .i64 0, .int .i64 0]) ?_ 4 _ rfl; (with_reducible repeat (first | refine pG ?_ _ | refine pB ?_ | refine pD ?_ _)); refine pN (cs := #[.int .i64 ((kA l0 a0).f0), .int .i64 ((kA l0 a0).f1), .int .i64 ((kA l0 a0).f2), .int .i64 0, .int .i64 0, .int .i64 0]) ?_ 3 _ rfl; (with_reducible repeat (first | refine pG ?_ _ | refine pB ?_ | refine pD ?_ _)); refine pN (cs := #[.int .i64 ((kA l0 a0).f0), .int .i64 ((kA l0 a0).f1), .int .i64 0, .int .i64 0, .int .i64 0, .int .i64 0]) ?_ 2 _ rfl; (with_reducible repeat (first | refine pG ?_ _ | refine pB ?_ | refine pD ?_ _)); refine pN (cs := #[.int .i64 ((kA l0 a0).f0), .int .i64 0, .int .i64 0, .int .i64 0, .int .i64 0, .int .i64 0]) ?_ 1 _ rfl; (with_reducible repeat (first | refine pG ?_ _ | refine pB ?_ | refine pD ?_ _)); refine pN (cs := #[.int .i64 0, .int .i64 0, .int .i64 0, .int .i64 0, .int .i64 0, .int .i64 0]) ?_ 0 _ rfl; exact sB <| a2.out⟩
  have a7 : Aside0 (Below w.heap.size w ((((((w17.setCell ⟨a1, 0, none⟩ (.int .i64 ((kA l0 a0).f0))).setCell ⟨a1, 1, none⟩ (.int .i64 ((kA l0 a0).f1))).setCell ⟨a1, 2, none⟩ (.int .i64 ((kA l0 a0).f2))).setCell ⟨a1, 3, none⟩ (.int .i64 ((kA l0 a0).f3))).setCell ⟨a1, 4, none⟩ (.int .i64 ((kA l0 a0).f4))).setCell ⟨a1, 5, none⟩ (.int .i64 ((kA l0 a0).f5)))) := ⟨by exact bW⟩
  clear a2
  clear HB
  generalize ((((((w17.setCell ⟨a1, 0, none⟩ (.int .i64 ((kA l0 a0).f0))).setCell ⟨a1, 1, none⟩ (.int .i64 ((kA l0 a0).f1))).setCell ⟨a1, 2, none⟩ (.int .i64 ((kA l0 a0).f2))).setCell ⟨a1, 3, none⟩ (.int .i64 ((kA l0 a0).f3))).setCell ⟨a1, 4, none⟩ (.int .i64 ((kA l0 a0).f4))).setCell ⟨a1, 5, none⟩ (.int .i64 ((kA l0 a0).f5))) = w19 at a8 a7 ⊢
  have a2 := a8
  have HB := a7
  clear a8 a7
  replace a2 := am (pB a2.out)
  replace HB := am (kV HB.out)
  have aK : (a0 : Int) ≤ ((l0.length : Int) : Int) := oD (by assumption)
  obtain ⟨i021, hi021, _, hsz21, _⟩ := info_parts xL
  have hroom21 : l0.length ≤ c0 := aQ.out
  have hC21 : Kd.C k31 _ (some a3) l0.length l0 := aD.out
  have hcut21 := c0z (P := Try.prog) 24 31 .i64 Try.underlying24 hi021 (some a3) l0.length c0 a0 (oD (by assumption)) aK hroom21
  have hr21 := Kd.C_take (m := (a0 : Int).toNat) hC21 oM
  have aA : a5.length = (a0 : Int).toNat := (by rw [a6.out, List.length_take]; omega)
  rw [← a6.out] at hr21
  rw [← aA] at hcut21
  have a4 := am hr21
  have a9 := am (show a5.length ≤ c0 from by omega)
  clear hr21 hC21 hroom21 hi021 hsz21
  have KY21 := am aA
  clear aA
  replace aK := eq_true aK
  refine xE (n := 6) (S := fun w' => w'.cell? ⟨a1, 0, none⟩ = some (.int .i64 ((kA l0 a0).f0)) ∧ w'.cell? ⟨a1, 1, none⟩ = some (.int .i64 ((kA l0 a0).f1)) ∧ w'.cell? ⟨a1, 2, none⟩ = some (.int .i64 ((kA l0 a0).f2)) ∧ w'.cell? ⟨a1, 3, none⟩ = some (.int .i64 ((kA l0 a0).f3)) ∧ w'.cell? ⟨a1, 4, none⟩ = some (.int .i64 ((kA l0 a0).f4)) ∧ w'.cell? ⟨a1, 5, none⟩ = some (.int .i64 ((kA l0 a0).f5))) (ds := []) #[false, false, false, false, false, false] (by kernel_rfl) rfl rfl (cz6 a2.out) (fun hHeld => ?_)
  generalize w19.drew = w20 at a2 HB a4 hHeld ⊢
  refine pS (i := 0) (N := some 16) #[true, false, false, false, false, false] ?_
  refine pS (i := 1) (N := some 17) #[true, true, false, false, false, false] ?_
  refine pS (i := 2) (N := some 18) #[true, true, true, false, false, false] ?_
  refine sI (i := 3) (N := some 19) (v := ?_) (a' := ?_) #[true, true, true, true, false, false] rfl rfl (by kernel_rfl) (fun _ _ _ h => h) (Or.inl ⟨by rfl, ?_⟩) hHeld ?_ ?_
  rotate_left
  ·rintro w' ⟨s0, s1, s2, s3, s4, s5⟩
   go_simp
   with_reducible rfl
  rotate_left
  ·exact b0s
  refine a3e (i := 4) (N := some 20) #[true, true, true, true, true, false] rfl rfl (by kernel_rfl) (by decide) (fun K hK => ?_)
  refine a5g Try.func73 (by kernel_rfl) rfl #[.slice (some a3) a5.length c0, .agg #[.int .i64 ((kA l0 a0).f0), .int .i64 ((kA l0 a0).f1), .int .i64 ((kA l0 a0).f2), .int .i64 ((kA l0 a0).f3), .int .i64 ((kA l0 a0).f4), .int .i64 ((kA l0 a0).f5)]] (by rfl) rfl rfl tm ?_
  with_reducible refine (impl_isRight.calls ?side1 ?side2 A9.out).mono ?_
  (case side1 => exact sC (Kd.C_below a4.out HB.out))
  (case side2 => exact a9.out)
  rintro e w22 ⟨rfl, hb⟩
  refine ⟨_, rfl, ?_⟩
  replace a2 := gB a2 hb
  replace HB := hX hb
  clear hb
  refine hK.out _ _ (cz6 a2.out) (fun hHeld => ?_)
  clear hK K
  refine wO (a' := ?_) ?_ ?_
  rotate_left
  ·show Act.put _ (some 20) _ = _
   exact b0s
  refine pS (i := 5) (N := some 21) #[true, true, true, true, true, true] ?_
  refine a1v (by kernel_rfl) ?_
  try go_wp2
  go_ret
  exact ⟨rfl, bW⟩
@[reducible] def c0l : Array Bool := #[false, false, false, false, false, false, false, false, false, false, false, false, false, false, false, false]
@[reducible] def c0j : Array Bool := #[false, true, false, false, false, false, false, false, false, false, false, false, false, false, false, false]
@[reducible] def c0h : Array Bool := #[true, true, false, false, false, false, false, false, false, false, false, false, false, false, false, false]
@[reducible] def c0f : Array Bool := #[true, true, true, false, false, false, false, false, false, false, false, false, false, false, false, false]
@[reducible] def c0d : Array Bool := #[true, true, true, true, false, false, false, false, false, false, false, false, false, false, false, false]
@[reducible] def c0b : Array Bool := #[true, true, true, true, true, false, false, false, false, false, false, false, false, false, false, false]
@[reducible] def b9z : Array Bool := #[true, true, true, true, true, true, false, false, false, false, false, false, false, false, false, false]
@[reducible] def b9x : Array Bool := #[true, true, true, true, true, true, true, false, false, false, false, false, false, false, false, false]
@[reducible] def c5f : Array Bool := #[true, true, true, true, true, true, true, false, true, false, false, false, false, false, false, false]
@[reducible] def b9v : Array Bool := #[true, true, true, true, true, true, true, true, true, false, false, false, false, false, false, false]
@[reducible] def b3y : Array Bool := #[true, true, true, true, true, true, true, true, true, true, false, false, false, false, false, false]
@[reducible] def b3x : Array Bool := #[true, true, true, true, true, true, true, true, true, true, true, false, false, false, false, false]
@[reducible] def b3w : Array Bool := #[true, true, true, true, true, true, true, true, true, true, true, true, false, false, false, false]
@[reducible] def b3v : Array Bool := #[true, true, true, true, true, true, true, true, true, true, true, true, true, false, false, false]
@[reducible] def b3t : Array Bool := #[true, true, true, true, true, true, true, true, true, true, true, true, true, true, false, false]
@[reducible] def c2m : Array Bool := #[true, true, true, true, true, true, true, true, true, true, true, true, true, true, true, false]
@[reducible] def c2k : Array Bool := #[true, true, true, true, true, true, true, true, true, true, true, true, true, true, true, true]
@[reducible] def c2h : Array Bool := #[true, true, true, true, true, true, true, true, false, false, false, false, false, false, false, false]
def uU (l0 : List (S31)) (v i : Int) : Option Bool := if 0 ≤ i then (if i < (l0.length : Int) then some (!(((kA l0 i).f0 == 19) || ((kA l0 i).f0 == 20)) || ((kA l0 i).f2 != v)) else none) else none
theorem zF (a b c d e f : Int) : pO a b c d e f = some ((a == 19) || (a == 20)) := by
 unfold pO
 by_cases h : a = 19
 ·rw [if_pos h]; simp [h]
 ·rw [if_neg h]; simp [h]
theorem yG {P : Prop} (h : P := by
 simp only [Act.put, List.setIfInBounds_toArray, List.set_cons_zero, List.set_cons_succ, vY, a5f]
 rfl) : P := h
theorem b9a {P : Prop} (h : P := by
 refine pS (i := 14) (N := some 19) c2m ?_
 refine pS (i := 15) (N := some 4) c2k ?_
 refine a1v (by kernel_rfl) ?_
 go_wp2
 go_ret
 exact ⟨by rw [← H.out] <;> rfl, HB3.out⟩) : P := h
set_option maxHeartbeats 2000000 in
theorem impl_freeAt_1.calls (A0 : Option Addr) (c0 : Nat) (l0 : List (S31)) (v i : Int) (b : Bool) (g1 g2 : Nat) (w : World) (hr0 : Kd.C k31 w A0 l0.length l0) (hc0 : l0.length ≤ c0)
  (b1 : w.cell? ⟨g1, 0, none⟩ = some (.slice A0 l0.length c0)) (b2 : w.cell? ⟨g2, 0, none⟩ = some (.int .i64 v)) (h : uU l0 v i = some b) :
  Calls Try.prog 111 #[.int .i64 i, .pointer (some ⟨g1, 0, none⟩), .pointer (some ⟨g2, 0, none⟩)] w fun e w' => e = .returned (.bool b) ∧ Below w.heap.size w w' := by
 unfold uU at h
 by_cases p1 : 0 ≤ i
 rotate_left
 ·rw [if_neg p1] at h; exact absurd h (by simp)
 rw [if_pos p1] at h
 by_cases p2 : i < (l0.length : Int)
 rotate_left
 ·rw [if_neg p2] at h; exact absurd h (by simp)
 rw [if_pos p2] at h
 replace h := oI h
 obtain ⟨a0, e0, y0, y1, y2, y3, y4, y5⟩ := oZ hr0 i p1 p2
 cases e0
 have a1 := am hr0
 have a2 := am hc0
 clear hr0 hc0
 generalize (kA l0 i).f0 = op at *
 generalize (kA l0 i).f1 = W at *
 generalize (kA l0 i).f2 = Kq at *
 generalize (kA l0 i).f3 = A at *
 generalize (kA l0 i).f4 = B at *
 generalize (kA l0 i).f5 = Cq at *
 obtain ⟨q, hq⟩ : ∃ q : Bool, ((op == 19) || (op == 20)) = q := ⟨_, rfl⟩
 rw [hq] at h
 have HQ := am hq
 clear hq
 have H := am h
 clear h
 have t1 : decide (0 ≤ i) = true := decide_eq_true p1
 have t2 : decide (i < (l0.length : Int)) = true := decide_eq_true p2
 cases q with
 | true =>
  go_enter Try.func111, Try.ntmps111
  go_wp2
  refine xE (n := 16) (S := fun w' => w'.cell? ⟨g1, 0, none⟩ = some (.slice (some a0) l0.length c0) ∧ w'.cell? ⟨g2, 0, none⟩ = some (.int .i64 v) ∧ w'.cell? (a0.add (i.toNat * 6)) = some (.int .i64 op) ∧ w'.cell? ⟨(a0.add (i.toNat * 6)).block, (a0.add (i.toNat * 6)).off + 1, none⟩ = some (.int .i64 W) ∧ w'.cell? ⟨(a0.add (i.toNat * 6)).block, (a0.add (i.toNat * 6)).off + 2, none⟩ = some (.int .i64 Kq) ∧ w'.cell? ⟨(a0.add (i.toNat * 6)).block, (a0.add (i.toNat * 6)).off + 3, none⟩ = some (.int .i64 A) ∧ w'.cell? ⟨(a0.add (i.toNat * 6)).block, (a0.add (i.toNat * 6)).off + 4, none⟩ = some (.int .i64 B) ∧ w'.cell? ⟨(a0.add (i.toNat * 6)).block, (a0.add (i.toNat * 6)).off + 5, none⟩ = some (.int .i64 Cq)) (ds := []) c0l (by kernel_rfl) rfl rfl ⟨b1, b2, y0, y1, y2, y3, y4, y5⟩ (fun hHeld => ?_)
  refine pS (i := 1) (N := some 6) c0j ?_
  refine sI (i := 0) (N := some 5) (v := ?_) (a' := ?_) c0h rfl rfl (by kernel_rfl) (fun _ _ _ h => h) (Or.inl ⟨by rfl, ?_⟩) hHeld ?_ ?_
  rotate_left
  ·rintro w' ⟨s0, s1, s2, s3, s4, s5, s6, s7⟩
   go_simp
   with_reducible rfl
  rotate_left
  ·exact yG
  refine pS (i := 2) (N := some 7) c0f ?_
  refine sI (i := 3) (N := some 8) (v := ?_) (a' := ?_) c0d rfl rfl (by kernel_rfl) (fun _ _ _ h => h) (Or.inl ⟨by rfl, ?_⟩) hHeld ?_ ?_
  rotate_left
  ·rintro w' ⟨s0, s1, s2, s3, s4, s5, s6, s7⟩
   go_simp
   with_reducible rfl
  rotate_left
  ·exact yG
  refine a3e (i := 4) (N := some 9) c0b rfl rfl (by kernel_rfl) (by decide) (fun K hK => ?_)
  refine a5g Try.func53 (by kernel_rfl) rfl #[.agg #[.int .i64 op, .int .i64 W, .int .i64 Kq, .int .i64 A, .int .i64 B, .int .i64 Cq]] (by rfl) rfl rfl (by simp only [List.map_toArray, List.map_cons, List.map_nil]; rfl) ?_
  with_reducible refine (impl_isQuant.calls true _ (by rw [zF, HQ.out])).mono ?_
  rintro e w3 ⟨rfl, hb⟩
  refine ⟨_, rfl, ?_⟩
  have HB3 := am (show Below w.heap.size w w3 from Below.trans (by apply kV; exact Below.refl _ _) (hb.mono (by simp)))
  clear hb
  refine hK.out _ _ ⟨(kC HB3.out b1), (kC HB3.out b2), (kC HB3.out y0), (kC HB3.out y1), (kC HB3.out y2), (kC HB3.out y3), (kC HB3.out y4), (kC HB3.out y5)⟩ (fun hHeld => ?_)
  clear hK K
  refine wO (a' := ?_) ?_ ?_
  rotate_left
  ·show Act.put _ (some 9) _ = _
   exact yG
  refine pS (i := 5) (N := some 10) b9z ?_
  refine pS (i := 6) (N := some 11) b9x ?_
  refine pS (i := 8) (N := some 13) c5f ?_
  refine sI (i := 7) (N := some 12) (v := ?_) (a' := ?_) b9v rfl rfl (by kernel_rfl) (fun _ _ _ h => h) (Or.inl ⟨by rfl, ?_⟩) hHeld ?_ ?_
  rotate_left
  ·rintro w' ⟨s0, s1, s2, s3, s4, s5, s6, s7⟩
   go_simp
   with_reducible rfl
  rotate_left
  ·exact yG
  refine pS (i := 9) (N := some 14) b3y ?_
  refine pS (i := 10) (N := some 15) b3x ?_
  refine sI (i := 11) (N := some 16) (v := ?_) (a' := ?_) b3w rfl rfl (by kernel_rfl) (fun _ _ _ h => h) (Or.inl ⟨by rfl, ?_⟩) hHeld ?_ ?_
  rotate_left
  ·rintro w' ⟨s0, s1, s2, s3, s4, s5, s6, s7⟩
   go_simp
   with_reducible rfl
  rotate_left
  ·exact yG
  refine sI (i := 12) (N := some 17) (v := ?_) (a' := ?_) b3v rfl rfl (by kernel_rfl) (fun _ _ _ h => h) (Or.inl ⟨by rfl, ?_⟩) hHeld ?_ ?_
  rotate_left
  ·rintro w' ⟨s0, s1, s2, s3, s4, s5, s6, s7⟩
   go_simp
   with_reducible rfl
  rotate_left
  ·exact yG
  refine pS (i := 13) (N := some 18) b3t ?_
  exact b9a
 | false =>
  go_enter Try.func111, Try.ntmps111
  go_wp2
  refine xE (n := 16) (S := fun w' => w'.cell? ⟨g1, 0, none⟩ = some (.slice (some a0) l0.length c0) ∧ w'.cell? ⟨g2, 0, none⟩ = some (.int .i64 v) ∧ w'.cell? (a0.add (i.toNat * 6)) = some (.int .i64 op) ∧ w'.cell? ⟨(a0.add (i.toNat * 6)).block, (a0.add (i.toNat * 6)).off + 1, none⟩ = some (.int .i64 W) ∧ w'.cell? ⟨(a0.add (i.toNat * 6)).block, (a0.add (i.toNat * 6)).off + 2, none⟩ = some (.int .i64 Kq) ∧ w'.cell? ⟨(a0.add (i.toNat * 6)).block, (a0.add (i.toNat * 6)).off + 3, none⟩ = some (.int .i64 A) ∧ w'.cell? ⟨(a0.add (i.toNat * 6)).block, (a0.add (i.toNat * 6)).off + 4, none⟩ = some (.int .i64 B) ∧ w'.cell? ⟨(a0.add (i.toNat * 6)).block, (a0.add (i.toNat * 6)).off + 5, none⟩ = some (.int .i64 Cq)) (ds := []) c0l (by kernel_rfl) rfl rfl ⟨b1, b2, y0, y1, y2, y3, y4, y5⟩ (fun hHeld => ?_)
  refine pS (i := 1) (N := some 6) c0j ?_
  refine sI (i := 0) (N := some 5) (v := ?_) (a' := ?_) c0h rfl rfl (by kernel_rfl) (fun _ _ _ h => h) (Or.inl ⟨by rfl, ?_⟩) hHeld ?_ ?_
  rotate_left
  ·rintro w' ⟨s0, s1, s2, s3, s4, s5, s6, s7⟩
   go_simp
   with_reducible rfl
  rotate_left
  ·exact yG
  refine pS (i := 2) (N := some 7) c0f ?_
  refine sI (i := 3) (N := some 8) (v := ?_) (a' := ?_) c0d rfl rfl (by kernel_rfl) (fun _ _ _ h => h) (Or.inl ⟨by rfl, ?_⟩) hHeld ?_ ?_
  rotate_left
  ·rintro w' ⟨s0, s1, s2, s3, s4, s5, s6, s7⟩
   go_simp
   with_reducible rfl
  rotate_left
  ·exact yG
  refine a3e (i := 4) (N := some 9) c0b rfl rfl (by kernel_rfl) (by decide) (fun K hK => ?_)
  refine a5g Try.func53 (by kernel_rfl) rfl #[.agg #[.int .i64 op, .int .i64 W, .int .i64 Kq, .int .i64 A, .int .i64 B, .int .i64 Cq]] (by rfl) rfl rfl (by simp only [List.map_toArray, List.map_cons, List.map_nil]; rfl) ?_
  with_reducible refine (impl_isQuant.calls false _ (by rw [zF, HQ.out])).mono ?_
  rintro e w3 ⟨rfl, hb⟩
  refine ⟨_, rfl, ?_⟩
  have HB3 := am (show Below w.heap.size w w3 from Below.trans (by apply kV; exact Below.refl _ _) (hb.mono (by simp)))
  clear hb
  refine hK.out _ _ ⟨(kC HB3.out b1), (kC HB3.out b2), (kC HB3.out y0), (kC HB3.out y1), (kC HB3.out y2), (kC HB3.out y3), (kC HB3.out y4), (kC HB3.out y5)⟩ (fun hHeld => ?_)
  clear hK K
  refine wO (a' := ?_) ?_ ?_
  rotate_left
  ·show Act.put _ (some 9) _ = _
   exact yG
  refine pS (i := 5) (N := some 10) b9z ?_
  refine pS (i := 6) (N := some 11) b9x ?_
  refine rD (i := 7) (N := some 12) (v := undef) (a' := ?_) c2h rfl rfl (by kernel_rfl) (fun _ _ _ h => h) (Or.inr ⟨by rfl, rfl⟩) ?_ ?_
  rotate_left
  ·exact yG
  refine rD (i := 8) (N := some 13) (v := undef) (a' := ?_) b9v rfl rfl (by kernel_rfl) (fun _ _ _ h => h) (Or.inr ⟨by rfl, rfl⟩) ?_ ?_
  rotate_left
  ·exact yG
  refine rD (i := 9) (N := some 14) (v := undef) (a' := ?_) b3y rfl rfl (by kernel_rfl) (fun _ _ _ h => h) (Or.inr ⟨by rfl, rfl⟩) ?_ ?_
  rotate_left
  ·exact yG
  refine rD (i := 10) (N := some 15) (v := undef) (a' := ?_) b3x rfl rfl (by kernel_rfl) (fun _ _ _ h => h) (Or.inr ⟨by rfl, rfl⟩) ?_ ?_
  rotate_left
  ·exact yG
  refine rD (i := 11) (N := some 16) (v := undef) (a' := ?_) b3w rfl rfl (by kernel_rfl) (fun _ _ _ h => h) (Or.inr ⟨by rfl, rfl⟩) ?_ ?_
  rotate_left
  ·exact yG
  refine rD (i := 12) (N := some 17) (v := undef) (a' := ?_) b3v rfl rfl (by kernel_rfl) (fun _ _ _ h => h) (Or.inr ⟨by rfl, rfl⟩) ?_ ?_
  rotate_left
  ·exact yG
  refine rD (i := 13) (N := some 18) (v := undef) (a' := ?_) b3t rfl rfl (by kernel_rfl) (fun _ _ _ h => h) (Or.inr ⟨by rfl, rfl⟩) ?_ ?_
  rotate_left
  ·exact yG
  exact b9a
def vF (k : Nat) (l0 : List (S31)) (a1 : Int) : Option (List Bool) := vW (uU l0 a1) k l0 (wrap64 ((l0.length : Int) - 1))
set_option maxHeartbeats 2000000 in
theorem impl_freeAt.calls (k : Nat) (A0 : Option Addr) (c0 : Nat) (l0 : List (S31)) (a1 : Int) (r : List Bool) (w : World) (hr0 : Kd.C k31 w A0 l0.length l0) (hc0 : l0.length ≤ c0) (h : vF k l0 a1 = some r) :
  Calls Try.prog 74 #[.slice A0 l0.length c0, .int .i64 a1] w fun e w' => ∃ a0 : Value, e = .returned (a0) ∧ Kd.R Kd.bool 4 w' w.heap.size (fun _ => True) a0 r ∧ Below w.heap.size w w' := by
 have a3 := am hr0
 have a2 := am hc0
 have H := am h
 clear hr0 hc0 h
 have hmf : ∀ (fn : Fn) (first cap : Array Value) (w : World), (Instr.makeFunc fn first cap).run Try.prog w = .ok (.func fn first cap) w := fun _ _ _ _ => rfl
 go_enter Try.func74, Try.ntmps74
 go_wp2_with fail
 have hb0 : Below w.heap.size w ((w.alloc (Obj.cells #[Value.slice A0 l0.length c0] 24)).alloc (Obj.cells #[Value.int IntKind.i64 a1] 3)) := kR (kR (Below.refl _ _) _) _
 have h1 : ((w.alloc (Obj.cells #[Value.slice A0 l0.length c0] 24)).alloc (Obj.cells #[Value.int IntKind.i64 a1] 3)).heap[w.heap.size]? = some (Obj.cells #[Value.slice A0 l0.length c0] 24) := pD (heap_alloc_new w _) _
 have h2 : ((w.alloc (Obj.cells #[Value.slice A0 l0.length c0] 24)).alloc (Obj.cells #[Value.int IntKind.i64 a1] 3)).heap[w.heap.size + 1]? = some (Obj.cells #[Value.int IntKind.i64 a1] 3) := by
  have := heap_alloc_new (w.alloc (Obj.cells #[Value.slice A0 l0.length c0] 24)) (Obj.cells #[Value.int IntKind.i64 a1] 3)
  rwa [show (w.alloc (Obj.cells #[Value.slice A0 l0.length c0] 24)).heap.size = w.heap.size + 1 from by simp] at this
 have hC := Kd.C_alloc (Kd.C_alloc a3.out (Obj.cells #[Value.slice A0 l0.length c0] 24)) (Obj.cells #[Value.int IntKind.i64 a1] 3)
 refine (impl_reach.calls 111 #[.pointer (some ⟨w.heap.size, 0, none⟩), .pointer (some ⟨w.heap.size + 1, 0, none⟩)] (uU l0 a1) k A0 c0 l0 (wrap64 ((l0.length : Int) - 1)) r _ hC a2.out (fun _ _ => rfl) ?hp H.out).mono ?_
 case hp =>
  intro W i b hW hb
  exact impl_freeAt_1.calls A0 c0 l0 a1 i b w.heap.size (w.heap.size + 1) W (Kd.C_below hC hW) a2.out ((kG (kM h1 hW) 0).trans rfl) ((kG (kM h2 hW) 0).trans rfl) hb
 rintro e w' ⟨v0, rfl, HO, hb⟩
 have a4 := am (Kd.R_lower HO (kE hb0))
 have HB2 := am (hb0.trans (hb.mono (kE hb0)))
 clear HO hb h1 h2 hC hb0
 go_wp2
 go_ret
 exact ⟨v0, rfl, a4.out, HB2.out⟩
@[reducible] def c0k : Array Bool := #[false, false, false, false, false, false, false, false, false, false, false, false, false, false, false, false, false]
@[reducible] def c0i : Array Bool := #[false, true, false, false, false, false, false, false, false, false, false, false, false, false, false, false, false]
@[reducible] def c0g : Array Bool := #[true, true, false, false, false, false, false, false, false, false, false, false, false, false, false, false, false]
@[reducible] def c0e : Array Bool := #[true, true, true, false, false, false, false, false, false, false, false, false, false, false, false, false, false]
@[reducible] def c0c : Array Bool := #[true, true, true, true, false, false, false, false, false, false, false, false, false, false, false, false, false]
@[reducible] def c0a : Array Bool := #[true, true, true, true, true, false, false, false, false, false, false, false, false, false, false, false, false]
@[reducible] def b9y : Array Bool := #[true, true, true, true, true, true, false, false, false, false, false, false, false, false, false, false, false]
@[reducible] def b9w : Array Bool := #[true, true, true, true, true, true, true, false, false, false, false, false, false, false, false, false, false]
@[reducible] def c5e : Array Bool := #[true, true, true, true, true, true, true, false, true, false, false, false, false, false, false, false, false]
@[reducible] def c4z : Array Bool := #[true, true, true, true, true, true, true, false, true, false, false, false, true, false, false, false, false]
@[reducible] def c3b : Array Bool := #[true, true, true, true, true, true, true, true, true, false, false, false, true, false, false, false, false]
@[reducible] def c2x : Array Bool := #[true, true, true, true, true, true, true, true, true, true, false, false, true, false, false, false, false]
@[reducible] def c2t : Array Bool := #[true, true, true, true, true, true, true, true, true, true, true, false, true, false, false, false, false]
@[reducible] def b3u : Array Bool := #[true, true, true, true, true, true, true, true, true, true, true, true, true, false, false, false, false]
@[reducible] def b3s : Array Bool := #[true, true, true, true, true, true, true, true, true, true, true, true, true, true, false, false, false]
@[reducible] def b3r : Array Bool := #[true, true, true, true, true, true, true, true, true, true, true, true, true, true, true, false, false]
@[reducible] def c2j : Array Bool := #[true, true, true, true, true, true, true, true, true, true, true, true, true, true, true, true, false]
@[reducible] def c2g : Array Bool := #[true, true, true, true, true, true, true, true, true, true, true, true, true, true, true, true, true]
@[reducible] def c2e : Array Bool := #[true, true, true, true, true, true, true, true, false, false, false, false, false, false, false, false, false]
@[reducible] def c2c : Array Bool := #[true, true, true, true, true, true, true, true, true, false, false, false, false, false, false, false, false]
@[reducible] def c2a : Array Bool := #[true, true, true, true, true, true, true, true, true, true, false, false, false, false, false, false, false]
@[reducible] def c1y : Array Bool := #[true, true, true, true, true, true, true, true, true, true, true, false, false, false, false, false, false]
@[reducible] def c1x : Array Bool := #[true, true, true, true, true, true, true, true, true, true, true, true, false, false, false, false, false]
def vM (l0 : List (S31)) (v i : Int) : Option Bool := if 0 ≤ i then (if i < (l0.length : Int) then some (!(((kA l0 i).f0 == 19) || ((kA l0 i).f0 == 20)) || ((kA l0 i).f2 != v)) else none) else none
theorem xU {P : Prop} (h : P := by
 simp only [Act.put, List.setIfInBounds_toArray, List.set_cons_zero, List.set_cons_succ, vY, a5f]
 rfl) : P := h
theorem b8q {P : Prop} (h : P := by
 refine pS (i := 15) (N := some 20) c2j ?_
 refine pS (i := 16) (N := some 4) c2g ?_
 refine a1v (by kernel_rfl) ?_
 go_wp2
 go_ret
 exact ⟨by rw [← H.out] <;> rfl, HB3.out⟩) : P := h
set_option maxHeartbeats 2000000 in
theorem impl_suits_1.calls (A0 : Option Addr) (c0 : Nat) (l0 : List (S31)) (v i : Int) (b : Bool) (g1 g2 : Nat) (w : World) (hr0 : Kd.C k31 w A0 l0.length l0) (hc0 : l0.length ≤ c0)
  (b1 : w.cell? ⟨g1, 0, none⟩ = some (.slice A0 l0.length c0)) (b2 : w.cell? ⟨g2, 2, none⟩ = some (.int .i64 v)) (h : vM l0 v i = some b) :
  Calls Try.prog 77 #[.int .i64 i, .pointer (some ⟨g1, 0, none⟩), .pointer (some ⟨g2, 0, none⟩)] w fun e w' => e = .returned (.bool b) ∧ Below w.heap.size w w' := by
 unfold vM at h
 by_cases p1 : 0 ≤ i
 rotate_left
 ·rw [if_neg p1] at h; exact absurd h (by simp)
 rw [if_pos p1] at h
 by_cases p2 : i < (l0.length : Int)
 rotate_left
 ·rw [if_neg p2] at h; exact absurd h (by simp)
 rw [if_pos p2] at h
 replace h := oI h
 obtain ⟨a0, e0, y0, y1, y2, y3, y4, y5⟩ := oZ hr0 i p1 p2
 cases e0
 have a1 := am hr0
 have a2 := am hc0
 clear hr0 hc0
 generalize (kA l0 i).f0 = op at *
 generalize (kA l0 i).f1 = W at *
 generalize (kA l0 i).f2 = Kq at *
 generalize (kA l0 i).f3 = A at *
 generalize (kA l0 i).f4 = B at *
 generalize (kA l0 i).f5 = Cq at *
 obtain ⟨q, hq⟩ : ∃ q : Bool, ((op == 19) || (op == 20)) = q := ⟨_, rfl⟩
 rw [hq] at h
 have HQ := am hq
 clear hq
 have H := am h
 clear h
 have t1 : decide (0 ≤ i) = true := decide_eq_true p1
 have t2 : decide (i < (l0.length : Int)) = true := decide_eq_true p2
 cases q with
 | true =>
  go_enter Try.func77, Try.ntmps77
  go_wp2
  refine xE (n := 17) (S := fun w' => w'.cell? ⟨g1, 0, none⟩ = some (.slice (some a0) l0.length c0) ∧ w'.cell? ⟨g2, 2, none⟩ = some (.int .i64 v) ∧ w'.cell? (a0.add (i.toNat * 6)) = some (.int .i64 op) ∧ w'.cell? ⟨(a0.add (i.toNat * 6)).block, (a0.add (i.toNat * 6)).off + 1, none⟩ = some (.int .i64 W) ∧ w'.cell? ⟨(a0.add (i.toNat * 6)).block, (a0.add (i.toNat * 6)).off + 2, none⟩ = some (.int .i64 Kq) ∧ w'.cell? ⟨(a0.add (i.toNat * 6)).block, (a0.add (i.toNat * 6)).off + 3, none⟩ = some (.int .i64 A) ∧ w'.cell? ⟨(a0.add (i.toNat * 6)).block, (a0.add (i.toNat * 6)).off + 4, none⟩ = some (.int .i64 B) ∧ w'.cell? ⟨(a0.add (i.toNat * 6)).block, (a0.add (i.toNat * 6)).off + 5, none⟩ = some (.int .i64 Cq)) (ds := []) c0k (by kernel_rfl) rfl rfl ⟨b1, b2, y0, y1, y2, y3, y4, y5⟩ (fun hHeld => ?_)
  refine pS (i := 1) (N := some 6) c0i ?_
  refine sI (i := 0) (N := some 5) (v := ?_) (a' := ?_) c0g rfl rfl (by kernel_rfl) (fun _ _ _ h => h) (Or.inl ⟨by rfl, ?_⟩) hHeld ?_ ?_
  rotate_left
  ·rintro w' ⟨s0, s1, s2, s3, s4, s5, s6, s7⟩
   go_simp
   with_reducible rfl
  rotate_left
  ·exact xU
  refine pS (i := 2) (N := some 7) c0e ?_
  refine sI (i := 3) (N := some 8) (v := ?_) (a' := ?_) c0c rfl rfl (by kernel_rfl) (fun _ _ _ h => h) (Or.inl ⟨by rfl, ?_⟩) hHeld ?_ ?_
  rotate_left
  ·rintro w' ⟨s0, s1, s2, s3, s4, s5, s6, s7⟩
   go_simp
   with_reducible rfl
  rotate_left
  ·exact xU
  refine a3e (i := 4) (N := some 9) c0a rfl rfl (by kernel_rfl) (by decide) (fun K hK => ?_)
  refine a5g Try.func53 (by kernel_rfl) rfl #[.agg #[.int .i64 op, .int .i64 W, .int .i64 Kq, .int .i64 A, .int .i64 B, .int .i64 Cq]] (by rfl) rfl rfl (by simp only [List.map_toArray, List.map_cons, List.map_nil]; rfl) ?_
  with_reducible refine (impl_isQuant.calls true _ (by rw [zF, HQ.out])).mono ?_
  rintro e w3 ⟨rfl, hb⟩
  refine ⟨_, rfl, ?_⟩
  have HB3 := am (show Below w.heap.size w w3 from Below.trans (by apply kV; exact Below.refl _ _) (hb.mono (by simp)))
  clear hb
  refine hK.out _ _ ⟨(kC HB3.out b1), (kC HB3.out b2), (kC HB3.out y0), (kC HB3.out y1), (kC HB3.out y2), (kC HB3.out y3), (kC HB3.out y4), (kC HB3.out y5)⟩ (fun hHeld => ?_)
  clear hK K
  refine wO (a' := ?_) ?_ ?_
  rotate_left
  ·show Act.put _ (some 9) _ = _
   exact xU
  refine pS (i := 5) (N := some 10) b9y ?_
  refine pS (i := 6) (N := some 11) b9w ?_
  refine pS (i := 8) (N := some 13) c5e ?_
  refine pS (i := 12) (N := some 17) c4z ?_
  refine sI (i := 7) (N := some 12) (v := ?_) (a' := ?_) c3b rfl rfl (by kernel_rfl) (fun _ _ _ h => h) (Or.inl ⟨by rfl, ?_⟩) hHeld ?_ ?_
  rotate_left
  ·rintro w' ⟨s0, s1, s2, s3, s4, s5, s6, s7⟩
   go_simp
   with_reducible rfl
  rotate_left
  ·exact xU
  refine pS (i := 9) (N := some 14) c2x ?_
  refine pS (i := 10) (N := some 15) c2t ?_
  refine sI (i := 11) (N := some 16) (v := ?_) (a' := ?_) b3u rfl rfl (by kernel_rfl) (fun _ _ _ h => h) (Or.inl ⟨by rfl, ?_⟩) hHeld ?_ ?_
  rotate_left
  ·rintro w' ⟨s0, s1, s2, s3, s4, s5, s6, s7⟩
   go_simp
   with_reducible rfl
  rotate_left
  ·exact xU
  refine sI (i := 13) (N := some 18) (v := ?_) (a' := ?_) b3s rfl rfl (by kernel_rfl) (fun _ _ _ h => h) (Or.inl ⟨by rfl, ?_⟩) hHeld ?_ ?_
  rotate_left
  ·rintro w' ⟨s0, s1, s2, s3, s4, s5, s6, s7⟩
   go_simp
   with_reducible rfl
  rotate_left
  ·exact xU
  refine pS (i := 14) (N := some 19) b3r ?_
  exact b8q
 | false =>
  go_enter Try.func77, Try.ntmps77
  go_wp2
  refine xE (n := 17) (S := fun w' => w'.cell? ⟨g1, 0, none⟩ = some (.slice (some a0) l0.length c0) ∧ w'.cell? ⟨g2, 2, none⟩ = some (.int .i64 v) ∧ w'.cell? (a0.add (i.toNat * 6)) = some (.int .i64 op) ∧ w'.cell? ⟨(a0.add (i.toNat * 6)).block, (a0.add (i.toNat * 6)).off + 1, none⟩ = some (.int .i64 W) ∧ w'.cell? ⟨(a0.add (i.toNat * 6)).block, (a0.add (i.toNat * 6)).off + 2, none⟩ = some (.int .i64 Kq) ∧ w'.cell? ⟨(a0.add (i.toNat * 6)).block, (a0.add (i.toNat * 6)).off + 3, none⟩ = some (.int .i64 A) ∧ w'.cell? ⟨(a0.add (i.toNat * 6)).block, (a0.add (i.toNat * 6)).off + 4, none⟩ = some (.int .i64 B) ∧ w'.cell? ⟨(a0.add (i.toNat * 6)).block, (a0.add (i.toNat * 6)).off + 5, none⟩ = some (.int .i64 Cq)) (ds := []) c0k (by kernel_rfl) rfl rfl ⟨b1, b2, y0, y1, y2, y3, y4, y5⟩ (fun hHeld => ?_)
  refine pS (i := 1) (N := some 6) c0i ?_
  refine sI (i := 0) (N := some 5) (v := ?_) (a' := ?_) c0g rfl rfl (by kernel_rfl) (fun _ _ _ h => h) (Or.inl ⟨by rfl, ?_⟩) hHeld ?_ ?_
  rotate_left
  ·rintro w' ⟨s0, s1, s2, s3, s4, s5, s6, s7⟩
   go_simp
   with_reducible rfl
  rotate_left
  ·exact xU
  refine pS (i := 2) (N := some 7) c0e ?_
  refine sI (i := 3) (N := some 8) (v := ?_) (a' := ?_) c0c rfl rfl (by kernel_rfl) (fun _ _ _ h => h) (Or.inl ⟨by rfl, ?_⟩) hHeld ?_ ?_
  rotate_left
  ·rintro w' ⟨s0, s1, s2, s3, s4, s5, s6, s7⟩
   go_simp
   with_reducible rfl
  rotate_left
  ·exact xU
  refine a3e (i := 4) (N := some 9) c0a rfl rfl (by kernel_rfl) (by decide) (fun K hK => ?_)
  refine a5g Try.func53 (by kernel_rfl) rfl #[.agg #[.int .i64 op, .int .i64 W, .int .i64 Kq, .int .i64 A, .int .i64 B, .int .i64 Cq]] (by rfl) rfl rfl (by simp only [List.map_toArray, List.map_cons, List.map_nil]; rfl) ?_
  with_reducible refine (impl_isQuant.calls false _ (by rw [zF, HQ.out])).mono ?_
  rintro e w3 ⟨rfl, hb⟩
  refine ⟨_, rfl, ?_⟩
  have HB3 := am (show Below w.heap.size w w3 from Below.trans (by apply kV; exact Below.refl _ _) (hb.mono (by simp)))
  clear hb
  refine hK.out _ _ ⟨(kC HB3.out b1), (kC HB3.out b2), (kC HB3.out y0), (kC HB3.out y1), (kC HB3.out y2), (kC HB3.out y3), (kC HB3.out y4), (kC HB3.out y5)⟩ (fun hHeld => ?_)
  clear hK K
  refine wO (a' := ?_) ?_ ?_
  rotate_left
  ·show Act.put _ (some 9) _ = _
   exact xU
  refine pS (i := 5) (N := some 10) b9y ?_
  refine pS (i := 6) (N := some 11) b9w ?_
  refine rD (i := 7) (N := some 12) (v := undef) (a' := ?_) c2e rfl rfl (by kernel_rfl) (fun _ _ _ h => h) (Or.inr ⟨by rfl, rfl⟩) ?_ ?_
  rotate_left
  ·exact xU
  refine rD (i := 8) (N := some 13) (v := undef) (a' := ?_) c2c rfl rfl (by kernel_rfl) (fun _ _ _ h => h) (Or.inr ⟨by rfl, rfl⟩) ?_ ?_
  rotate_left
  ·exact xU
  refine rD (i := 9) (N := some 14) (v := undef) (a' := ?_) c2a rfl rfl (by kernel_rfl) (fun _ _ _ h => h) (Or.inr ⟨by rfl, rfl⟩) ?_ ?_
  rotate_left
  ·exact xU
  refine rD (i := 10) (N := some 15) (v := undef) (a' := ?_) c1y rfl rfl (by kernel_rfl) (fun _ _ _ h => h) (Or.inr ⟨by rfl, rfl⟩) ?_ ?_
  rotate_left
  ·exact xU
  refine rD (i := 11) (N := some 16) (v := undef) (a' := ?_) c1x rfl rfl (by kernel_rfl) (fun _ _ _ h => h) (Or.inr ⟨by rfl, rfl⟩) ?_ ?_
  rotate_left
  ·exact xU
  refine rD (i := 12) (N := some 17) (v := undef) (a' := ?_) b3u rfl rfl (by kernel_rfl) (fun _ _ _ h => h) (Or.inr ⟨by rfl, rfl⟩) ?_ ?_
  rotate_left
  ·exact xU
  refine rD (i := 13) (N := some 18) (v := undef) (a' := ?_) b3s rfl rfl (by kernel_rfl) (fun _ _ _ h => h) (Or.inr ⟨by rfl, rfl⟩) ?_ ?_
  rotate_left
  ·exact xU
  refine rD (i := 14) (N := some 19) (v := undef) (a' := ?_) b3r rfl rfl (by kernel_rfl) (fun _ _ _ h => h) (Or.inr ⟨by rfl, rfl⟩) ?_ ?_
  rotate_left
  ·exact xU
  exact b8q
def zB (A : Option Addr) (n c : Nat) (env : List Int) : Array Value := (Value.slice A n c :: env.map (Value.int .i64)).toArray
theorem a7h (A : Option Addr) (n c : Nat) (env : List Int) : (zB A n c env)[0]? = some (.slice A n c) := by simp [zB]
theorem a1z (A : Option Addr) (n c : Nat) (env : List Int) (i : Nat) (h : i < env.length) : (zB A n c env)[i + 1]? = some (.int .i64 (rd env (i : Int))) := by
 simp [zB, rd, h, List.getD_eq_getElem?_getD]
theorem a2o (A : Option Addr) (n c : Nat) (env : List Int) (i : Nat) (x : Int) : (zB A n c env).setIfInBounds (i + 1) (.int .i64 x) = zB A n c (env.set i x) := by
 simp [zB, List.map_set]
def a0x (n : Nat) (j : Nat) : List Int := List.replicate j (-1) ++ List.replicate (n - j) 0
theorem b2p (n j : Nat) (h : j < n) : (a0x n j).set j (-1) = a0x n (j + 1) := by
 unfold a0x
 rw [show n - j = (n - (j + 1)) + 1 by omega, List.replicate_succ, List.set_append_right _ _ (by simp), List.length_replicate, Nat.sub_self, List.set_cons_zero, List.replicate_succ', List.append_assoc]
 rfl
theorem b2q (n j : Nat) (h : j ≤ n) : (a0x n j).length = n := by simp [a0x]; omega
set_option maxHeartbeats 4000000 in
theorem impl_valuer_blank.calls (g : Nat) (A0 : Option Addr) (c0 : Nat) (l0 : List (S31)) (env : List Int) (w : World) (hb : w.heap[g]? = some (.cells (zB A0 l0.length c0 env) 65 (0, 0))) (hl : 1 ≤ l0.length) (hm : l0.length ≤ 1048576) :
  Calls Try.prog 48 #[.pointer (some ⟨g, 0, none⟩)] w fun e w' => ∃ (hb9 ck : Nat), e = .returned (.slice (some ⟨hb9, 0, none⟩) l0.length ck) ∧ Kd.R (Kd.int .i64) 3 w' w.heap.size (fun k => k = hb9) (.slice (some ⟨hb9, 0, none⟩) l0.length ck) (List.replicate l0.length (-1)) ∧ Below w.heap.size w w' := by
 have hl0 : (l0.length : Int) ≤ 1048576 := by omega
 have hc3 : (0 : Int) ≤ (l0.length : Int) := by omega
 have d3 : decide (0 ≤ (l0.length : Int)) = true := decide_eq_true hc3
 have BK := am hb; have HL := am hl; have HM := am hm
 have x0 := (kG hb 0).trans (a7h _ _ _ _)
 clear hb hl hm hc3
 go_enter Try.func48, Try.ntmps48
 go_wp2_with ((with_reducible refine qF (N := 10) rfl ?_); refine Kd.R_make (Kd.int .i64) (w0 := w) w.heap.size 3 rfl (N := 10) rfl 25 _ _ rfl (l0.length : Int) rfl rfl Try.underlying25 (.int .i64 0) 8 a0u rfl (by decide) oM 0 (ok := fun k => w.heap.size ≤ k) (okp := fun _ => False) rfl (fun _ hk => hk.elim) (by simp) oM (by have := HM.out; omega) (Below.refl _ _) (by simp) ?_; intro a2 w3 ho hb hg hnew; obtain ⟨hb9, ck, ev, gb, gl, cl, HG⟩ := Kd.R_form ho (by rw [List.length_replicate, Int.toNat_natCast]; exact HL.out); rw [List.length_replicate, Int.toNat_natCast] at ev; subst ev; rw [Int.toNat_natCast] at ho)
 have RK := am (show Kd.R (Kd.int .i64) 3 w3 w.heap.size (fun k => k = hb9) (.slice (some ⟨hb9, 0, none⟩) l0.length ck) (a0x l0.length 0) from by
  have h := ho
  rw [show a0x l0.length 0 = List.replicate l0.length 0 by simp [a0x]]
  obtain ⟨_, inner, h1, h2⟩ := h
  exact ⟨fun k hk => (oI hk).symm, inner, h1, h2⟩)
 have HB := am hb; have GB := am gb
 clear ho hb hg hnew HG gb gl
 go_loopg [4, 13] l0.length (fun g v4 a0 w' => ∃ j : Nat, a0 = .int .i64 (j : Int) ∧ Aside0 (g + j = l0.length) ∧ Aside0 (Kd.R (Kd.int .i64) 3 w' w.heap.size (fun k => k = hb9) (.slice (some ⟨hb9, 0, none⟩) l0.length ck) (a0x l0.length j)) ∧ Aside0 (Below w.heap.size w w'))
 case atStart => exact ⟨0, rfl, ⟨rfl⟩, RK, HB⟩
 obtain ⟨j, rfl, HG, RK, HB⟩ := hrel
 by_cases hj : j < l0.length
 ·have p1 : (0 : Int) ≤ (j : Int) := by omega
  have t1 : decide ((0 : Int) ≤ (j : Int)) = true := decide_eq_true p1
  have t2 : decide ((j : Int) < (l0.length : Int)) = true := decide_eq_true oM
  have hbl := b2q l0.length j oM
  obtain ⟨adx, ex, hx⟩ := Kd.at_int (Kd.R_reads' RK.out).2.2 (j : Int) p1 oM
  cases ex
  simp only [pI, Int.toNat_natCast] at hx
  obtain ⟨g2, c2, e2, a1, _, cl2, HGO⟩ := Kd.R_form RK.out oM
  rw [hbl] at e2
  cases e2
  have hfx := kP HGO j
  clear HGO
  go_wp2_with fail
  have hr := Kd.R_putn RK.out (j : Int) (-1)
  rw [Int.toNat_natCast, b2p _ _ hj] at hr
  have RK := am hr
  have HB := am (kX (g := hb9) (j := j) (v := .int .i64 (-1)) HB.out a1)
  obtain ⟨g1, rfl⟩ : ∃ g1, gk = g1 + 1 := ⟨gk - 1, by have := HG.out; omega⟩
  go_roundg g1
  case measure => omega
  case rel => exact ⟨j + 1, by go_num, ⟨by have := HG.out; omega⟩, RK, HB⟩
 obtain rfl : j = l0.length := by have := HG.out; omega
 have t2 : decide ((l0.length : Int) < (l0.length : Int)) = false := decide_eq_false oM
 go_wp2_with fail
 go_ret
 refine ⟨hb9, ck, rfl, ?_, HB.out⟩
 have h := RK.out
 rw [show a0x l0.length l0.length = List.replicate l0.length (-1) by simp [a0x]] at h
 exact h
def uV (a0 : Bool) : Option (Int) := if a0 = true then (some 1) else (some 0)
theorem impl_bit.calls (a0 : Bool) (r : Int) (w : World) (h : uV a0 = some r) :
  Calls Try.prog 113 #[.bool a0] w fun e w' => e = .returned (.int .i64 r) ∧ Drawn0 w w' := by
 have H := h
 clear h
 unfold uV at H
 replace H := iB H; rcases H with ⟨rfl, H⟩ | ⟨rfl, H⟩
 ·obtain rfl := oI H
  go_enter Try.func113, Try.ntmps113
  go_wp2
  go_ret
  exact ⟨rfl, dR⟩
 obtain rfl := oI H
 go_enter Try.func113, Try.ntmps113
 go_wp2
 go_ret
 exact ⟨rfl, dR⟩
end Go.Proofs.Ytkpipmojkhikaaa.PAll
