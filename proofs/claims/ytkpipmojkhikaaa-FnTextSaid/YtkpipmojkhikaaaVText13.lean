/- Written by a program of this session over the loaded program, and by hand: Go functions as plain Lean functions, and that a call comes to what they say. -/
import Derived.Test.YtkpipmojkhikaaaVText0
import Derived.Test.YtkpipmojkhikaaaVText10
import Derived.Test.YtkpipmojkhikaaaVText12
import Derived.Test.YtkpipmojkhikaaaBase
import Derived.Test.YtkpipmojkhikaaaSq
namespace Go.Proofs.Ytkpipmojkhikaaa.PAll
open Go.RowKit Go.Proofs.YtkpipmojkhikaaaW.PrintWords Go.Proofs.YtkpipmojkhikaaaW.PrintLast Go.Proofs.YtkpipmojkhikaaaW.PrintMore Go.Proofs.YtkpipmojkhikaaaW.Sq
attribute [local go_sem] sD rZ uM uL qV qU sA rY
set_option linter.unusedVariables false
set_option maxHeartbeats 8000000
set_option maxRecDepth 100000
set_option linter.unusedSimpArgs false
def uA : Nat → List (S31) → List (S31) → Int → Int → Option (Bool)
 | 0, _, _, _, _ => none
 | k + 1, x0, x9, a1, a0 => if a0 < a1 then (if 0 ≤ a0 then (if a0 < (x9.length : Int) then (if a0 ≤ (x0.length : Int) then ((yF (x0.take (a0 : Int).toNat) ((kA x9 a0).f0) ((kA x9 a0).f1) ((kA x9 a0).f2) ((kA x9 a0).f3) ((kA x9 a0).f4) ((kA x9 a0).f5)).bind fun a2 => (if a2 = true then (uA k x0 x9 a1 (wrap64 (a0 + 1))) else (some false))) else (none)) else (none)) else (none)) else (some true)
def wO (k : Nat) (l0 : List (S31)) : Option (Bool) := (qN (l0.length : Int) 1 80).bind fun a0 => (if a0 = true then (uA k l0 l0 (l0.length : Int) 0) else (some false))
theorem b2l {P : Prop} (h : P := by
 simp only [Act.put, List.setIfInBounds_toArray, List.set_cons_zero, List.set_cons_succ, xW, a1l]
 rfl) : P := h
theorem impl_TermOk.calls {k : Nat} {A0 : Option Addr} {c0 : Nat} {l0 : List (S31)} {r : Bool} {w : World} (hr0 : Kd.C k31 w A0 l0.length l0) (hc0 : l0.length ≤ c0) (h : wO k l0 = some r) :
  Calls Try.prog 44 #[.slice A0 l0.length c0] w fun e w' => e = .returned (.bool r) ∧ Below w.heap.size w w' := by
 have hu31 := Try.underlying31
 have aD := am hr0
 have aQ := am hc0
 clear hr0 hc0
 have HB := am (Below.refl w.heap.size w)
 have H := h
 clear h
 unfold wO at H
 replace H := oA H; obtain ⟨aY, A2, H⟩ := H
 replace H := iB H; rcases H with ⟨rfl, H⟩ | ⟨rfl, H⟩
 rotate_left
 ·obtain rfl := oI H
  go_enter Try.func44, Try.ntmps44
  go_wp2_with (first | ((with_reducible refine gW ?_); first | (refine gD (some 7) Try.func72 rfl (impl_within.calls A2.out) fun nd => ?_)))
  go_ret
  exact ⟨rfl, sW HB.out⟩
 replace H := am H
 go_enter Try.func44, Try.ntmps44
 go_wp2_with (first | ((with_reducible refine gW ?_); first | (refine gD (some 7) Try.func72 rfl (impl_within.calls A2.out) fun nd => ?_)))
 go_loopg [11] k (fun kq aW w' => ∃ (a0 : Int), aW = .int .i64 a0 ∧ Aside0 (uA kq l0 l0 (l0.length : Int) a0 = some r) ∧ Aside0 (kq ≤ k) ∧ Aside0 (Below w.heap.size w w'))
 case atStart => exact ⟨0, rfl, H, ⟨Nat.le_refl _⟩, ⟨sW HB.out⟩⟩
 clear H
 obtain ⟨a0, rfl, HA, aO, HB⟩ := hrel
 cases gk with
 | zero => cases HA.out
 | succ k1 =>
  obtain ⟨H⟩ := HA
  simp only [uA] at H
  replace H := iD H; rcases H with ⟨aT, H⟩ | ⟨aT, H⟩
  rotate_left
  ·obtain rfl := oI H
   go_wp2
   go_ret
   exact ⟨rfl, sW HB.out⟩
  replace H := iN H; obtain ⟨b2, H⟩ := H
  replace H := iN H; obtain ⟨b1, H⟩ := H
  have b0 := eq_true (oD (by assumption) : 0 ≤ a0)
  replace H := iTD H; obtain ⟨a_, aZ, H⟩ := H
  generalize aC : l0.take (a0 : Int).toNat = a5 at H
  have a6 := am aC.symm; clear aC
  replace H := oA H; obtain ⟨aX, A9, H⟩ := H
  replace H := iB H; rcases H with ⟨rfl, H⟩ | ⟨rfl, H⟩
  ·replace H := am H
   obtain ⟨aS, aR, a3, rfl, aJ, aI, aH, aG, aF, aE⟩ := ix (pL (Kd.C_below aD.out HB.out) a0)
   try go_wp2_with (first | ((with_reducible refine gW ?_); first | (refine bX 4 31 #[.int .i64 0, .int .i64 0, .int .i64 0, .int .i64 0, .int .i64 0, .int .i64 0] ?_; intro a1 hg w11 hbox hb; have a2 := am hbox; have aM := gw hg; have aN := gw hg; replace HB := hB HB hb; clear hb hbox hg; have aV := cf6 a2.out)))
   have a8 : Aside0 (((((((w11.setCell ⟨a1, 0, none⟩ (.int .i64 ((kA l0 a0).f0))).setCell ⟨a1, 1, none⟩ (.int .i64 ((kA l0 a0).f1))).setCell ⟨a1, 2, none⟩ (.int .i64 ((kA l0 a0).f2))).setCell ⟨a1, 3, none⟩ (.int .i64 ((kA l0 a0).f3))).setCell ⟨a1, 4, none⟩ (.int .i64 ((kA l0 a0).f4))).setCell ⟨a1, 5, none⟩ (.int .i64 ((kA l0 a0).f5))).heap[a1]? = some (.cells #[.int .i64 ((kA l0 a0).f0), .int .i64 ((kA l0 a0).f1), .int .i64 ((kA l0 a0).f2), .int .i64 ((kA l0 a0).f3), .int .i64 ((kA l0 a0).f4), .int .i64 ((kA l0 a0).f5)] 31 (0, 0))) := ⟨by (with_reducible repeat (first | refine sG ?_ _ | refine pO ?_ | refine sS ?_ _)); refine vZ (cs := #[.int .i64 ((kA l0 a0).f0), .int .i64 ((kA l0 a0).f1), .int .i64 ((kA l0 a0).f2), .int .i64 ((kA l0 a0).f3), .int .i64 ((kA l0 a0).f4), .int .i64 0]) ?_ 5 _ rfl; (with_reducible repeat (first | refine sG ?_ _ | refine pO ?_ | refine sS ?_ _)); refine vZ (cs := #[.int .i64 ((kA l0 a0).f0), .int .i64 ((kA l0 a0).f1), .int .i64 ((kA l0 a0).f2), .int .i64 ((kA l0 a0).f3), .int .i64 0, .int .i64 0]) ?_ 4 _ rfl; (with_reducible repeat (first | refine sG ?_ _ | refine pO ?_ | refine sS ?_ _)); refine vZ (cs := #[.int .i64 ((kA l0 a0).f0), .int .i64 ((kA l0 a0).f1), .int .i64 ((kA l0 a0).f2), .int .i64 0, .int .i64 0, .int .i64 0]) ?_ 3 _ rfl; (with_reducible repeat (first | refine sG ?_ _ | refine pO ?_ | refine sS ?_ _)); refine vZ (cs := #[.int .i64 ((kA l0 a0).f0), .int .i64 ((kA l0 a0).f1), .int .i64 0, .int .i64 0, .int .i64 0, .int .i64 0]) ?_ 2 _ rfl; (with_reducible repeat (first | refine sG ?_ _ | refine pO ?_ | refine sS ?_ _)); refine vZ (cs := #[.int .i64 ((kA l0 a0).f0), .int .i64 0, .int .i64 0, .int .i64 0, .int .i64 0, .int .i64 0]) ?_ 1 _ rfl; (with_reducible repeat (first | refine sG ?_ _ | refine pO ?_ | refine sS ?_ _)); refine vZ (cs := #[.int .i64 0, .int .i64 0, .int .i64 0, .int .i64 0, .int .i64 0, .int .i64 0]) ?_ 0 _ rfl; exact sB <| a2.out⟩
   have a7 : Aside0 (Below w.heap.size w ((((((w11.setCell ⟨a1, 0, none⟩ (.int .i64 ((kA l0 a0).f0))).setCell ⟨a1, 1, none⟩ (.int .i64 ((kA l0 a0).f1))).setCell ⟨a1, 2, none⟩ (.int .i64 ((kA l0 a0).f2))).setCell ⟨a1, 3, none⟩ (.int .i64 ((kA l0 a0).f3))).setCell ⟨a1, 4, none⟩ (.int .i64 ((kA l0 a0).f4))).setCell ⟨a1, 5, none⟩ (.int .i64 ((kA l0 a0).f5)))) := ⟨by exact bW⟩
   clear a2
   clear HB
   generalize ((((((w11.setCell ⟨a1, 0, none⟩ (.int .i64 ((kA l0 a0).f0))).setCell ⟨a1, 1, none⟩ (.int .i64 ((kA l0 a0).f1))).setCell ⟨a1, 2, none⟩ (.int .i64 ((kA l0 a0).f2))).setCell ⟨a1, 3, none⟩ (.int .i64 ((kA l0 a0).f3))).setCell ⟨a1, 4, none⟩ (.int .i64 ((kA l0 a0).f4))).setCell ⟨a1, 5, none⟩ (.int .i64 ((kA l0 a0).f5))) = w13 at a8 a7 ⊢
   have a2 := a8
   have HB := a7
   clear a8 a7
   replace a2 := am (pO a2.out)
   replace HB := am (kO HB.out)
   have aL : (a0 : Int) ≤ ((l0.length : Int) : Int) := oD (by assumption)
   obtain ⟨i015, hi015, _, hsz15, _⟩ := info_parts yI
   have hroom15 : l0.length ≤ c0 := aQ.out
   have hC15 : Kd.C k31 _ (some a3) l0.length l0 := aD.out
   have hcut15 := b8h (P := Try.prog) 24 31 .i64 Try.underlying24 hi015 (some a3) l0.length c0 a0 (oD (by assumption)) aL hroom15
   have hr15 := Kd.C_take (m := (a0 : Int).toNat) hC15 oM
   have aB : a5.length = (a0 : Int).toNat := (by rw [a6.out, List.length_take]; omega)
   rw [← a6.out] at hr15
   rw [← aB] at hcut15
   have a4 := am hr15
   have a9 := am (show a5.length ≤ c0 from by omega)
   clear hr15 hC15 hroom15 hi015 hsz15
   have KY15 := am aB
   clear aB
   replace aL := eq_true aL
   refine tM (n := 6) (S := fun w' => w'.cell? ⟨a1, 0, none⟩ = some (.int .i64 ((kA l0 a0).f0)) ∧ w'.cell? ⟨a1, 1, none⟩ = some (.int .i64 ((kA l0 a0).f1)) ∧ w'.cell? ⟨a1, 2, none⟩ = some (.int .i64 ((kA l0 a0).f2)) ∧ w'.cell? ⟨a1, 3, none⟩ = some (.int .i64 ((kA l0 a0).f3)) ∧ w'.cell? ⟨a1, 4, none⟩ = some (.int .i64 ((kA l0 a0).f4)) ∧ w'.cell? ⟨a1, 5, none⟩ = some (.int .i64 ((kA l0 a0).f5))) (ds := []) #[false, false, false, false, false, false] (by kernel_rfl) rfl rfl (cz6 a2.out) (fun hHeld => ?_)
   generalize w13.drew = w14 at a2 HB a4 hHeld ⊢
   refine pS (i := 0) (N := some 16) #[true, false, false, false, false, false] ?_
   refine pS (i := 1) (N := some 17) #[true, true, false, false, false, false] ?_
   refine pS (i := 2) (N := some 18) #[true, true, true, false, false, false] ?_
   refine qF (i := 3) (N := some 19) (v := ?_) (a' := ?_) #[true, true, true, true, false, false] rfl rfl (by kernel_rfl) (fun _ _ _ h => h) (Or.inl ⟨by rfl, ?_⟩) hHeld ?_ ?_
   rotate_left
   ·rintro w' ⟨s0, s1, s2, s3, s4, s5⟩
    go_simp
    with_reducible rfl
   rotate_left
   ·exact b2l
   refine yN (i := 4) (N := some 20) #[true, true, true, true, true, false] rfl rfl (by kernel_rfl) (by decide) (fun K hK => ?_)
   refine yB Try.func73 (by kernel_rfl) rfl #[.slice (some a3) a5.length c0, .agg #[.int .i64 ((kA l0 a0).f0), .int .i64 ((kA l0 a0).f1), .int .i64 ((kA l0 a0).f2), .int .i64 ((kA l0 a0).f3), .int .i64 ((kA l0 a0).f4), .int .i64 ((kA l0 a0).f5)]] (by rfl) rfl rfl tm ?_
   with_reducible refine (impl_isRight.calls _ _ _ _ _ _ _ _ _ _ _ ?side1 ?side2 A9.out).mono ?_
   (case side1 => exact sC (Kd.C_below a4.out HB.out))
   (case side2 => exact a9.out)
   rintro e w16 ⟨rfl, hb⟩
   refine ⟨_, rfl, ?_⟩
   replace a2 := gB a2 hb
   replace HB := hX hb
   clear hb
   refine hK.out _ _ (cz6 a2.out) (fun hHeld => ?_)
   clear hK K
   refine rO (a' := ?_) ?_ ?_
   rotate_left
   ·show Act.put _ (some 20) _ = _
    exact b2l
   refine pS (i := 5) (N := some 21) #[true, true, true, true, true, true] ?_
   refine yK (by kernel_rfl) ?_
   try go_wp2
   go_roundg k1
   case measure => have := aO.out; omega
   case rel => exact ⟨(wrap64 (a0 + 1)), rfl, H, ⟨by have := aO.out; omega⟩, ⟨bW⟩⟩
  obtain rfl := oI H
  obtain ⟨aS, aR, a3, rfl, aJ, aI, aH, aG, aF, aE⟩ := ix (pL (Kd.C_below aD.out HB.out) a0)
  try go_wp2_with (first | ((with_reducible refine gW ?_); first | (refine bX 4 31 #[.int .i64 0, .int .i64 0, .int .i64 0, .int .i64 0, .int .i64 0, .int .i64 0] ?_; intro a1 hg w17 hbox hb; have a2 := am hbox; have aM := gw hg; have aN := gw hg; replace HB := hB HB hb; clear hb hbox hg; have aU := cf6 a2.out)))
  have a8 : Aside0 (((((((w17.setCell ⟨a1, 0, none⟩ (.int .i64 ((kA l0 a0).f0))).setCell ⟨a1, 1, none⟩ (.int .i64 ((kA l0 a0).f1))).setCell ⟨a1, 2, none⟩ (.int .i64 ((kA l0 a0).f2))).setCell ⟨a1, 3, none⟩ (.int .i64 ((kA l0 a0).f3))).setCell ⟨a1, 4, none⟩ (.int .i64 ((kA l0 a0).f4))).setCell ⟨a1, 5, none⟩ (.int .i64 ((kA l0 a0).f5))).heap[a1]? = some (.cells #[.int .i64 ((kA l0 a0).f0), .int .i64 ((kA l0 a0).f1), .int .i64 ((kA l0 a0).f2), .int .i64 ((kA l0 a0).f3), .int .i64 ((kA l0 a0).f4), .int .i64 ((kA l0 a0).f5)] 31 (0, 0))) := ⟨by (with_reducible repeat (first | refine sG ?_ _ | refine pO ?_ | refine sS ?_ _)); refine vZ (cs := #[.int .i64 ((kA l0 a0).f0), .int .i64 ((kA l0 a0).f1), .int .i64 ((kA l0 a0).f2), .int .i64 ((kA l0 a0).f3), .int .i64 ((kA l0 a0).f4), .int .i64 0]) ?_ 5 _ rfl; (with_reducible repeat (first | refine sG ?_ _ | refine pO ?_ | refine sS ?_ _)); refine vZ (cs := #[.int .i64 ((kA l0 a0).f0), .int .i64 ((kA l0 a0).f1), .int .i64 ((kA l0 a0).f2), .int .i64 ((kA l0 a0).f3), .int .i64 0, .int .i64 0]) ?_ 4 _ rfl; (with_reducible repeat (first | refine sG ?_ _ | refine pO ?_ | refine sS ?_ _)); refine vZ (cs := #[.int .i64 ((kA l0 a0).f0), .int .i64 ((kA l0 a0).f1), .int .i64 ((kA l0 a0).f2), .int .i64 0, .int .i64 0, .int .i64 0]) ?_ 3 _ rfl; (with_reducible repeat (first | refine sG ?_ _ | refine pO ?_ | refine sS ?_ _)); refine vZ (cs := #[.int .i64 ((kA l0 a0).f0), .int .i64 ((kA l0 a0).f1), .int .i64 0, .int .i64 0, .int .i64 0, .int .i64 0]) ?_ 2 _ rfl; (with_reducible repeat (first | refine sG ?_ _ | refine pO ?_ | refine sS ?_ _)); refine vZ (cs := #[.int .i64 ((kA l0 a0).f0), .int .i64 0, .int .i64 0, .int .i64 0, .int .i64 0, .int .i64 0]) ?_ 1 _ rfl; (with_reducible repeat (first | refine sG ?_ _ | refine pO ?_ | refine sS ?_ _)); refine vZ (cs := #[.int .i64 0, .int .i64 0, .int .i64 0, .int .i64 0, .int .i64 0, .int .i64 0]) ?_ 0 _ rfl; exact sB <| a2.out⟩
  have a7 : Aside0 (Below w.heap.size w ((((((w17.setCell ⟨a1, 0, none⟩ (.int .i64 ((kA l0 a0).f0))).setCell ⟨a1, 1, none⟩ (.int .i64 ((kA l0 a0).f1))).setCell ⟨a1, 2, none⟩ (.int .i64 ((kA l0 a0).f2))).setCell ⟨a1, 3, none⟩ (.int .i64 ((kA l0 a0).f3))).setCell ⟨a1, 4, none⟩ (.int .i64 ((kA l0 a0).f4))).setCell ⟨a1, 5, none⟩ (.int .i64 ((kA l0 a0).f5)))) := ⟨by exact bW⟩
  clear a2
  clear HB
  generalize ((((((w17.setCell ⟨a1, 0, none⟩ (.int .i64 ((kA l0 a0).f0))).setCell ⟨a1, 1, none⟩ (.int .i64 ((kA l0 a0).f1))).setCell ⟨a1, 2, none⟩ (.int .i64 ((kA l0 a0).f2))).setCell ⟨a1, 3, none⟩ (.int .i64 ((kA l0 a0).f3))).setCell ⟨a1, 4, none⟩ (.int .i64 ((kA l0 a0).f4))).setCell ⟨a1, 5, none⟩ (.int .i64 ((kA l0 a0).f5))) = w19 at a8 a7 ⊢
  have a2 := a8
  have HB := a7
  clear a8 a7
  replace a2 := am (pO a2.out)
  replace HB := am (kO HB.out)
  have aK : (a0 : Int) ≤ ((l0.length : Int) : Int) := oD (by assumption)
  obtain ⟨i021, hi021, _, hsz21, _⟩ := info_parts yI
  have hroom21 : l0.length ≤ c0 := aQ.out
  have hC21 : Kd.C k31 _ (some a3) l0.length l0 := aD.out
  have hcut21 := b8h (P := Try.prog) 24 31 .i64 Try.underlying24 hi021 (some a3) l0.length c0 a0 (oD (by assumption)) aK hroom21
  have hr21 := Kd.C_take (m := (a0 : Int).toNat) hC21 oM
  have aA : a5.length = (a0 : Int).toNat := (by rw [a6.out, List.length_take]; omega)
  rw [← a6.out] at hr21
  rw [← aA] at hcut21
  have a4 := am hr21
  have a9 := am (show a5.length ≤ c0 from by omega)
  clear hr21 hC21 hroom21 hi021 hsz21
  have KY21 := am aA
  clear aA
  replace aK := eq_true aK
  refine tM (n := 6) (S := fun w' => w'.cell? ⟨a1, 0, none⟩ = some (.int .i64 ((kA l0 a0).f0)) ∧ w'.cell? ⟨a1, 1, none⟩ = some (.int .i64 ((kA l0 a0).f1)) ∧ w'.cell? ⟨a1, 2, none⟩ = some (.int .i64 ((kA l0 a0).f2)) ∧ w'.cell? ⟨a1, 3, none⟩ = some (.int .i64 ((kA l0 a0).f3)) ∧ w'.cell? ⟨a1, 4, none⟩ = some (.int .i64 ((kA l0 a0).f4)) ∧ w'.cell? ⟨a1, 5, none⟩ = some (.int .i64 ((kA l0 a0).f5))) (ds := []) #[false, false, false, false, false, false] (by kernel_rfl) rfl rfl (cz6 a2.out) (fun hHeld => ?_)
  generalize w19.drew = w20 at a2 HB a4 hHeld ⊢
  refine pS (i := 0) (N := some 16) #[true, false, false, false, false, false] ?_
  refine pS (i := 1) (N := some 17) #[true, true, false, false, false, false] ?_
  refine pS (i := 2) (N := some 18) #[true, true, true, false, false, false] ?_
  refine qF (i := 3) (N := some 19) (v := ?_) (a' := ?_) #[true, true, true, true, false, false] rfl rfl (by kernel_rfl) (fun _ _ _ h => h) (Or.inl ⟨by rfl, ?_⟩) hHeld ?_ ?_
  rotate_left
  ·rintro w' ⟨s0, s1, s2, s3, s4, s5⟩
   go_simp
   with_reducible rfl
  rotate_left
  ·exact b2l
  refine yN (i := 4) (N := some 20) #[true, true, true, true, true, false] rfl rfl (by kernel_rfl) (by decide) (fun K hK => ?_)
  refine yB Try.func73 (by kernel_rfl) rfl #[.slice (some a3) a5.length c0, .agg #[.int .i64 ((kA l0 a0).f0), .int .i64 ((kA l0 a0).f1), .int .i64 ((kA l0 a0).f2), .int .i64 ((kA l0 a0).f3), .int .i64 ((kA l0 a0).f4), .int .i64 ((kA l0 a0).f5)]] (by rfl) rfl rfl tm ?_
  with_reducible refine (impl_isRight.calls _ _ _ _ _ _ _ _ _ _ _ ?side1 ?side2 A9.out).mono ?_
  (case side1 => exact sC (Kd.C_below a4.out HB.out))
  (case side2 => exact a9.out)
  rintro e w22 ⟨rfl, hb⟩
  refine ⟨_, rfl, ?_⟩
  replace a2 := gB a2 hb
  replace HB := hX hb
  clear hb
  refine hK.out _ _ (cz6 a2.out) (fun hHeld => ?_)
  clear hK K
  refine rO (a' := ?_) ?_ ?_
  rotate_left
  ·show Act.put _ (some 20) _ = _
   exact b2l
  refine pS (i := 5) (N := some 21) #[true, true, true, true, true, true] ?_
  refine yK (by kernel_rfl) ?_
  try go_wp2
  go_ret
  exact ⟨rfl, bW⟩
def rH : Nat → Int → ByteArray → Option (ByteArray)
 | 0, _, _ => none
 | k + 1, x0, x3 => if x3.toList = ([] : List UInt8) then ((some (([(IntKind.u64.wrap (48 + (Int.tmod x0 10))) % 256] : List Int) : List Int)).bind fun a1 => (if (strOfNums a1).size + x3.size ≤ 9223372036854775807 then (rH k (IntKind.u64.wrap (Int.tdiv x0 10)) ((strOfNums a1) ++ x3)) else (none))) else (if x0 > 0 then ((some (([(IntKind.u64.wrap (48 + (Int.tmod x0 10))) % 256] : List Int) : List Int)).bind fun a0 => (if (strOfNums a0).size + x3.size ≤ 9223372036854775807 then (rH k (IntKind.u64.wrap (Int.tdiv x0 10)) ((strOfNums a0) ++ x3)) else (none))) else (some x3))
def xU (k : Nat) (a0 : Int) : Option (ByteArray) := rH k a0 (⟨#[]⟩ : ByteArray)
theorem impl_digits.calls (k : Nat) (a0 : Int) (r : ByteArray) (w : World) (h : xU k a0 = some r) :
  Calls Try.prog 121 #[.int .u64 a0] w fun e w' => e = .returned (.string r) ∧ Below w.heap.size w w' := by
 have HB := am (Below.refl w.heap.size w)
 have H := h
 clear h
 unfold xU at H
 replace H := am H
 go_enter Try.func121, Try.ntmps121
 go_wp2
 go_loopg [0, 3] k (fun kq v0 v3 w' => ∃ (a1 : Int) (a2 : ByteArray), v0 = .int .u64 a1 ∧ v3 = .string a2 ∧ Aside0 (rH kq a1 a2 = some r) ∧ Aside0 (kq ≤ k) ∧ Aside0 (Below w.heap.size w w'))
 case atStart => exact ⟨a0, ((⟨#[]⟩ : ByteArray)), rfl, rfl, H, ⟨Nat.le_refl _⟩, ⟨sW HB.out⟩⟩
 clear H
 obtain ⟨a1, a2, rfl, rfl, HA, a6, HB⟩ := hrel
 cases gk with
 | zero => cases HA.out
 | succ k1 =>
  obtain ⟨H⟩ := HA
  simp only [rH] at H
  replace H := iE H; rcases H with ⟨aE, aD, H⟩ | ⟨aE, aD, H⟩
  ·replace H := oS H; obtain ⟨a4, a9, H⟩ := H
   replace H := iP H; obtain ⟨c3, H⟩ := H
   have aM := eq_true c3
   have aL : decide ((strOfNums a4).size + a2.size ≤ 9223372036854775807) = true := decide_eq_true c3
   try have aK : (9223372036854775807 < (strOfNums a4).size + a2.size) = False := eq_false (Nat.not_lt.2 c3)
   replace H := am H
   go_wp2_with (first | ((with_reducible refine qC (N := 16) rfl ?_); refine Kd.R_lit (Kd.int .u8) _ 5 ?hg (N := 16) ?hd (xs := ([(IntKind.u64.wrap (48 + (Int.tmod a1 10))) % 256] : List Int)) (inner := [.int .u8 ((IntKind.u64.wrap (48 + (Int.tmod a1 10))) % 256)]) (ok := fun _ => True) (okp := fun _ => True) ?hr ?hp (fun _ hk => hk) trivial (Below.refl _ _) (Nat.le_refl _) (by simp) ?_; (case hd => rfl); (case hg => rfl); (case hr => (go_simp; done)); (case hp => exact (Reps.one (show Kd.M (Kd.int .u8) _ _ _ ((IntKind.u64.wrap (48 + (Int.tmod a1 10))) % 256) [.int .u8 ((IntKind.u64.wrap (48 + (Int.tmod a1 10))) % 256)] from rfl) (Reps.none _ _))); intro aG w4 a7 hb hg_ hnew_; clear hg_ hnew_; (rw [← a9.out] at a7); have aB := rL a7 HB; replace HB := hB HB hb; clear hb a7; have hcv6 := a7k (P := Try.prog) Try.underlying22 Try.underlying5 Try.underlying9 (Kd.own_of_R aB.out)))
   go_roundg k1
   case measure => have := a6.out; omega
   case rel => exact ⟨(IntKind.u64.wrap (Int.tdiv a1 10)), ((strOfNums a4) ++ a2), rfl, rfl, H, ⟨by have := a6.out; omega⟩, ⟨sW HB.out⟩⟩
  by_cases c7 : a1 > 0
  ·rw [if_pos c7] at H
   have aC : decide (0 < a1) = true := decide_eq_true c7
   clear c7
   replace H := oS H; obtain ⟨a3, a8, H⟩ := H
   replace H := iP H; obtain ⟨c8, H⟩ := H
   have aJ := eq_true c8
   have aI : decide ((strOfNums a3).size + a2.size ≤ 9223372036854775807) = true := decide_eq_true c8
   try have aH : (9223372036854775807 < (strOfNums a3).size + a2.size) = False := eq_false (Nat.not_lt.2 c8)
   replace H := am H
   go_wp2_with (first | ((with_reducible refine qC (N := 16) rfl ?_); refine Kd.R_lit (Kd.int .u8) _ 5 ?hg (N := 16) ?hd (xs := ([(IntKind.u64.wrap (48 + (Int.tmod a1 10))) % 256] : List Int)) (inner := [.int .u8 ((IntKind.u64.wrap (48 + (Int.tmod a1 10))) % 256)]) (ok := fun _ => True) (okp := fun _ => True) ?hr ?hp (fun _ hk => hk) trivial (Below.refl _ _) (Nat.le_refl _) (by simp) ?_; (case hd => rfl); (case hg => rfl); (case hr => (go_simp; done)); (case hp => exact (Reps.one (show Kd.M (Kd.int .u8) _ _ _ ((IntKind.u64.wrap (48 + (Int.tmod a1 10))) % 256) [.int .u8 ((IntKind.u64.wrap (48 + (Int.tmod a1 10))) % 256)] from rfl) (Reps.none _ _))); intro aF w9 a5 hb hg_ hnew_; clear hg_ hnew_; (rw [← a8.out] at a5); have aA := rL a5 HB; replace HB := hB HB hb; clear hb a5; have hcv11 := a7k (P := Try.prog) Try.underlying22 Try.underlying5 Try.underlying9 (Kd.own_of_R aA.out)))
   go_roundg k1
   case measure => have := a6.out; omega
   case rel => exact ⟨(IntKind.u64.wrap (Int.tdiv a1 10)), ((strOfNums a3) ++ a2), rfl, rfl, H, ⟨by have := a6.out; omega⟩, ⟨sW HB.out⟩⟩
  rw [if_neg c7] at H
  have aC : decide (0 < a1) = false := decide_eq_false c7
  clear c7
  obtain rfl := oI H
  go_wp2
  go_ret
  exact ⟨rfl, sW HB.out⟩
def qE (k : Nat) (a0 : Int) : Option (ByteArray) := if a0 < 0 then ((xU k (IntKind.u64.wrap ((IntKind.u64.wrap (wrap64 (-(wrap64 (a0 + 1))))) + 1))).bind fun a1 => (if 1 + a1.size ≤ 9223372036854775807 then (some ((⟨#[45]⟩ : ByteArray) ++ a1)) else (none))) else ((xU k (IntKind.u64.wrap (a0))).bind fun a2 => (some a2))
theorem impl_decimal.calls {k : Nat} {a0 : Int} {r : ByteArray} {w : World} (h : qE k a0 = some r) :
  Calls Try.prog 86 #[.int .i64 a0] w fun e w' => e = .returned (.string r) ∧ Below w.heap.size w w' := by
 have HB := am (Below.refl w.heap.size w)
 have H := h
 clear h
 unfold qE at H
 replace H := iD H; rcases H with ⟨a2, H⟩ | ⟨a2, H⟩
 ·replace H := oA H; obtain ⟨a1, A3, H⟩ := H
  replace H := iP H; obtain ⟨c4, H⟩ := H
  have a6 := eq_true c4
  have a5 : decide (1 + a1.size ≤ 9223372036854775807) = true := decide_eq_true c4
  try have a4 : (9223372036854775807 < 1 + a1.size) = False := eq_false (Nat.not_lt.2 c4)
  obtain rfl := oI H
  go_enter Try.func86, Try.ntmps86
  go_wp2_with (first | ((with_reducible refine gW ?_); first | (refine gF 121 (some 10) rfl ?_; refine gS Try.func121 (impl_digits.calls k (IntKind.u64.wrap ((IntKind.u64.wrap (wrap64 (-(wrap64 (a0 + 1))))) + 1)) a1 _ A3.out) ?_; rintro w5 hb; replace HB := hB HB hb; (try clear hb))))
  go_ret
  exact ⟨rfl, sW HB.out⟩
 replace H := oA H; obtain ⟨a3, A6, H⟩ := H
 obtain rfl := oI H
 go_enter Try.func86, Try.ntmps86
 go_wp2_with (first | ((with_reducible refine gW ?_); first | (refine gF 121 (some 14) rfl ?_; refine gS Try.func121 (impl_digits.calls _ _ _ _ A6.out) ?_; rintro w7 hb; replace HB := hB HB hb; (try clear hb))))
 go_ret
 exact ⟨rfl, sW HB.out⟩
def vP (a0 : Int) : Option (ByteArray) := (some (([(⟨#[97, 110, 100]⟩ : ByteArray), (⟨#[111, 114]⟩ : ByteArray), (⟨#[120, 111, 114]⟩ : ByteArray), (⟨#[97, 100, 100]⟩ : ByteArray), (⟨#[115, 117, 98]⟩ : ByteArray), (⟨#[109, 117, 108]⟩ : ByteArray), (⟨#[100, 105, 118]⟩ : ByteArray), (⟨#[114, 101, 109]⟩ : ByteArray), (⟨#[115, 104, 108]⟩ : ByteArray), (⟨#[115, 104, 114]⟩ : ByteArray), (⟨#[61]⟩ : ByteArray), (⟨#[60]⟩ : ByteArray), (⟨#[115, 60]⟩ : ByteArray), (⟨#[106, 111, 105, 110]⟩ : ByteArray)] : List ByteArray) : List ByteArray)).bind fun a1 => ((qN a0 3 16).bind fun a2 => (if a2 = true then (if 0 ≤ (wrap64 (a0 - 3)) then (if (wrap64 (a0 - 3)) < (a1.length : Int) then (some (vD ByteArray.empty a1 (wrap64 (a0 - 3)))) else (none)) else (none)) else (some (⟨#[]⟩ : ByteArray))))
theorem impl_opWord.calls {a0 : Int} {r : ByteArray} {w : World} (h : vP a0 = some r) :
  Calls Try.prog 87 #[.int .i64 a0] w fun e w' => e = .returned (.string r) ∧ Below w.heap.size w w' := by
 have HB := am (Below.refl w.heap.size w)
 have H := h
 clear h
 unfold vP at H
 replace H := oS H; obtain ⟨aB, a3, H⟩ := H
 replace H := oA H; obtain ⟨aC, A2, H⟩ := H
 replace H := iB H; rcases H with ⟨rfl, H⟩ | ⟨rfl, H⟩
 ·generalize a5 : wrap64 (a0 - 3) = a6 at H
  (try rw [a5] at A2)
  have a9 : (IntKind.i64.wrap (a0 - 3)) = a6 := (xW _).trans a5
  replace H := iN H; obtain ⟨aG, H⟩ := H
  replace H := iN H; obtain ⟨aF, H⟩ := H
  obtain rfl := oI H
  go_enter Try.func87, Try.ntmps87
  go_wp2_with (first | ((with_reducible refine gW ?_); first | ((with_reducible refine qC (N := 4) rfl ?_); refine Kd.R_lit Kd.string _ 9 ?hg (N := 4) ?hd (xs := ([(⟨#[97, 110, 100]⟩ : ByteArray), (⟨#[111, 114]⟩ : ByteArray), (⟨#[120, 111, 114]⟩ : ByteArray), (⟨#[97, 100, 100]⟩ : ByteArray), (⟨#[115, 117, 98]⟩ : ByteArray), (⟨#[109, 117, 108]⟩ : ByteArray), (⟨#[100, 105, 118]⟩ : ByteArray), (⟨#[114, 101, 109]⟩ : ByteArray), (⟨#[115, 104, 108]⟩ : ByteArray), (⟨#[115, 104, 114]⟩ : ByteArray), (⟨#[61]⟩ : ByteArray), (⟨#[60]⟩ : ByteArray), (⟨#[115, 60]⟩ : ByteArray), (⟨#[106, 111, 105, 110]⟩ : ByteArray)] : List ByteArray)) (inner := [.string (⟨#[97, 110, 100]⟩ : ByteArray), .string (⟨#[111, 114]⟩ : ByteArray), .string (⟨#[120, 111, 114]⟩ : ByteArray), .string (⟨#[97, 100, 100]⟩ : ByteArray), .string (⟨#[115, 117, 98]⟩ : ByteArray), .string (⟨#[109, 117, 108]⟩ : ByteArray), .string (⟨#[100, 105, 118]⟩ : ByteArray), .string (⟨#[114, 101, 109]⟩ : ByteArray), .string (⟨#[115, 104, 108]⟩ : ByteArray), .string (⟨#[115, 104, 114]⟩ : ByteArray), .string (⟨#[61]⟩ : ByteArray), .string (⟨#[60]⟩ : ByteArray), .string (⟨#[115, 60]⟩ : ByteArray), .string (⟨#[106, 111, 105, 110]⟩ : ByteArray)]) (ok := fun _ => True) (okp := fun _ => True) ?hr ?hp (fun _ hk => hk) trivial (Below.refl _ _) (Nat.le_refl _) (by simp) ?_; (case hd => rfl); (case hg => rfl); (case hr => (go_simp; done)); (case hp => exact (Reps.one (show Kd.M Kd.string _ _ _ (⟨#[97, 110, 100]⟩ : ByteArray) [.string (⟨#[97, 110, 100]⟩ : ByteArray)] from rfl) (Reps.one (show Kd.M Kd.string _ _ _ (⟨#[111, 114]⟩ : ByteArray) [.string (⟨#[111, 114]⟩ : ByteArray)] from rfl) (Reps.one (show Kd.M Kd.string _ _ _ (⟨#[120, 111, 114]⟩ : ByteArray) [.string (⟨#[120, 111, 114]⟩ : ByteArray)] from rfl) (Reps.one (show Kd.M Kd.string _ _ _ (⟨#[97, 100, 100]⟩ : ByteArray) [.string (⟨#[97, 100, 100]⟩ : ByteArray)] from rfl) (Reps.one (show Kd.M Kd.string _ _ _ (⟨#[115, 117, 98]⟩ : ByteArray) [.string (⟨#[115, 117, 98]⟩ : ByteArray)] from rfl) (Reps.one (show Kd.M Kd.string _ _ _ (⟨#[109, 117, 108]⟩ : ByteArray) [.string (⟨#[109, 117, 108]⟩ : ByteArray)] from rfl) (Reps.one (show Kd.M Kd.string _ _ _ (⟨#[100, 105, 118]⟩ : ByteArray) [.string (⟨#[100, 105, 118]⟩ : ByteArray)] from rfl) (Reps.one (show Kd.M Kd.string _ _ _ (⟨#[114, 101, 109]⟩ : ByteArray) [.string (⟨#[114, 101, 109]⟩ : ByteArray)] from rfl) (Reps.one (show Kd.M Kd.string _ _ _ (⟨#[115, 104, 108]⟩ : ByteArray) [.string (⟨#[115, 104, 108]⟩ : ByteArray)] from rfl) (Reps.one (show Kd.M Kd.string _ _ _ (⟨#[115, 104, 114]⟩ : ByteArray) [.string (⟨#[115, 104, 114]⟩ : ByteArray)] from rfl) (Reps.one (show Kd.M Kd.string _ _ _ (⟨#[61]⟩ : ByteArray) [.string (⟨#[61]⟩ : ByteArray)] from rfl) (Reps.one (show Kd.M Kd.string _ _ _ (⟨#[60]⟩ : ByteArray) [.string (⟨#[60]⟩ : ByteArray)] from rfl) (Reps.one (show Kd.M Kd.string _ _ _ (⟨#[115, 60]⟩ : ByteArray) [.string (⟨#[115, 60]⟩ : ByteArray)] from rfl) (Reps.one (show Kd.M Kd.string _ _ _ (⟨#[106, 111, 105, 110]⟩ : ByteArray) [.string (⟨#[106, 111, 105, 110]⟩ : ByteArray)] from rfl) (Reps.none _ _)))))))))))))))); intro a7 w7 a4 hb hg_ hnew_; clear hg_ hnew_; (rw [← a3.out] at a4); have a1 := rL a4 HB; replace HB := hB HB hb; clear hb a4) | (refine gD (some 6) Try.func72 rfl (impl_within.calls A2.out) fun nd => ?_; obtain ⟨aI, aH, rfl⟩ := Kd.R_slice a1.out; obtain ⟨aE, aD, aA, rfl, a8⟩ := ix (Kd.at_string (Kd.R_reads' a1.out).2.2 (a6)))))
  go_ret
  exact ⟨rfl, sW HB.out⟩
 obtain rfl := oI H
 go_enter Try.func87, Try.ntmps87
 go_wp2_with (first | ((with_reducible refine gW ?_); first | ((with_reducible refine qC (N := 4) rfl ?_); refine Kd.R_lit Kd.string _ 9 ?hg (N := 4) ?hd (xs := ([(⟨#[97, 110, 100]⟩ : ByteArray), (⟨#[111, 114]⟩ : ByteArray), (⟨#[120, 111, 114]⟩ : ByteArray), (⟨#[97, 100, 100]⟩ : ByteArray), (⟨#[115, 117, 98]⟩ : ByteArray), (⟨#[109, 117, 108]⟩ : ByteArray), (⟨#[100, 105, 118]⟩ : ByteArray), (⟨#[114, 101, 109]⟩ : ByteArray), (⟨#[115, 104, 108]⟩ : ByteArray), (⟨#[115, 104, 114]⟩ : ByteArray), (⟨#[61]⟩ : ByteArray), (⟨#[60]⟩ : ByteArray), (⟨#[115, 60]⟩ : ByteArray), (⟨#[106, 111, 105, 110]⟩ : ByteArray)] : List ByteArray)) (inner := [.string (⟨#[97, 110, 100]⟩ : ByteArray), .string (⟨#[111, 114]⟩ : ByteArray), .string (⟨#[120, 111, 114]⟩ : ByteArray), .string (⟨#[97, 100, 100]⟩ : ByteArray), .string (⟨#[115, 117, 98]⟩ : ByteArray), .string (⟨#[109, 117, 108]⟩ : ByteArray), .string (⟨#[100, 105, 118]⟩ : ByteArray), .string (⟨#[114, 101, 109]⟩ : ByteArray), .string (⟨#[115, 104, 108]⟩ : ByteArray), .string (⟨#[115, 104, 114]⟩ : ByteArray), .string (⟨#[61]⟩ : ByteArray), .string (⟨#[60]⟩ : ByteArray), .string (⟨#[115, 60]⟩ : ByteArray), .string (⟨#[106, 111, 105, 110]⟩ : ByteArray)]) (ok := fun _ => True) (okp := fun _ => True) ?hr ?hp (fun _ hk => hk) trivial (Below.refl _ _) (Nat.le_refl _) (by simp) ?_; (case hd => rfl); (case hg => rfl); (case hr => (go_simp; done)); (case hp => exact (Reps.one (show Kd.M Kd.string _ _ _ (⟨#[97, 110, 100]⟩ : ByteArray) [.string (⟨#[97, 110, 100]⟩ : ByteArray)] from rfl) (Reps.one (show Kd.M Kd.string _ _ _ (⟨#[111, 114]⟩ : ByteArray) [.string (⟨#[111, 114]⟩ : ByteArray)] from rfl) (Reps.one (show Kd.M Kd.string _ _ _ (⟨#[120, 111, 114]⟩ : ByteArray) [.string (⟨#[120, 111, 114]⟩ : ByteArray)] from rfl) (Reps.one (show Kd.M Kd.string _ _ _ (⟨#[97, 100, 100]⟩ : ByteArray) [.string (⟨#[97, 100, 100]⟩ : ByteArray)] from rfl) (Reps.one (show Kd.M Kd.string _ _ _ (⟨#[115, 117, 98]⟩ : ByteArray) [.string (⟨#[115, 117, 98]⟩ : ByteArray)] from rfl) (Reps.one (show Kd.M Kd.string _ _ _ (⟨#[109, 117, 108]⟩ : ByteArray) [.string (⟨#[109, 117, 108]⟩ : ByteArray)] from rfl) (Reps.one (show Kd.M Kd.string _ _ _ (⟨#[100, 105, 118]⟩ : ByteArray) [.string (⟨#[100, 105, 118]⟩ : ByteArray)] from rfl) (Reps.one (show Kd.M Kd.string _ _ _ (⟨#[114, 101, 109]⟩ : ByteArray) [.string (⟨#[114, 101, 109]⟩ : ByteArray)] from rfl) (Reps.one (show Kd.M Kd.string _ _ _ (⟨#[115, 104, 108]⟩ : ByteArray) [.string (⟨#[115, 104, 108]⟩ : ByteArray)] from rfl) (Reps.one (show Kd.M Kd.string _ _ _ (⟨#[115, 104, 114]⟩ : ByteArray) [.string (⟨#[115, 104, 114]⟩ : ByteArray)] from rfl) (Reps.one (show Kd.M Kd.string _ _ _ (⟨#[61]⟩ : ByteArray) [.string (⟨#[61]⟩ : ByteArray)] from rfl) (Reps.one (show Kd.M Kd.string _ _ _ (⟨#[60]⟩ : ByteArray) [.string (⟨#[60]⟩ : ByteArray)] from rfl) (Reps.one (show Kd.M Kd.string _ _ _ (⟨#[115, 60]⟩ : ByteArray) [.string (⟨#[115, 60]⟩ : ByteArray)] from rfl) (Reps.one (show Kd.M Kd.string _ _ _ (⟨#[106, 111, 105, 110]⟩ : ByteArray) [.string (⟨#[106, 111, 105, 110]⟩ : ByteArray)] from rfl) (Reps.none _ _)))))))))))))))); intro a7 w10 a2 hb hg_ hnew_; clear hg_ hnew_; (rw [← a3.out] at a2); have a1 := rL a2 HB; replace HB := hB HB hb; clear hb a2) | (refine gD (some 6) Try.func72 rfl (impl_within.calls A2.out) fun nd => ?_)))
 go_ret
 exact ⟨rfl, sW HB.out⟩
end Go.Proofs.Ytkpipmojkhikaaa.PAll
