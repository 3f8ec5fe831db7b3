/- Written by a program of this session over the loaded program, and by hand: Go functions as plain Lean functions, and that a call comes to what they say. -/
import Derived.Test.YtkpipmojkhikaaaVInstances0
import Derived.Test.YtkpipmojkhikaaaVInstances11
import Derived.Test.YtkpipmojkhikaaaVInstances13
import Derived.Test.YtkpipmojkhikaaaBase
import Derived.Test.YtkpipmojkhikaaaSq
namespace Go.Proofs.Ytkpipmojkhikaaa.PAll
open Go.RowKit Go.Proofs.YtkpipmojkhikaaaW.PrintWords Go.Proofs.YtkpipmojkhikaaaW.PrintLast Go.Proofs.YtkpipmojkhikaaaW.PrintMore Go.Proofs.YtkpipmojkhikaaaW.Sq
attribute [local go_sem] rF rC tK tJ qE qD rD rA
set_option linter.unusedVariables false
set_option maxHeartbeats 8000000
set_option maxRecDepth 100000
set_option linter.unusedSimpArgs false
mutual
def pG : Nat → Int → Int → List (S31) → List (S31) → Int → Int → Option ((List (S31)) × Bool)
 | 0, _, _, _, _, _, _ => none
 | k + 1, x1, x2, x8, a1, a2, a0 => if a0 < a2 then (if 0 ≤ a0 then (if a0 < (a1.length : Int) then ((qQ ((kA a1 a0).f0) ((kA a1 a0).f1) ((kA a1 a0).f2) ((kA a1 a0).f3) ((kA a1 a0).f4) ((kA a1 a0).f5)).bind fun a7 => (if a7 = true then (if ((kA a1 a0).f2) = x1 then (qF k x1 x2 x8 a0 a1 a2 a0 true ((kA a1 a0).f0) ((kA a1 a0).f1) ((kA a1 a0).f2) ((kA a1 a0).f3) ((kA a1 a0).f4) ((kA a1 a0).f5)) else (if ((kA a1 a0).f0) = 1 then (qF k x1 x2 x8 a0 a1 a2 a0 false ((kA a1 a0).f0) ((kA a1 a0).f1) ((kA a1 a0).f2) ((kA a1 a0).f3) ((kA a1 a0).f4) ((kA a1 a0).f5)) else (qF k x1 x2 x8 a0 a1 a2 a0 false ((kA a1 a0).f0) ((kA a1 a0).f1) ((kA a1 a0).f2) ((kA a1 a0).f3) ((kA a1 a0).f4) ((kA a1 a0).f5)))) else (if ((kA a1 a0).f0) = 1 then (if ((kA a1 a0).f2) = x1 then ((qU ((kA a1 a0).f1) x2).bind fun a6 => (qF k x1 x2 x8 a0 a1 a2 a0 (!a6) ((kA a1 a0).f0) ((kA a1 a0).f1) ((kA a1 a0).f2) ((kA a1 a0).f3) ((kA a1 a0).f4) ((kA a1 a0).f5))) else (qF k x1 x2 x8 a0 a1 a2 a0 false ((kA a1 a0).f0) ((kA a1 a0).f1) ((kA a1 a0).f2) ((kA a1 a0).f3) ((kA a1 a0).f4) ((kA a1 a0).f5))) else (qF k x1 x2 x8 a0 a1 a2 a0 false ((kA a1 a0).f0) ((kA a1 a0).f1) ((kA a1 a0).f2) ((kA a1 a0).f3) ((kA a1 a0).f4) ((kA a1 a0).f5))))) else (none)) else (none)) else (some (x8, true))
def qF : Nat → Int → Int → List (S31) → Int → List (S31) → Int → Int → Bool → Int → Int → Int → Int → Int → Int → Option ((List (S31)) × Bool)
 | 0, _, _, _, _, _, _, _, _, _, _, _, _, _, _ => none
 | k + 1, x1, x2, x8, x9, a1, a2, a0, aB, a5, a4, a3, aA, a9, a8 => if aB = true then (some (([] : List (S31)), false)) else (if a5 = 1 then (if a3 = x1 then (if 0 ≤ x9 then (if x9 < (x8.length : Int) then (pG k x1 x2 (x8.set (x9 : Int).toNat (⟨0, a4, x2, 0, 0, 0⟩ : S31)) a1 a2 (wrap64 (a0 + 1))) else (none)) else (none)) else (pG k x1 x2 x8 a1 a2 (wrap64 (a0 + 1)))) else (pG k x1 x2 x8 a1 a2 (wrap64 (a0 + 1))))
end
def wZ (k : Nat) (l0 : List (S31)) (a1 : Int) (a2 : Int) : Option ((List (S31)) × Bool) := (uK k l0).bind fun a0 => (if a0 = true then (if ([] : List (S31)).length + l0.length < 2932031007402 then (pG k a1 a2 (([] : List (S31)) ++ l0) l0 (l0.length : Int) 0) else (none)) else (some (([] : List (S31)), false)))
theorem b0d {P : Prop} (h : P := by
 replace H := am H
 have cL := cf6 a3.out
 go_wp2_with (first | ((go_at_call 53; (with_reducible refine (impl_isQuant.calls _ _ b8.out).mono ?_); rintro e d2 ⟨rfl, hb⟩; replace a5 := am (Kd.R_below (by exact sR <| (rm (rf 5 (rf 4 (rf 3 (rf 2 (rf 1 (rf 0 (rp a5))))))))) hb); replace a3 := am (kR (by exact sB <| pn (by exact sB <| a3.out)) hb); replace HB := hX hb; (try clear hb); have d1 := cf6 a3.out)))
 go_meet
 case rel => exact ⟨_, false, rfl, H, ⟨by have := aA.out; omega⟩, ⟨sR <| Kd.R_mono a5.out (fun _ hk => hk.2)⟩, ⟨sB <| a3.out⟩, ⟨bW⟩⟩) : P := h
theorem b8k {P : Prop} (h : P := by
 replace H := am H
 have cL := cf6 a3.out
 go_wp2
 go_roundg aZ
 case measure => have := aA.out; have := aC.out; omega
 case rel => exact ⟨a6, (wrap64 (a0 + 1)), rfl, H, ⟨by have := aA.out; have := aC.out; omega⟩, ⟨sR <| Kd.R_mono a5.out (fun _ hk => trivial)⟩, ⟨bW⟩⟩) : P := h
theorem impl_Replace.calls {k : Nat} {A0 : Option Addr} {c0 : Nat} {l0 : List (S31)} {a1 a2 : Int} {r1 : List (S31)} {r2 : Bool} {w : World} (hr0 : Kd.C k31 w A0 l0.length l0) (hc0 : l0.length ≤ c0) (h : wZ k l0 a1 a2 = some (r1, r2)) :
  Calls Try.prog 17 #[.slice A0 l0.length c0, .int .i64 a1, .int .i64 a2] w fun e w' => ∃ bQ : Value, e = .returned (.tuple #[bQ, .bool r2]) ∧ Kd.R k31 31 w' w.heap.size (fun _ => True) bQ r1 ∧ Below w.heap.size w w' := by
 have hu31 := Try.underlying31
 have aI := am hr0
 have bZ := am hc0
 clear hr0 hc0
 have HB := am (Below.refl w.heap.size w)
 have H := h
 clear h
 unfold wZ at H
 replace H := oA H; obtain ⟨d0, A4, H⟩ := H
 replace H := iB H; rcases H with ⟨rfl, H⟩ | ⟨rfl, H⟩
 rotate_left
 ·simp only [Option.some.injEq, Prod.mk.injEq] at H
  obtain ⟨rfl, rfl⟩ := H
  go_enter Try.func17, Try.ntmps17
  go_wp2_with (first | ((with_reducible refine gW ?_); first | (refine gC 44 (some 12) Try.func44 #[.slice A0 l0.length c0] ?_; (with_reducible refine (impl_TermOk.calls _ _ _ _ _ _ ?side1 ?side2 A4.out).mono ?_); (case side1 => repeat (first | exact aI.out | (with_reducible refine Kd.C_alloc ?_ _) | (with_reducible refine Kd.C_drewN ?_ _) | (with_reducible refine Kd.C_drew ?_))); (case side2 => exact bZ.out); rintro e w51 ⟨rfl, hb⟩; refine ⟨_, rfl, ?_⟩; replace HB := hB HB hb; (try clear hb))))
  go_ret2
  exact ⟨_, rfl, by exact Kd.R_nil _ _ _ _ _, sW HB.out⟩
 replace H := iP H; obtain ⟨c6, H⟩ := H
 have cF := am c6
 clear c6
 generalize aH : ([] : List (S31)) ++ l0 = b_ at H
 have bO := am aH.symm; clear aH
 replace H := am H
 go_enter Try.func17, Try.ntmps17
 go_wp2_with (first | ((with_reducible refine gW ?_); first | (refine gC 44 (some 12) Try.func44 #[.slice A0 l0.length c0] ?_; (with_reducible refine (impl_TermOk.calls _ _ _ _ _ _ ?side1 ?side2 A4.out).mono ?_); (case side1 => repeat (first | exact aI.out | (with_reducible refine Kd.C_alloc ?_ _) | (with_reducible refine Kd.C_drewN ?_ _) | (with_reducible refine Kd.C_drew ?_))); (case side2 => exact bZ.out); rintro e w7 ⟨rfl, hb⟩; refine ⟨_, rfl, ?_⟩; replace HB := hB HB hb; (try clear hb)) | ((with_reducible refine kS (b := .append) (xs := #[.const (.slice none 0 0), .tmp 14]) rfl ?_); at_builtin; refine Kd.R_append_rows k31 (w0 := w) w.heap.size rfl (.const (.slice none 0 0)) (.tmp 14) 24 31 (.agg #[(.int .i64 0), (.int .i64 0), (.int .i64 0), (.int .i64 0), (.int .i64 0), (.int .i64 0)]) 48 rfl Try.underlying24 uV rfl (by decide) oM (.slice none 0 0) ([] : List (S31)) l0 _ _ _ (fun _ => True) (fun _ => False) rfl rfl ?aO ?aR (fun _ _ h => h) (fun _ h => h.elim) ?aF ?aB ?aS ?aL ?_; (case aR => exact sC (Kd.C_below aI.out HB.out)); (case aB => exact (by exact sW HB.out)); (case aF => exact (fun _ _ => trivial)); (case aO => exact ((Kd.R_nil _ _ _ _ (fun _ => True)))); (case aS => exact (kE (by exact sW HB.out))); (case aL => have := cF.out; omega); intro aW w8 ho hb hg hat; rw [← bO.out] at ho; replace HB := am hb; have bP := am ho; clear ho hb hg hat)))
 go_loopg [18] k (fun kq cN w' => ∃ (a6 : List (S31)) (a0 : Int), cN = .int .i64 a0 ∧ Aside0 (pG kq a1 a2 a6 l0 (l0.length : Int) a0 = some (r1, r2)) ∧ Aside0 (kq ≤ k) ∧ Aside0 (Kd.R k31 31 w' w.heap.size (fun _ => True) aW a6) ∧ Aside0 (Below w.heap.size w w'))
 case atStart => exact ⟨b_, 0, rfl, H, ⟨Nat.le_refl _⟩, ⟨sR <| bP.out⟩, ⟨sW HB.out⟩⟩
 clear H
 obtain ⟨a6, a0, rfl, HA, aA, a5, HB⟩ := hrel
 cases gk with
 | zero => cases HA.out
 | succ k1 =>
  obtain ⟨H⟩ := HA
  simp only [pG] at H
  replace H := iD H; rcases H with ⟨b7, H⟩ | ⟨b7, H⟩
  rotate_left
  ·simp only [Option.some.injEq, Prod.mk.injEq] at H
   obtain ⟨rfl, rfl⟩ := H
   go_wp2
   go_ret2
   exact ⟨_, rfl, sR <| a5.out, sW HB.out⟩
  replace H := iN H; obtain ⟨bM, H⟩ := H
  replace H := iN H; obtain ⟨bL, H⟩ := H
  have aE := am H; clear H
  obtain ⟨cC, cB, cX, rfl, aT, aQ, aN, aM, aK, aJ⟩ := ix (pE (Kd.C_below aI.out HB.out) a0)
  go_upto_region 7 with (first | ((with_reducible refine pQ (N := 10) rfl ?_); refine vZ ?hg (N := 10) ?hd (cs := #[.int .i64 0, .int .i64 0, .int .i64 0, .int .i64 0, .int .i64 0, .int .i64 0]) (t := 31) ?hr ?_; (case hd => rfl); (case hg => rfl); (case hr => (go_simp; done)); intro a7 hg w13 hbox hb; have bV := am (Kd.R_below (Kd.R_elderB (by exact sR <| a5.out) a7 (Nat.le_of_eq hg.symm)) hb); have bU := am (xE (by exact sW HB.out) hb); have bT := am (hbox); have bS := gw hg; have bR := gw hg; clear a5; clear HB; have a5 := bV; have HB := bU; have a3 := bT; have cY := bS; have cZ := bR; clear bV bU bT bS bR; clear hb hbox hg; have aU := cf6 a3.out))
  (try simp only [Act.put, List.setIfInBounds_toArray, List.set_cons_zero, List.set_cons_succ])
  go_cut [48] (fun cM wc => ∃ (kq : Nat) (a9 : Bool), cM = .bool a9 ∧ Aside0 (qF kq a1 a2 a6 a0 l0 (l0.length : Int) a0 a9 ((kA l0 a0).f0) ((kA l0 a0).f1) ((kA l0 a0).f2) ((kA l0 a0).f3) ((kA l0 a0).f4) ((kA l0 a0).f5) = some (r1, r2)) ∧ Aside0 (kq ≤ k1) ∧ Aside0 (Kd.R k31 31 wc w.heap.size (fun k_ => k_ ≠ a7) aW a6) ∧ Aside0 (wc.heap[a7]? = some (.cells #[.int .i64 ((kA l0 a0).f0), .int .i64 ((kA l0 a0).f1), .int .i64 ((kA l0 a0).f2), .int .i64 ((kA l0 a0).f3), .int .i64 ((kA l0 a0).f4), .int .i64 ((kA l0 a0).f5)] 31 (0, 0))) ∧ Aside0 (Below w.heap.size w wc))
  case first =>
   have H := aE.out
   clear aE
   replace H := oA H; obtain ⟨c_, b8, H⟩ := H
   replace H := iB H; rcases H with ⟨rfl, H⟩ | ⟨rfl, H⟩
   ·replace H := iE H; rcases H with ⟨bK, bJ, H⟩ | ⟨bK, bJ, H⟩
    ·replace H := am H
     have cK := cf6 a3.out
     go_wp2_with (first | ((go_at_call 53; (with_reducible refine (impl_isQuant.calls _ _ b8.out).mono ?_); rintro e w19 ⟨rfl, hb⟩; replace a5 := am (Kd.R_below (by exact sR <| (rm (rf 5 (rf 4 (rf 3 (rf 2 (rf 1 (rf 0 (rp a5))))))))) hb); replace a3 := am (kR (by exact sB <| pn (by exact sB <| a3.out)) hb); replace HB := hX hb; (try clear hb); have cJ := cf6 a3.out)))
     go_meet
     case rel => exact ⟨_, true, rfl, H, ⟨by have := aA.out; omega⟩, ⟨sR <| Kd.R_mono a5.out (fun _ hk => hk.2)⟩, ⟨sB <| a3.out⟩, ⟨bW⟩⟩
    replace H := iE H; rcases H with ⟨bI, bH, H⟩ | ⟨bI, bH, H⟩
    ·exact b0d
    exact b0d
   replace H := iE H; rcases H with ⟨bG, bF, H⟩ | ⟨bG, bF, H⟩
   ·replace H := iE H; rcases H with ⟨bE, bD, H⟩ | ⟨bE, bD, H⟩
    ·replace H := oA H; obtain ⟨c1, cU, H⟩ := H
     replace H := am H
     have cI := cf6 a3.out
     go_wp2_with (first | (go_at_call 54; refine cD (impl_WordOk.calls _ _ _ _ cU.out) fun nd => ?_) | ((go_at_call 53; (with_reducible refine (impl_isQuant.calls _ _ b8.out).mono ?_); rintro e w32 ⟨rfl, hb⟩; replace a5 := am (Kd.R_below (by exact sR <| (rm (rf 5 (rf 4 (rf 3 (rf 2 (rf 1 (rf 0 (rp a5))))))))) hb); replace a3 := am (kR (by exact sB <| pn (by exact sB <| a3.out)) hb); replace HB := hX hb; (try clear hb); have cH := cf6 a3.out)))
     go_meet
     case rel => exact ⟨_, (!c1), rfl, H, ⟨by have := aA.out; omega⟩, ⟨sR <| Kd.R_mono a5.out (fun _ hk => hk.2)⟩, ⟨sB <| a3.out⟩, ⟨bW⟩⟩
    exact b0d
   exact b0d
  clear aE
  clear b7 bM bL aU aT aQ aN aM aK aJ cC cB
  obtain ⟨kq, a9, rfl, HA, aC, a5, a3, HB⟩ := hcut
  cases kq with
  | zero => cases HA.out
  | succ aZ =>
   obtain ⟨H⟩ := HA
   simp only [qF] at H
   replace H := iB H; rcases H with ⟨rfl, H⟩ | ⟨rfl, H⟩
   ·simp only [Option.some.injEq, Prod.mk.injEq] at H
    obtain ⟨rfl, rfl⟩ := H
    go_wp2
    go_ret2
    exact ⟨_, rfl, by exact Kd.R_nil _ _ _ _ _, bW⟩
   replace H := iE H; rcases H with ⟨bC, bB, H⟩ | ⟨bC, bB, H⟩
   rotate_left
   ·exact b8k
   replace H := iE H; rcases H with ⟨bA, b9, H⟩ | ⟨bA, b9, H⟩
   rotate_left
   ·exact b8k
   replace H := iN H; obtain ⟨cW, H⟩ := H
   replace H := iN H; obtain ⟨cV, H⟩ := H
   generalize aG : a6.set (a0 : Int).toNat (⟨0, ((kA l0 a0).f1), a2, 0, 0, 0⟩ : S31) = aV at H
   have bN := am aG.symm; clear aG
   replace H := am H
   have cG := cf6 a3.out
   have aY : 0 ≤ (a0 : Int) := oD (by assumption)
   have aX : (a0 : Int) < ((a6.length : Int) : Int) := oD (by assumption)
   obtain ⟨a4, b6, cE, b5, gl45, cl45, HG45⟩ := Kd.R_form a5.out oM
   (cases cE)
   have a8 := am b5
   have GG45 := am HG45
   clear b5 gl45 HG45
   obtain ⟨ce45, hcl45, hM45, hcc45, hfr45⟩ := Kd.R_elem a5.out z31 (a0 : Int) aY aX
   obtain rfl := wY hM45
   have cT : wc.cell? ⟨a4, (a0 : Int).toNat * 6, none⟩ = some (.int .i64 ((kA a6 a0).f0)) := hcc45 0 _ rfl
   have cS : wc.cell? ⟨a4, (a0 : Int).toNat * 6 + 1, none⟩ = some (.int .i64 ((kA a6 a0).f1)) := hcc45 1 _ rfl
   have cR : wc.cell? ⟨a4, (a0 : Int).toNat * 6 + 2, none⟩ = some (.int .i64 ((kA a6 a0).f2)) := hcc45 2 _ rfl
   have cQ : wc.cell? ⟨a4, (a0 : Int).toNat * 6 + 3, none⟩ = some (.int .i64 ((kA a6 a0).f3)) := hcc45 3 _ rfl
   have cP : wc.cell? ⟨a4, (a0 : Int).toNat * 6 + 4, none⟩ = some (.int .i64 ((kA a6 a0).f4)) := hcc45 4 _ rfl
   have cO : wc.cell? ⟨a4, (a0 : Int).toNat * 6 + 5, none⟩ = some (.int .i64 ((kA a6 a0).f5)) := hcc45 5 _ rfl
   have hf45_0 : wc.frozen? ⟨a4, (a0 : Int).toNat * 6, none⟩ = false := hfr45 0
   have hf45_1 : wc.frozen? ⟨a4, (a0 : Int).toNat * 6 + 1, none⟩ = false := hfr45 1
   have hf45_2 : wc.frozen? ⟨a4, (a0 : Int).toNat * 6 + 2, none⟩ = false := hfr45 2
   have hf45_3 : wc.frozen? ⟨a4, (a0 : Int).toNat * 6 + 3, none⟩ = false := hfr45 3
   have hf45_4 : wc.frozen? ⟨a4, (a0 : Int).toNat * 6 + 4, none⟩ = false := hfr45 4
   have hf45_5 : wc.frozen? ⟨a4, (a0 : Int).toNat * 6 + 5, none⟩ = false := hfr45 5
   clear hcl45 hcc45 hfr45 hM45
   replace aY := eq_true aY
   replace aX := eq_true aX
   have HX47 := am (show Kd.R k31 31 wc w.heap.size (fun k_ => k_ ≠ a7) (.slice (some ⟨a4, 0, none⟩) a6.length b6) a6 from (by exact sR <| a5.out))
   obtain ⟨ce47, hcl47, hM47, hcc47, hfr47⟩ := Kd.R_elem HX47.out z31 (a0 : Int) (oD (by assumption)) (by have h_ : (a0 : Int) < ((a6.length : Int) : Int) := oD (by assumption); exact h_)
   obtain rfl := wY hM47
   have aD := Kd.R_seg HX47.out (a0 : Int) (oD (by assumption)) (by have h_ : (a0 : Int) < ((a6.length : Int) : Int) := oD (by assumption); exact h_) (seg := [.int .i64 0, .int .i64 ((kA l0 a0).f1), .int .i64 a2, .int .i64 0, .int .i64 0, .int .i64 0]) (j := 0) hcl47 hcc47 (show 6 ≤ 6 from by decide) (x' := (⟨0, ((kA l0 a0).f1), a2, 0, 0, 0⟩ : S31)) (sO _ _ _ (⟨0, ((kA l0 a0).f1), a2, 0, 0, 0⟩ : S31) ) (fun _ hk => hk)
   have b4 := hcc47 0 _ rfl
   (try simp only [show (k31).sz = 6 from rfl, Nat.mul_one, Nat.add_zero] at b4)
   have hf47_0 := hfr47 0
   (try simp only [show (k31).sz = 6 from rfl, Nat.mul_one, Nat.add_zero] at hf47_0)
   have b3 := hcc47 1 _ rfl
   (try simp only [show (k31).sz = 6 from rfl, Nat.mul_one, Nat.add_zero] at b3)
   have hf47_1 := hfr47 1
   (try simp only [show (k31).sz = 6 from rfl, Nat.mul_one, Nat.add_zero] at hf47_1)
   have b2 := hcc47 2 _ rfl
   (try simp only [show (k31).sz = 6 from rfl, Nat.mul_one, Nat.add_zero] at b2)
   have hf47_2 := hfr47 2
   (try simp only [show (k31).sz = 6 from rfl, Nat.mul_one, Nat.add_zero] at hf47_2)
   have b1 := hcc47 3 _ rfl
   (try simp only [show (k31).sz = 6 from rfl, Nat.mul_one, Nat.add_zero] at b1)
   have hf47_3 := hfr47 3
   (try simp only [show (k31).sz = 6 from rfl, Nat.mul_one, Nat.add_zero] at hf47_3)
   have b0 := hcc47 4 _ rfl
   (try simp only [show (k31).sz = 6 from rfl, Nat.mul_one, Nat.add_zero] at b0)
   have hf47_4 := hfr47 4
   (try simp only [show (k31).sz = 6 from rfl, Nat.mul_one, Nat.add_zero] at hf47_4)
   have a_ := hcc47 5 _ rfl
   (try simp only [show (k31).sz = 6 from rfl, Nat.mul_one, Nat.add_zero] at a_)
   have hf47_5 := hfr47 5
   (try simp only [show (k31).sz = 6 from rfl, Nat.mul_one, Nat.add_zero] at hf47_5)
   clear hcl47 hcc47 hfr47 hM47
   go_wp2_with (first | ((with_reducible refine rO (t := 31) (p := 64) rfl ?_); refine qK (t := 31) (p := 64) (v := ?vo_w48) (w1 := ((((((wc.setCell ⟨a4, (a0 : Int).toNat * 6, none⟩ (.int .i64 0)).setCell ⟨a4, (a0 : Int).toNat * 6 + 1, none⟩ (.int .i64 ((kA l0 a0).f1))).setCell ⟨a4, (a0 : Int).toNat * 6 + 2, none⟩ (.int .i64 a2)).setCell ⟨a4, (a0 : Int).toNat * 6 + 3, none⟩ (.int .i64 0)).setCell ⟨a4, (a0 : Int).toNat * 6 + 4, none⟩ (.int .i64 0)).setCell ⟨a4, (a0 : Int).toNat * 6 + 5, none⟩ (.int .i64 0))) ?hg ?ho ?hn ?hr ?_; (case ho => rfl); (case hg => rfl); (case hn => rfl); (case hr => (go_simp; done)); intro w48 hw; have hg : wc.grownBy w48 (some a4) := (by rw [hw]; exact aD.2); have hp_ : Kd.R k31 31 w48 w.heap.size (fun k_ => k_ ≠ a7) (.slice (some ⟨a4, 0, none⟩) a6.length b6) aV := (by rw [hw, bN.out]; exact aD.1); clear aD; replace a3 := am (qG (g := a7) (o := .cells #[.int .i64 ((kA l0 a0).f0), .int .i64 ((kA l0 a0).f1), .int .i64 ((kA l0 a0).f2), .int .i64 ((kA l0 a0).f3), .int .i64 ((kA l0 a0).f4), .int .i64 ((kA l0 a0).f5)] 31 (0, 0)) (by exact sB <| a3.out) hg (Kd.R_away a5.out (fun _ hk => hk))); replace a5 := am hp_; replace HB := am ((by rw [hw]; exact pJ (pJ (pJ (pJ (pJ (pJ (HB.out) a8.out) a8.out) a8.out) a8.out) a8.out) a8.out : Below w.heap.size w w48)); clear hg hw hp_))
   go_roundg aZ
   case measure => have := aA.out; have := aC.out; omega
   case rel => exact ⟨aV, (wrap64 (a0 + 1)), rfl, H, ⟨by have := aA.out; have := aC.out; omega⟩, ⟨sR <| Kd.R_mono a5.out (fun _ hk => trivial)⟩, ⟨bW⟩⟩
end Go.Proofs.Ytkpipmojkhikaaa.PAll
