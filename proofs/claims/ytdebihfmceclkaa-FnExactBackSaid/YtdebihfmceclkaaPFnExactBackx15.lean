/- Written by a program of this session over the loaded program: Go functions as plain Lean functions, and that a call comes to what they say. -/
import Derived.Test.YtdebihfmceclkaaPFnExactBackx0
import Derived.Test.YtdebihfmceclkaaPFnExactBackx8
import Derived.Test.YtdebihfmceclkaaPFnExactBackx9
import Derived.Test.YtdebihfmceclkaaPFnExactBackx11
import Derived.Test.YtdebihfmceclkaaPFnExactBackx12
import Derived.Test.YtdebihfmceclkaaPFnExactBackx14
import Derived.Test.YtdebihfmceclkaaSq
namespace Go.Proofs.Ytdebihfmceclkaa.PFnExactBack
open Go.RowKit Go.Proofs.YtdebihfmceclkaaW.PrintWords Go.Proofs.YtdebihfmceclkaaW.PrintLast Go.Proofs.YtdebihfmceclkaaW.PrintMore Go.Proofs.YtdebihfmceclkaaW.Sq
attribute [local go_sem] max2_int min2_int max_two min_two max_three min_three max_four min_four   -- for this text's walks alone
set_option linter.unusedVariables false
set_option linter.unusedSimpArgs false

@[reducible] def zA0x15 : Array Bool := #[false, false, false, false, false, false, false, false, false, false, false, false, false, false, false, false, false, false, false, false, false, false]
@[reducible] def zA1x15 : Array Bool := #[true, false, false, false, false, false, false, false, false, false, false, false, false, false, false, false, false, false, false, false, false, false]
@[reducible] def zA2x15 : Array Bool := #[true, true, false, false, false, false, false, false, false, false, false, false, false, false, false, false, false, false, false, false, false, false]
@[reducible] def zA3x15 : Array Bool := #[true, true, true, false, false, false, false, false, false, false, false, false, false, false, false, false, false, false, false, false, false, false]
@[reducible] def zA4x15 : Array Bool := #[true, true, true, true, false, false, false, false, false, false, false, false, false, false, false, false, false, false, false, false, false, false]
@[reducible] def zA5x15 : Array Bool := #[true, true, true, true, true, false, false, false, false, false, false, false, false, false, false, false, false, false, false, false, false, false]
@[reducible] def zA6x15 : Array Bool := #[true, true, true, true, true, true, false, false, false, false, false, false, false, false, false, false, false, false, false, false, false, false]
@[reducible] def zA7x15 : Array Bool := #[true, true, true, true, true, true, true, false, false, false, false, false, false, false, false, false, false, false, false, false, false, false]
@[reducible] def zA8x15 : Array Bool := #[true, true, true, true, true, true, true, true, false, false, false, false, false, false, false, false, false, false, false, false, false, false]
@[reducible] def zA9x15 : Array Bool := #[true, true, true, true, true, true, true, true, true, false, false, false, false, false, false, false, false, false, false, false, false, false]
@[reducible] def zA10x15 : Array Bool := #[true, true, true, true, true, true, true, true, true, true, false, false, false, false, false, false, false, false, false, false, false, false]
@[reducible] def zA11x15 : Array Bool := #[true, true, true, true, true, true, true, true, true, true, true, false, false, false, false, false, false, false, false, false, false, false]
@[reducible] def zA12x15 : Array Bool := #[true, true, true, true, true, true, true, true, true, true, true, true, false, false, false, false, false, false, false, false, false, false]
@[reducible] def zA13x15 : Array Bool := #[true, true, true, true, true, true, true, true, true, true, true, true, true, false, false, false, false, false, false, false, false, false]
@[reducible] def zA14x15 : Array Bool := #[true, true, true, true, true, true, true, true, true, true, true, true, true, true, false, false, false, false, false, false, false, false]
@[reducible] def zA15x15 : Array Bool := #[true, true, true, true, true, true, true, true, true, true, true, true, true, true, true, false, false, false, false, false, false, false]
@[reducible] def zA16x15 : Array Bool := #[true, true, true, true, true, true, true, true, true, true, true, true, true, true, true, true, false, false, false, false, false, false]
@[reducible] def zA17x15 : Array Bool := #[true, true, true, true, true, true, true, true, true, true, true, true, true, true, true, true, true, false, false, false, false, false]
@[reducible] def zA18x15 : Array Bool := #[true, true, true, true, true, true, true, true, true, true, true, true, true, true, true, true, true, true, false, false, false, false]
@[reducible] def zA19x15 : Array Bool := #[true, true, true, true, true, true, true, true, true, true, true, true, true, true, true, true, true, true, true, false, false, false]
@[reducible] def zA20x15 : Array Bool := #[true, true, true, true, true, true, true, true, true, true, true, true, true, true, true, true, true, true, true, true, false, false]
@[reducible] def zA21x15 : Array Bool := #[true, true, true, true, true, true, true, true, true, true, true, true, true, true, true, true, true, true, true, true, true, false]
@[reducible] def zA22x15 : Array Bool := #[true, true, true, true, true, true, true, true, true, true, true, true, true, true, true, true, true, true, true, true, true, true]
@[reducible] def zA23x15 : Array Bool := #[true, true, true, true, true, true, true, true, true, true, true, true, true, true, false, true, false, false, false, false, false, false]
/-! ### impl_FrontOk: by hand -/
def wsetQ (ws : List Int) (x : S76) : Option (List Int) := if inB x.f1 0 7 = true ∧ inB x.f2 1 8 = true ∧ ¬ 0 < ws.getD x.f1.toNat 0 then some (ws.set x.f1.toNat x.f2) else none
def widthsQ : List (S76) → List Int → Option (List Int)
 | [], ws => some ws
 | x :: q, ws => (wsetQ ws x).bind (widthsQ q)
def frontBad (l : List (S36)) (met : List Bool) (ws : List Int) (i : Nat) : Bool :=
 ((rd_T36 l (i : Int)).f0 == 19 || (rd_T36 l (i : Int)).f0 == 20) || (met.getD i false && ((rd_T36 l (i : Int)).f0 == 1) && ((rd_T36 l (i : Int)).f1 != ws.getD (rd_T36 l (i : Int)).f2.toNat 0))
def frontFits (l : List (S36)) (met : List Bool) : Bool := (List.range l.length).all fun i => !(met.getD i false && ((rd_T36 l (i : Int)).f0 == 1)) || inB (rd_T36 l (i : Int)).f2 0 7
def impl_FrontOk.g (k : Nat) (l1 : List (S36)) (ws : List Int) : Option Bool :=
 (impl_TermOk.f k l1).bind fun b => if b = true then (if 1 ≤ l1.length then (if (rd_T36 l1 ((l1.length : Int) - 1)).f1 = 1 then (impl_reached.f k l1).bind fun met => (if met.length = l1.length ∧ frontFits l1 met = true then some ((List.range l1.length).all fun i => !frontBad l1 met ws i) else none) else some false) else none) else some false
def impl_FrontOk.o (k : Nat) (l1 : List (S36)) : Option (List Int) → Option Bool
 | none => some false
 | some ws => impl_FrontOk.g k l1 ws
def impl_FrontOk.f (k : Nat) (l0 : List (S76)) (l1 : List (S36)) : Option Bool := impl_FrontOk.o k l1 (widthsQ l0 (List.replicate 8 0))
theorem impl_FrontOk.mono : ∀ a0 a1 k, LeO (impl_FrontOk.f k a0 a1) (impl_FrontOk.f (k + 1) a0 a1) := by
 intro a0 a1 k
 unfold impl_FrontOk.f
 cases widthsQ a0 (List.replicate 8 0) with
 | none => exact LeO.refl _
 | some ws =>
  show LeO (impl_FrontOk.g k a1 ws) (impl_FrontOk.g (k + 1) a1 ws)
  unfold impl_FrontOk.g
  exact LeO.bind (impl_TermOk.mono _ _) (fun b => LeO.ite (LeO.ite (LeO.ite (LeO.bind (impl_reached.mono _ _) (fun _ => LeO.refl _)) (LeO.refl _)) (LeO.refl _)) (LeO.refl _))
theorem isQuantF (a b c d e f : Int) : impl_isQuant.f a b c d e f = some ((a == 19) || (a == 20)) := by
 unfold impl_isQuant.f
 by_cases h : a = 19
 ·rw [if_pos h]; simp [h]
 ·rw [if_neg h]; simp [h]
theorem blk6f {w : World} {g T : Nat} {a b c d e f : Int} (h : w.heap[g]? = some (.cells #[.int .i64 a, .int .i64 b, .int .i64 c, .int .i64 d, .int .i64 e, .int .i64 f] T (0, 0))) :
  w.cell? ⟨g, 0, none⟩ = some (.int .i64 a) ∧ w.cell? ⟨g, 1, none⟩ = some (.int .i64 b) ∧ w.cell? ⟨g, 2, none⟩ = some (.int .i64 c) ∧ w.cell? ⟨g, 3, none⟩ = some (.int .i64 d) ∧ w.cell? ⟨g, 4, none⟩ = some (.int .i64 e) ∧ w.cell? ⟨g, 5, none⟩ = some (.int .i64 f) :=
 ⟨(blk_cell h 0).trans rfl, (blk_cell h 1).trans rfl, (blk_cell h 2).trans rfl, (blk_cell h 3).trans rfl, (blk_cell h 4).trans rfl, (blk_cell h 5).trans rfl⟩
theorem ws_cell {w : World} {g : Nat} {ws : List Int} (h : w.heap[g]? = some (.cells (ws.map (Value.int .i64)).toArray 79 (0, 0))) (i : Nat) (hi : i < ws.length) : w.cell? ⟨g, i, none⟩ = some (.int .i64 (ws.getD i 0)) := by
 rw [blk_cell h i, List.getD_eq_getElem?_getD, List.getElem?_eq_getElem hi]; simp [hi]
theorem ws_set {w : World} {g : Nat} {ws : List Int} (h : w.heap[g]? = some (.cells (ws.map (Value.int .i64)).toArray 79 (0, 0))) (i : Nat) (v : Int) : (w.setCell ⟨g, i, none⟩ (.int .i64 v)).heap[g]? = some (.cells ((ws.set i v).map (Value.int .i64)).toArray 79 (0, 0)) := by
 rw [blk_set h i (.int .i64 v), List.map_set]; simp
set_option maxHeartbeats 4000000 in
set_option maxRecDepth 100000 in
theorem impl_FrontOk.calls (k : Nat) (A0 : Option Addr) (c0 : Nat) (l0 : List (S76)) (A1 : Option Addr) (c1 : Nat) (l1 : List (S36)) (r : Bool) (w : World) (hr0 : Kd.C k76 w A0 l0.length l0) (hc0 : l0.length ≤ c0) (hr1 : Kd.C k36 w A1 l1.length l1) (hc1 : l1.length ≤ c1) (h : impl_FrontOk.f k l0 l1 = some r) :
  Calls Try.prog 34 #[.slice A0 l0.length c0, .slice A1 l1.length c1] w fun e w' => e = .returned (.bool r) ∧ Below w.heap.size w w' := by
 have hl0 : (l0.length : Int) ≤ 9223372036854775807 := by have := hr0.2.1; omega
 have hl1 : (l1.length : Int) ≤ 9223372036854775807 := by have := hr1.2.1; omega
 have HR0 := Aside0.mk hr0
 have HC0 := Aside0.mk hc0
 have HR1 := Aside0.mk hr1
 have HC1 := Aside0.mk hc1
 have H := Aside0.mk h
 have tc := fun (b : Bool) => (Bool.eq_false_or_eq_true b).symm
 clear hr0 hc0 hr1 hc1 h
 go_enter Try.func34, Try.ntmps34
 go_wp2
 go_loopg [14] l0.length (fun g v14 w' => ∃ (j : Nat) (ws : List Int), v14 = .int .i64 (j : Int) ∧ Aside0 (g + j = l0.length) ∧ Aside0 (ws.length = 8) ∧ Aside0 (widthsQ (l0.drop j) ws = widthsQ l0 (List.replicate 8 0)) ∧
  Aside0 (w'.heap[w.heap.size]? = some (.cells (ws.map (Value.int .i64)).toArray 79 (0, 0))) ∧ Aside0 (Below w.heap.size w w') ∧ Aside0 (w.heap.size < w'.heap.size))
 case atStart =>
  exact ⟨0, List.replicate 8 0, rfl, ⟨by omega⟩, ⟨rfl⟩, ⟨rfl⟩, ⟨(heap_alloc_new w _).trans rfl⟩, ⟨below_alloc (Below.refl _ _) _⟩, ⟨by simp⟩⟩
 case round =>
  obtain ⟨j, ws, rfl, HG, HL, HW, AR, HB, HS⟩ := hrel
  by_cases hj : j < l0.length
  ·have p1 : (0 : Int) ≤ (j : Int) := by omega
   have p2 : (j : Int) < (l0.length : Int) := by omega
   have t1 : decide ((j : Int) < (l0.length : Int)) = true := decide_eq_true p2
   have hrd : rd_T76 l0 (j : Int) = l0[j] := by
    unfold rd_T76
    rw [Int.toNat_natCast, List.getD_eq_getElem?_getD, List.getElem?_eq_getElem hj]; rfl
   have hstep : widthsQ (l0.drop j) ws = (wsetQ ws (rd_T76 l0 (j : Int))).bind (widthsQ (l0.drop (j + 1))) := by
    rw [hrd, List.drop_eq_getElem_cons hj]; rfl
   obtain ⟨ad0, e0, y0, y1, y2⟩ := at_T76 HR0.out (j : Int) p1 p2
   cases e0
   replace y0 := pw_cell_below HB.out y0
   replace y1 := pw_cell_below HB.out y1
   replace y2 := pw_cell_below HB.out y2
   simp only [Int.toNat_natCast] at y0 y1 y2
   have HST := Aside0.mk hstep
   clear hstep hrd
   obtain ⟨xa, hxa⟩ : ∃ xa, rd_T76 l0 (j : Int) = xa := ⟨_, rfl⟩
   rw [hxa] at y0 y1 y2 HST
   clear hxa
   obtain ⟨xall, xv, xb⟩ := xa
   simp only at y0 y1 y2
   have bad : wsetQ ws ⟨xall, xv, xb⟩ = none → r = false := by
    intro hn
    have h1 := HST.out
    rw [hn] at h1
    have h2 := H.out
    unfold impl_FrontOk.f at h2
    rw [← HW.out, h1] at h2
    exact (Option.some.inj h2).symm
   have HBAD := Aside0.mk bad
   clear bad
   rcases tc (inB xv 0 7) with gv | gv
   ·have hr : r = false := HBAD.out (by unfold wsetQ; rw [if_neg (by simp [gv])])
    subst hr
    go_wp2_with (first | (go_at_call 68; (with_reducible refine (impl_isWidth.calls _ _ _ (widthI _)).mono ?_); rintro e w' ⟨rfl, ⟨nd, rfl⟩⟩) | (go_at_call 82; (with_reducible refine (impl_isVar.calls _ _ _ (varI _)).mono ?_); rintro e w' ⟨rfl, ⟨nd, rfl⟩⟩))
    go_ret
    exact ⟨rfl, by exact pw_below_drewN (HB.out.alloc HB.out.size _) _⟩
   ·rcases tc (inB xb 1 8) with gb | gb
    ·have hr : r = false := HBAD.out (by unfold wsetQ; rw [if_neg (by simp [gb])])
     subst hr
     go_wp2_with (first | (go_at_call 68; (with_reducible refine (impl_isWidth.calls _ _ _ (widthI _)).mono ?_); rintro e w' ⟨rfl, ⟨nd, rfl⟩⟩) | (go_at_call 82; (with_reducible refine (impl_isVar.calls _ _ _ (varI _)).mono ?_); rintro e w' ⟨rfl, ⟨nd, rfl⟩⟩))
     go_ret
     exact ⟨rfl, by exact pw_below_drewN (HB.out.alloc HB.out.size _) _⟩
    ·have hv : 0 ≤ xv ∧ xv ≤ 7 := by simpa [inB] using gv
     have v1 : 0 ≤ xv := hv.1
     have v2 : xv < 8 := by omega
     clear hv
     have hvn : xv.toNat < ws.length := by have := HL.out; omega
     have AB := Aside0.mk (blk_alloc AR.out (Obj.cells #[Value.bool xall, Value.int .i64 xv, Value.int .i64 xb] 76))
     have z := ws_cell AB.out xv.toNat hvn
     have fz := blk_frozen AB.out xv.toNat
     rcases tc (decide (0 < ws.getD xv.toNat 0)) with gw | gw
     ·have hok : wsetQ ws ⟨xall, xv, xb⟩ = some (ws.set xv.toNat xb) := by unfold wsetQ; rw [if_pos ⟨gv, gb, by simpa using gw⟩]
      have HOK := Aside0.mk hok
      clear hok HBAD
      generalize hwx : ws.getD xv.toNat 0 = wx at *
      have HWX := Aside0.mk hwx
      clear hwx
      go_wp2_with (first | (go_at_call 68; (with_reducible refine (impl_isWidth.calls _ _ _ (widthI _)).mono ?_); rintro e w' ⟨rfl, ⟨nd, rfl⟩⟩) | (go_at_call 82; (with_reducible refine (impl_isVar.calls _ _ _ (varI _)).mono ?_); rintro e w' ⟨rfl, ⟨nd, rfl⟩⟩))
      obtain ⟨g1, rfl⟩ : ∃ g1, gk = g1 + 1 := ⟨gk - 1, by have := HG.out; omega⟩
      go_roundg g1
      case measure => omega
      case rel =>
       refine ⟨j + 1, ws.set xv.toNat xb, by go_num, ⟨by have := HG.out; omega⟩, ⟨by rw [List.length_set]; exact HL.out⟩, ⟨?_⟩, ⟨?_⟩, ⟨?_⟩, ⟨?_⟩⟩
       ·have h1 := HST.out
        rw [HOK.out, HW.out] at h1
        exact h1.symm
       ·exact ws_set AB.out xv.toNat xb
       ·exact below_set (by exact pw_below_drewN (HB.out.alloc HB.out.size _) _) (Nat.le_refl _)
       ·have := HS.out
        simp; omega
     ·have hr : r = false := HBAD.out (by unfold wsetQ; rw [if_neg (by simp; intro _ _; simpa using gw)])
      subst hr
      clear HBAD
      generalize ws.getD xv.toNat 0 = wx at *
      go_wp2_with (first | (go_at_call 68; (with_reducible refine (impl_isWidth.calls _ _ _ (widthI _)).mono ?_); rintro e w' ⟨rfl, ⟨nd, rfl⟩⟩) | (go_at_call 82; (with_reducible refine (impl_isVar.calls _ _ _ (varI _)).mono ?_); rintro e w' ⟨rfl, ⟨nd, rfl⟩⟩))
      go_ret
      exact ⟨rfl, by exact pw_below_drewN (HB.out.alloc HB.out.size _) _⟩
  ·obtain rfl : j = l0.length := by have := HG.out; omega
   have t1 : decide ((l0.length : Int) < (l0.length : Int)) = false := decide_eq_false (by omega)
   have hws : widthsQ l0 (List.replicate 8 0) = some ws := by
    have := HW.out
    rw [List.drop_eq_nil_of_le (Nat.le_refl _)] at this
    exact this.symm
   have h2 := H.out
   unfold impl_FrontOk.f at h2
   rw [hws] at h2
   replace h2 : impl_FrontOk.g k l1 ws = some r := h2
   unfold impl_FrontOk.g at h2
   obtain ⟨b, hb, h2⟩ := Option.bind_eq_some_iff.mp h2
   have HT := Aside0.mk hb
   clear hb H hws HW HG
   cases b with
   | false =>
    rw [if_neg (by decide)] at h2
    obtain rfl : false = r := Option.some.inj h2
    clear h2
    go_wp2_with (go_at_call 15; (with_reducible refine (impl_TermOk.calls k A1 c1 l1 false _ ?s1 HC1.out HT.out).mono ?_); (case s1 => exact Kd.C_below HR1.out HB.out); rintro e w2 ⟨rfl, hb⟩; have HB2 := Aside0.mk (HB.out.trans (hb.mono HB.out.size)); clear hb)
    go_ret
    exact ⟨rfl, HB2.out⟩
   | true =>
    rw [if_pos rfl] at h2
    by_cases h1 : 1 ≤ l1.length
    ·rw [if_pos h1] at h2
     have p1 : (0 : Int) ≤ (l1.length : Int) - 1 := by omega
     have p2 : (l1.length : Int) - 1 < (l1.length : Int) := by omega
     have wr1 : wrap64 ((l1.length : Int) - 1) = (l1.length : Int) - 1 := by unfold wrap64; omega
     obtain ⟨ad1, e1, x0, x1, x2, x3, x4, x5⟩ := at_T36 HR1.out ((l1.length : Int) - 1) p1 p2
     cases e1
     rw [show ((l1.length : Int) - 1).toNat = l1.length - 1 by omega] at x1
     have X1 := Aside0.mk x1
     clear x0 x1 x2 x3 x4 x5
     by_cases hw1 : (rd_T36 l1 ((l1.length : Int) - 1)).f1 = 1
     ·rw [if_pos hw1] at h2
      obtain ⟨met, hm, h2⟩ := Option.bind_eq_some_iff.mp h2
      by_cases hfit : met.length = l1.length ∧ frontFits l1 met = true
      ·rw [if_pos hfit] at h2
       have H2 := Aside0.mk (Option.some.inj h2)
       have HM := Aside0.mk hm
       have HFIT := Aside0.mk hfit
       clear h2 hm hfit
       rw [hw1] at X1
       clear hw1
       go_wp2_with (first | (go_at_call 15; (with_reducible refine (impl_TermOk.calls k _ c1 l1 true _ ?s1 HC1.out HT.out).mono ?_); (case s1 => exact Kd.C_below HR1.out HB.out); rintro e w2 ⟨rfl, hb⟩; have HB2 := Aside0.mk (HB.out.trans (hb.mono HB.out.size)); have AR2 := Aside0.mk (blk_below AR.out hb); clear hb; have x1_ := pw_cell_below HB2.out X1.out) | (go_at_call 77; (with_reducible refine (impl_reached.calls k _ c1 l1 met _ ?s2 HC1.out HM.out).mono ?_); (case s2 => exact Kd.C_below HR1.out HB2.out); rintro e w4 ⟨vm, rfl, HO, hb⟩; have HB4 := Aside0.mk (HB2.out.trans (hb.mono HB2.out.size)); have AR4 := Aside0.mk (blk_below AR2.out hb); have HO4 := Aside0.mk (Kd.R_lower HO HB2.out.size); clear hb HO; obtain ⟨Am, cm, rfl, _, _⟩ := Kd.R_reads HO4.out))
       go_loopg [58] l1.length (fun g v58 w' => ∃ (j : Nat), v58 = .int .i64 (j : Int) ∧ Aside0 (g + j = l1.length) ∧ Aside0 (∀ t < j, frontBad l1 met ws t = false) ∧
        Aside0 (w'.heap[w.heap.size]? = some (.cells (ws.map (Value.int .i64)).toArray 79 (0, 0))) ∧ Aside0 (Kd.R Kd.bool 4 w' w.heap.size (fun _ => True) (.slice Am met.length cm) met) ∧ Aside0 (Below w.heap.size w w'))
       case atStart => exact ⟨0, rfl, ⟨by omega⟩, ⟨fun t ht => absurd ht (by omega)⟩, AR4, HO4, HB4⟩
       case round =>
        clear AR4 HO4 HB4 AR2 HB2 AR HB
        obtain ⟨j, rfl, HG, HA, AR, HO, HB⟩ := hrel
        by_cases hj : j < l1.length
        ·have p3 : (0 : Int) ≤ (j : Int) := by omega
         have p4 : (j : Int) < (l1.length : Int) := by omega
         have p5 : (j : Int) < (met.length : Int) := by have := HFIT.out.1; omega
         have t1 : decide ((j : Int) < (l1.length : Int)) = true := decide_eq_true p4
         have t2 : decide ((j : Int) < (met.length : Int)) = true := decide_eq_true p5
         obtain ⟨ad2, e2, y0, y1, y2, y3, y4, y5⟩ := at_T36 HR1.out (j : Int) p3 p4
         cases e2
         replace y0 := pw_cell_below HB.out y0
         replace y1 := pw_cell_below HB.out y1
         replace y2 := pw_cell_below HB.out y2
         replace y3 := pw_cell_below HB.out y3
         replace y4 := pw_cell_below HB.out y4
         replace y5 := pw_cell_below HB.out y5
         simp only [Int.toNat_natCast] at y0 y1 y2 y3 y4 y5
         have hbd : frontBad l1 met ws j = (((rd_T36 l1 (j : Int)).f0 == 19 || (rd_T36 l1 (j : Int)).f0 == 20) || (met.getD j false && ((rd_T36 l1 (j : Int)).f0 == 1) && ((rd_T36 l1 (j : Int)).f1 != ws.getD (rd_T36 l1 (j : Int)).f2.toNat 0))) := rfl
         have hft : (!(met.getD j false && ((rd_T36 l1 (j : Int)).f0 == 1)) || inB (rd_T36 l1 (j : Int)).f2 0 7) = true := by
          have := List.all_eq_true.mp HFIT.out.2 j (List.mem_range.mpr hj)
          exact this
         obtain ⟨adm, em, hmx⟩ := Kd.at_bool (Kd.R_reads' HO.out).2.2 (j : Int) p3 p5
         cases em
         rw [Int.toNat_natCast, show rdOf false met (j : Int) = met.getD j false from by unfold rdOf; rw [Int.toNat_natCast]] at hmx
         generalize (rd_T36 l1 (j : Int)).f0 = op at *
         generalize (rd_T36 l1 (j : Int)).f1 = W at *
         generalize (rd_T36 l1 (j : Int)).f2 = Kq at *
         generalize (rd_T36 l1 (j : Int)).f3 = A at *
         generalize (rd_T36 l1 (j : Int)).f4 = B at *
         generalize (rd_T36 l1 (j : Int)).f5 = Cq at *
         generalize met.getD j false = mb at *
         have HBD := Aside0.mk hbd
         have HFT := Aside0.mk hft
         clear hbd hft
         have NB := heap_alloc_new wr (Obj.cells #[Value.int .i64 op, Value.int .i64 W, Value.int .i64 Kq, Value.int .i64 A, Value.int .i64 B, Value.int .i64 Cq] 36)
         have AB := blk_alloc AR.out (Obj.cells #[Value.int .i64 op, Value.int .i64 W, Value.int .i64 Kq, Value.int .i64 A, Value.int .i64 B, Value.int .i64 Cq] 36)
         have MB := Kd.R_alloc HO.out (Obj.cells #[Value.int .i64 op, Value.int .i64 W, Value.int .i64 Kq, Value.int .i64 A, Value.int .i64 B, Value.int .i64 Cq] 36)
         have BB : Below w.heap.size w (wr.alloc (Obj.cells #[Value.int .i64 op, Value.int .i64 W, Value.int .i64 Kq, Value.int .i64 A, Value.int .i64 B, Value.int .i64 Cq] 36)) := HB.out.alloc HB.out.size _
         have sm_ : (wr.alloc (Obj.cells #[Value.int .i64 op, Value.int .i64 W, Value.int .i64 Kq, Value.int .i64 A, Value.int .i64 B, Value.int .i64 Cq] 36)).cell? (adm.add j) = some (.bool mb) := ((below_alloc (Below.refl _ _) _).cell (World.block_lt_of_cell? wr _ hmx)).trans hmx
         replace NB := Aside0.mk NB
         replace AB := Aside0.mk AB
         replace MB := Aside0.mk MB
         replace BB := Aside0.mk BB
         go_wp2
         generalize wr.alloc (Obj.cells #[Value.int .i64 op, Value.int .i64 W, Value.int .i64 Kq, Value.int .i64 A, Value.int .i64 B, Value.int .i64 Cq] 36) = wB at *
         generalize wr.heap.size = gn at *
         obtain ⟨s0_, s1_, s2_, s3_, s4_, s5_⟩ := blk6f NB.out
         clear y0 y1 y2 y3 y4 y5 hmx
         obtain ⟨q, hq⟩ : ∃ q : Bool, ((op == 19) || (op == 20)) = q := ⟨_, rfl⟩
         have HQ := Aside0.mk hq
         rw [hq] at HBD
         clear hq
         cases q with
         | true =>
          have hr : r = false := by
           rw [← H2.out]
           rw [List.all_eq_false]
           exact ⟨j, List.mem_range.mpr hj, by rw [HBD.out]; simp⟩
          subst hr
          refine start_ (n := 22) (S := fun w' => w'.cell? ⟨gn, 0, none⟩ = some (.int .i64 op) ∧ w'.cell? ⟨gn, 1, none⟩ = some (.int .i64 W) ∧ w'.cell? ⟨gn, 2, none⟩ = some (.int .i64 Kq) ∧ w'.cell? ⟨gn, 3, none⟩ = some (.int .i64 A) ∧ w'.cell? ⟨gn, 4, none⟩ = some (.int .i64 B) ∧ w'.cell? ⟨gn, 5, none⟩ = some (.int .i64 Cq) ∧ w'.cell? (adm.add j) = some (.bool mb)) (ds := []) zA0x15 (by kernel_rfl) rfl rfl ⟨s0_, s1_, s2_, s3_, s4_, s5_, sm_⟩ (fun hHeld => ?_)
          refine take_ (i := 0) (N := some 63) (v := ?_) (a' := ?_) zA1x15 rfl rfl (by kernel_rfl) (fun _ _ _ h => h) (Or.inl ⟨by rfl, ?_⟩) hHeld ?_ ?_
          rotate_left
          ·rintro w' ⟨s0, s1, s2, s3, s4, s5, s6⟩
           go_simp
           with_reducible rfl
          rotate_left
          ·simp only [Act.put, List.setIfInBounds_toArray, List.set_cons_zero, List.set_cons_succ, i64_w, i32_w]
           rfl
          refine one_ (i := 1) (N := some 64) zA2x15 rfl rfl (by kernel_rfl) (by decide) (fun K hK => ?_)
          refine goes_ Try.func53 (by kernel_rfl) rfl #[.agg #[.int .i64 op, .int .i64 W, .int .i64 Kq, .int .i64 A, .int .i64 B, .int .i64 Cq]] (by rfl) rfl rfl (by simp only [List.map_toArray, List.map_cons, List.map_nil]; rfl) ?_
          with_reducible refine (impl_isQuant.calls _ _ _ _ _ _ true _ (by rw [isQuantF, HQ.out])).mono ?_
          rintro e w3 ⟨rfl, hb⟩
          refine ⟨_, rfl, ?_⟩
          have HB3 := Aside0.mk (show Below wB.heap.size wB w3 from Below.trans (by apply below_drew1; exact Below.refl _ _) (hb.mono (by simp)))
          clear hb
          refine hK.out _ _ ⟨((HB3.out.cell (World.block_lt_of_cell? wB _ s0_)).trans s0_), ((HB3.out.cell (World.block_lt_of_cell? wB _ s1_)).trans s1_), ((HB3.out.cell (World.block_lt_of_cell? wB _ s2_)).trans s2_), ((HB3.out.cell (World.block_lt_of_cell? wB _ s3_)).trans s3_), ((HB3.out.cell (World.block_lt_of_cell? wB _ s4_)).trans s4_), ((HB3.out.cell (World.block_lt_of_cell? wB _ s5_)).trans s5_), ((HB3.out.cell (World.block_lt_of_cell? wB _ sm_)).trans sm_)⟩ (fun hHeld => ?_)
          clear hK K
          refine norm_ (a' := ?_) ?_ ?_
          rotate_left
          ·show Act.put _ (some 64) _ = _
           simp only [Act.put, List.setIfInBounds_toArray, List.set_cons_zero, List.set_cons_succ, i64_w, i32_w]
           rfl
          refine pure_ (i := 2) (N := some 65) (v := ?_) (a' := ?_) zA3x15 rfl rfl (by kernel_rfl) (fun _ _ _ h => h) (Or.inl ⟨by rfl, ?_⟩) ?_ ?_; rotate_left; (intro w'; go_simp; with_reducible rfl); rotate_left; (simp only [Act.put, List.setIfInBounds_toArray, List.set_cons_zero, List.set_cons_succ, i64_w, i32_w]; rfl)
          refine pure_ (i := 3) (N := some 66) (v := undef) (a' := ?_) zA4x15 rfl rfl (by kernel_rfl) (fun _ _ _ h => h) (Or.inr ⟨by rfl, rfl⟩) ?_ ?_
          rotate_left
          ·simp only [Act.put, List.setIfInBounds_toArray, List.set_cons_zero, List.set_cons_succ, i64_w, i32_w]
           rfl
          refine pure_ (i := 4) (N := some 67) (v := undef) (a' := ?_) zA5x15 rfl rfl (by kernel_rfl) (fun _ _ _ h => h) (Or.inr ⟨by rfl, rfl⟩) ?_ ?_
          rotate_left
          ·simp only [Act.put, List.setIfInBounds_toArray, List.set_cons_zero, List.set_cons_succ, i64_w, i32_w]
           rfl
          refine pure_ (i := 5) (N := some 68) (v := undef) (a' := ?_) zA6x15 rfl rfl (by kernel_rfl) (fun _ _ _ h => h) (Or.inr ⟨by rfl, rfl⟩) ?_ ?_
          rotate_left
          ·simp only [Act.put, List.setIfInBounds_toArray, List.set_cons_zero, List.set_cons_succ, i64_w, i32_w]
           rfl
          refine pure_ (i := 6) (N := some 69) (v := undef) (a' := ?_) zA7x15 rfl rfl (by kernel_rfl) (fun _ _ _ h => h) (Or.inr ⟨by rfl, rfl⟩) ?_ ?_
          rotate_left
          ·simp only [Act.put, List.setIfInBounds_toArray, List.set_cons_zero, List.set_cons_succ, i64_w, i32_w]
           rfl
          refine pure_ (i := 7) (N := some 70) (v := undef) (a' := ?_) zA8x15 rfl rfl (by kernel_rfl) (fun _ _ _ h => h) (Or.inr ⟨by rfl, rfl⟩) ?_ ?_
          rotate_left
          ·simp only [Act.put, List.setIfInBounds_toArray, List.set_cons_zero, List.set_cons_succ, i64_w, i32_w]
           rfl
          refine pure_ (i := 8) (N := some 71) (v := undef) (a' := ?_) zA9x15 rfl rfl (by kernel_rfl) (fun _ _ _ h => h) (Or.inr ⟨by rfl, rfl⟩) ?_ ?_
          rotate_left
          ·simp only [Act.put, List.setIfInBounds_toArray, List.set_cons_zero, List.set_cons_succ, i64_w, i32_w]
           rfl
          refine pure_ (i := 9) (N := some 72) (v := undef) (a' := ?_) zA10x15 rfl rfl (by kernel_rfl) (fun _ _ _ h => h) (Or.inr ⟨by rfl, rfl⟩) ?_ ?_
          rotate_left
          ·simp only [Act.put, List.setIfInBounds_toArray, List.set_cons_zero, List.set_cons_succ, i64_w, i32_w]
           rfl
          refine pure_ (i := 10) (N := some 73) (v := undef) (a' := ?_) zA11x15 rfl rfl (by kernel_rfl) (fun _ _ _ h => h) (Or.inr ⟨by rfl, rfl⟩) ?_ ?_
          rotate_left
          ·simp only [Act.put, List.setIfInBounds_toArray, List.set_cons_zero, List.set_cons_succ, i64_w, i32_w]
           rfl
          refine pure_ (i := 11) (N := some 74) (v := undef) (a' := ?_) zA12x15 rfl rfl (by kernel_rfl) (fun _ _ _ h => h) (Or.inr ⟨by rfl, rfl⟩) ?_ ?_
          rotate_left
          ·simp only [Act.put, List.setIfInBounds_toArray, List.set_cons_zero, List.set_cons_succ, i64_w, i32_w]
           rfl
          refine pure_ (i := 12) (N := some 75) (v := undef) (a' := ?_) zA13x15 rfl rfl (by kernel_rfl) (fun _ _ _ h => h) (Or.inr ⟨by rfl, rfl⟩) ?_ ?_
          rotate_left
          ·simp only [Act.put, List.setIfInBounds_toArray, List.set_cons_zero, List.set_cons_succ, i64_w, i32_w]
           rfl
          refine pure_ (i := 13) (N := some 76) (v := undef) (a' := ?_) zA14x15 rfl rfl (by kernel_rfl) (fun _ _ _ h => h) (Or.inr ⟨by rfl, rfl⟩) ?_ ?_
          rotate_left
          ·simp only [Act.put, List.setIfInBounds_toArray, List.set_cons_zero, List.set_cons_succ, i64_w, i32_w]
           rfl
          refine pure_ (i := 14) (N := some 77) (v := undef) (a' := ?_) zA15x15 rfl rfl (by kernel_rfl) (fun _ _ _ h => h) (Or.inr ⟨by rfl, rfl⟩) ?_ ?_
          rotate_left
          ·simp only [Act.put, List.setIfInBounds_toArray, List.set_cons_zero, List.set_cons_succ, i64_w, i32_w]
           rfl
          refine pure_ (i := 15) (N := some 78) (v := undef) (a' := ?_) zA16x15 rfl rfl (by kernel_rfl) (fun _ _ _ h => h) (Or.inr ⟨by rfl, rfl⟩) ?_ ?_
          rotate_left
          ·simp only [Act.put, List.setIfInBounds_toArray, List.set_cons_zero, List.set_cons_succ, i64_w, i32_w]
           rfl
          refine pure_ (i := 16) (N := some 79) (v := undef) (a' := ?_) zA17x15 rfl rfl (by kernel_rfl) (fun _ _ _ h => h) (Or.inr ⟨by rfl, rfl⟩) ?_ ?_
          rotate_left
          ·simp only [Act.put, List.setIfInBounds_toArray, List.set_cons_zero, List.set_cons_succ, i64_w, i32_w]
           rfl
          refine pure_ (i := 17) (N := some 80) (v := undef) (a' := ?_) zA18x15 rfl rfl (by kernel_rfl) (fun _ _ _ h => h) (Or.inr ⟨by rfl, rfl⟩) ?_ ?_
          rotate_left
          ·simp only [Act.put, List.setIfInBounds_toArray, List.set_cons_zero, List.set_cons_succ, i64_w, i32_w]
           rfl
          refine pure_ (i := 18) (N := some 81) (v := undef) (a' := ?_) zA19x15 rfl rfl (by kernel_rfl) (fun _ _ _ h => h) (Or.inr ⟨by rfl, rfl⟩) ?_ ?_
          rotate_left
          ·simp only [Act.put, List.setIfInBounds_toArray, List.set_cons_zero, List.set_cons_succ, i64_w, i32_w]
           rfl
          refine pure_ (i := 19) (N := some 82) (v := undef) (a' := ?_) zA20x15 rfl rfl (by kernel_rfl) (fun _ _ _ h => h) (Or.inr ⟨by rfl, rfl⟩) ?_ ?_
          rotate_left
          ·simp only [Act.put, List.setIfInBounds_toArray, List.set_cons_zero, List.set_cons_succ, i64_w, i32_w]
           rfl
          refine pure_ (i := 20) (N := some 83) (v := undef) (a' := ?_) zA21x15 rfl rfl (by kernel_rfl) (fun _ _ _ h => h) (Or.inr ⟨by rfl, rfl⟩) ?_ ?_
          rotate_left
          ·simp only [Act.put, List.setIfInBounds_toArray, List.set_cons_zero, List.set_cons_succ, i64_w, i32_w]
           rfl
          refine pure_ (i := 21) (N := some 84) (v := ?_) (a' := ?_) zA22x15 rfl rfl (by kernel_rfl) (fun _ _ _ h => h) (Or.inl ⟨by rfl, ?_⟩) ?_ ?_; rotate_left; (intro w'; go_simp; with_reducible rfl); rotate_left; (simp only [Act.put, List.setIfInBounds_toArray, List.set_cons_zero, List.set_cons_succ, i64_w, i32_w]; rfl)
          refine done_ (by kernel_rfl) ?_

          go_wp2
          go_ret
          exact ⟨rfl, BB.out.trans (HB3.out.mono BB.out.size)⟩
         | false =>
          cases mb with
          | false =>
           have hnb : frontBad l1 met ws j = false := by rw [HBD.out]; simp
           have HNB := Aside0.mk hnb
           clear hnb
           refine start_ (n := 22) (S := fun w' => w'.cell? ⟨gn, 0, none⟩ = some (.int .i64 op) ∧ w'.cell? ⟨gn, 1, none⟩ = some (.int .i64 W) ∧ w'.cell? ⟨gn, 2, none⟩ = some (.int .i64 Kq) ∧ w'.cell? ⟨gn, 3, none⟩ = some (.int .i64 A) ∧ w'.cell? ⟨gn, 4, none⟩ = some (.int .i64 B) ∧ w'.cell? ⟨gn, 5, none⟩ = some (.int .i64 Cq) ∧ w'.cell? (adm.add j) = some (.bool false)) (ds := []) zA0x15 (by kernel_rfl) rfl rfl ⟨s0_, s1_, s2_, s3_, s4_, s5_, sm_⟩ (fun hHeld => ?_)
           refine take_ (i := 0) (N := some 63) (v := ?_) (a' := ?_) zA1x15 rfl rfl (by kernel_rfl) (fun _ _ _ h => h) (Or.inl ⟨by rfl, ?_⟩) hHeld ?_ ?_
           rotate_left
           ·rintro w' ⟨s0, s1, s2, s3, s4, s5, s6⟩
            go_simp
            with_reducible rfl
           rotate_left
           ·simp only [Act.put, List.setIfInBounds_toArray, List.set_cons_zero, List.set_cons_succ, i64_w, i32_w]
            rfl
           refine one_ (i := 1) (N := some 64) zA2x15 rfl rfl (by kernel_rfl) (by decide) (fun K hK => ?_)
           refine goes_ Try.func53 (by kernel_rfl) rfl #[.agg #[.int .i64 op, .int .i64 W, .int .i64 Kq, .int .i64 A, .int .i64 B, .int .i64 Cq]] (by rfl) rfl rfl (by simp only [List.map_toArray, List.map_cons, List.map_nil]; rfl) ?_
           with_reducible refine (impl_isQuant.calls _ _ _ _ _ _ false _ (by rw [isQuantF, HQ.out])).mono ?_
           rintro e w3 ⟨rfl, hb⟩
           refine ⟨_, rfl, ?_⟩
           have HB3 := Aside0.mk (show Below wB.heap.size wB w3 from Below.trans (by apply below_drew1; exact Below.refl _ _) (hb.mono (by simp)))
           clear hb
           refine hK.out _ _ ⟨((HB3.out.cell (World.block_lt_of_cell? wB _ s0_)).trans s0_), ((HB3.out.cell (World.block_lt_of_cell? wB _ s1_)).trans s1_), ((HB3.out.cell (World.block_lt_of_cell? wB _ s2_)).trans s2_), ((HB3.out.cell (World.block_lt_of_cell? wB _ s3_)).trans s3_), ((HB3.out.cell (World.block_lt_of_cell? wB _ s4_)).trans s4_), ((HB3.out.cell (World.block_lt_of_cell? wB _ s5_)).trans s5_), ((HB3.out.cell (World.block_lt_of_cell? wB _ sm_)).trans sm_)⟩ (fun hHeld => ?_)
           clear hK K
           refine norm_ (a' := ?_) ?_ ?_
           rotate_left
           ·show Act.put _ (some 64) _ = _
            simp only [Act.put, List.setIfInBounds_toArray, List.set_cons_zero, List.set_cons_succ, i64_w, i32_w]
            rfl
           refine pure_ (i := 2) (N := some 65) (v := ?_) (a' := ?_) zA3x15 rfl rfl (by kernel_rfl) (fun _ _ _ h => h) (Or.inl ⟨by rfl, ?_⟩) ?_ ?_; rotate_left; (intro w'; go_simp; with_reducible rfl); rotate_left; (simp only [Act.put, List.setIfInBounds_toArray, List.set_cons_zero, List.set_cons_succ, i64_w, i32_w]; rfl)
           refine pure_ (i := 3) (N := some 66) (v := ?_) (a' := ?_) zA4x15 rfl rfl (by kernel_rfl) (fun _ _ _ h => h) (Or.inl ⟨by rfl, ?_⟩) ?_ ?_; rotate_left; (intro w'; go_simp; with_reducible rfl); rotate_left; (simp only [Act.put, List.setIfInBounds_toArray, List.set_cons_zero, List.set_cons_succ, i64_w, i32_w]; rfl)
           refine pure_ (i := 4) (N := some 67) (v := ?_) (a' := ?_) zA5x15 rfl rfl (by kernel_rfl) (fun _ _ _ h => h) (Or.inl ⟨by rfl, ?_⟩) ?_ ?_; rotate_left; (intro w'; go_simp; with_reducible rfl); rotate_left; (simp only [Act.put, List.setIfInBounds_toArray, List.set_cons_zero, List.set_cons_succ, i64_w, i32_w]; rfl)
           refine pure_ (i := 5) (N := some 68) (v := ?_) (a' := ?_) zA6x15 rfl rfl (by kernel_rfl) (fun _ _ _ h => h) (Or.inl ⟨by rfl, ?_⟩) ?_ ?_; rotate_left; (intro w'; go_simp; with_reducible rfl); rotate_left; (simp only [Act.put, List.setIfInBounds_toArray, List.set_cons_zero, List.set_cons_succ, i64_w, i32_w]; rfl)
           refine take_ (i := 6) (N := some 69) (v := ?_) (a' := ?_) zA7x15 rfl rfl (by kernel_rfl) (fun _ _ _ h => h) (Or.inl ⟨by rfl, ?_⟩) hHeld ?_ ?_
           rotate_left
           ·rintro w' ⟨s0, s1, s2, s3, s4, s5, s6⟩
            go_simp
            with_reducible rfl
           rotate_left
           ·simp only [Act.put, List.setIfInBounds_toArray, List.set_cons_zero, List.set_cons_succ, i64_w, i32_w]
            rfl
           refine pure_ (i := 7) (N := some 70) (v := ?_) (a' := ?_) zA8x15 rfl rfl (by kernel_rfl) (fun _ _ _ h => h) (Or.inl ⟨by rfl, ?_⟩) ?_ ?_; rotate_left; (intro w'; go_simp; with_reducible rfl); rotate_left; (simp only [Act.put, List.setIfInBounds_toArray, List.set_cons_zero, List.set_cons_succ, i64_w, i32_w]; rfl)
           refine pure_ (i := 8) (N := some 71) (v := undef) (a' := ?_) zA9x15 rfl rfl (by kernel_rfl) (fun _ _ _ h => h) (Or.inr ⟨by rfl, rfl⟩) ?_ ?_
           rotate_left
           ·simp only [Act.put, List.setIfInBounds_toArray, List.set_cons_zero, List.set_cons_succ, i64_w, i32_w]
            rfl
           refine pure_ (i := 9) (N := some 72) (v := undef) (a' := ?_) zA10x15 rfl rfl (by kernel_rfl) (fun _ _ _ h => h) (Or.inr ⟨by rfl, rfl⟩) ?_ ?_
           rotate_left
           ·simp only [Act.put, List.setIfInBounds_toArray, List.set_cons_zero, List.set_cons_succ, i64_w, i32_w]
            rfl
           refine pure_ (i := 10) (N := some 73) (v := undef) (a' := ?_) zA11x15 rfl rfl (by kernel_rfl) (fun _ _ _ h => h) (Or.inr ⟨by rfl, rfl⟩) ?_ ?_
           rotate_left
           ·simp only [Act.put, List.setIfInBounds_toArray, List.set_cons_zero, List.set_cons_succ, i64_w, i32_w]
            rfl
           refine pure_ (i := 11) (N := some 74) (v := ?_) (a' := ?_) zA12x15 rfl rfl (by kernel_rfl) (fun _ _ _ h => h) (Or.inl ⟨by rfl, ?_⟩) ?_ ?_; rotate_left; (intro w'; go_simp; with_reducible rfl); rotate_left; (simp only [Act.put, List.setIfInBounds_toArray, List.set_cons_zero, List.set_cons_succ, i64_w, i32_w]; rfl)
           refine pure_ (i := 12) (N := some 75) (v := ?_) (a' := ?_) zA13x15 rfl rfl (by kernel_rfl) (fun _ _ _ h => h) (Or.inl ⟨by rfl, ?_⟩) ?_ ?_; rotate_left; (intro w'; go_simp; with_reducible rfl); rotate_left; (simp only [Act.put, List.setIfInBounds_toArray, List.set_cons_zero, List.set_cons_succ, i64_w, i32_w]; rfl)
           refine pure_ (i := 13) (N := some 76) (v := undef) (a' := ?_) zA14x15 rfl rfl (by kernel_rfl) (fun _ _ _ h => h) (Or.inr ⟨by rfl, rfl⟩) ?_ ?_
           rotate_left
           ·simp only [Act.put, List.setIfInBounds_toArray, List.set_cons_zero, List.set_cons_succ, i64_w, i32_w]
            rfl
           refine pure_ (i := 14) (N := some 77) (v := undef) (a' := ?_) zA15x15 rfl rfl (by kernel_rfl) (fun _ _ _ h => h) (Or.inr ⟨by rfl, rfl⟩) ?_ ?_
           rotate_left
           ·simp only [Act.put, List.setIfInBounds_toArray, List.set_cons_zero, List.set_cons_succ, i64_w, i32_w]
            rfl
           refine pure_ (i := 15) (N := some 78) (v := undef) (a' := ?_) zA16x15 rfl rfl (by kernel_rfl) (fun _ _ _ h => h) (Or.inr ⟨by rfl, rfl⟩) ?_ ?_
           rotate_left
           ·simp only [Act.put, List.setIfInBounds_toArray, List.set_cons_zero, List.set_cons_succ, i64_w, i32_w]
            rfl
           refine pure_ (i := 16) (N := some 79) (v := undef) (a' := ?_) zA17x15 rfl rfl (by kernel_rfl) (fun _ _ _ h => h) (Or.inr ⟨by rfl, rfl⟩) ?_ ?_
           rotate_left
           ·simp only [Act.put, List.setIfInBounds_toArray, List.set_cons_zero, List.set_cons_succ, i64_w, i32_w]
            rfl
           refine pure_ (i := 17) (N := some 80) (v := undef) (a' := ?_) zA18x15 rfl rfl (by kernel_rfl) (fun _ _ _ h => h) (Or.inr ⟨by rfl, rfl⟩) ?_ ?_
           rotate_left
           ·simp only [Act.put, List.setIfInBounds_toArray, List.set_cons_zero, List.set_cons_succ, i64_w, i32_w]
            rfl
           refine pure_ (i := 18) (N := some 81) (v := undef) (a' := ?_) zA19x15 rfl rfl (by kernel_rfl) (fun _ _ _ h => h) (Or.inr ⟨by rfl, rfl⟩) ?_ ?_
           rotate_left
           ·simp only [Act.put, List.setIfInBounds_toArray, List.set_cons_zero, List.set_cons_succ, i64_w, i32_w]
            rfl
           refine pure_ (i := 19) (N := some 82) (v := undef) (a' := ?_) zA20x15 rfl rfl (by kernel_rfl) (fun _ _ _ h => h) (Or.inr ⟨by rfl, rfl⟩) ?_ ?_
           rotate_left
           ·simp only [Act.put, List.setIfInBounds_toArray, List.set_cons_zero, List.set_cons_succ, i64_w, i32_w]
            rfl
           refine pure_ (i := 20) (N := some 83) (v := ?_) (a' := ?_) zA21x15 rfl rfl (by kernel_rfl) (fun _ _ _ h => h) (Or.inl ⟨by rfl, ?_⟩) ?_ ?_; rotate_left; (intro w'; go_simp; with_reducible rfl); rotate_left; (simp only [Act.put, List.setIfInBounds_toArray, List.set_cons_zero, List.set_cons_succ, i64_w, i32_w]; rfl)
           refine pure_ (i := 21) (N := some 84) (v := ?_) (a' := ?_) zA22x15 rfl rfl (by kernel_rfl) (fun _ _ _ h => h) (Or.inl ⟨by rfl, ?_⟩) ?_ ?_; rotate_left; (intro w'; go_simp; with_reducible rfl); rotate_left; (simp only [Act.put, List.setIfInBounds_toArray, List.set_cons_zero, List.set_cons_succ, i64_w, i32_w]; rfl)
           refine done_ (by kernel_rfl) ?_

           go_wp2
           obtain ⟨g1, rfl⟩ : ∃ g1, gk = g1 + 1 := ⟨gk - 1, by have := HG.out; omega⟩
           go_roundg g1
           case measure => omega
           case rel =>
            refine ⟨j + 1, by go_num, ⟨by have := HG.out; omega⟩, ⟨fun t ht => ?_⟩, ⟨blk_below AB.out HB3.out⟩, ⟨Kd.R_below MB.out HB3.out⟩, ⟨BB.out.trans (HB3.out.mono BB.out.size)⟩⟩
            rcases Nat.lt_or_ge t j with h | h
            ·exact HA.out t h
            ·obtain rfl : t = j := by omega
             exact HNB.out
          | true =>
           rcases tc (op == 1) with ho | ho
           ·have hnb : frontBad l1 met ws j = false := by rw [HBD.out, ho]; simp
            have HNB := Aside0.mk hnb
            clear hnb
            refine start_ (n := 22) (S := fun w' => w'.cell? ⟨gn, 0, none⟩ = some (.int .i64 op) ∧ w'.cell? ⟨gn, 1, none⟩ = some (.int .i64 W) ∧ w'.cell? ⟨gn, 2, none⟩ = some (.int .i64 Kq) ∧ w'.cell? ⟨gn, 3, none⟩ = some (.int .i64 A) ∧ w'.cell? ⟨gn, 4, none⟩ = some (.int .i64 B) ∧ w'.cell? ⟨gn, 5, none⟩ = some (.int .i64 Cq) ∧ w'.cell? (adm.add j) = some (.bool true)) (ds := []) zA0x15 (by kernel_rfl) rfl rfl ⟨s0_, s1_, s2_, s3_, s4_, s5_, sm_⟩ (fun hHeld => ?_)
            refine take_ (i := 0) (N := some 63) (v := ?_) (a' := ?_) zA1x15 rfl rfl (by kernel_rfl) (fun _ _ _ h => h) (Or.inl ⟨by rfl, ?_⟩) hHeld ?_ ?_
            rotate_left
            ·rintro w' ⟨s0, s1, s2, s3, s4, s5, s6⟩
             go_simp
             with_reducible rfl
            rotate_left
            ·simp only [Act.put, List.setIfInBounds_toArray, List.set_cons_zero, List.set_cons_succ, i64_w, i32_w]
             rfl
            refine one_ (i := 1) (N := some 64) zA2x15 rfl rfl (by kernel_rfl) (by decide) (fun K hK => ?_)
            refine goes_ Try.func53 (by kernel_rfl) rfl #[.agg #[.int .i64 op, .int .i64 W, .int .i64 Kq, .int .i64 A, .int .i64 B, .int .i64 Cq]] (by rfl) rfl rfl (by simp only [List.map_toArray, List.map_cons, List.map_nil]; rfl) ?_
            with_reducible refine (impl_isQuant.calls _ _ _ _ _ _ false _ (by rw [isQuantF, HQ.out])).mono ?_
            rintro e w3 ⟨rfl, hb⟩
            refine ⟨_, rfl, ?_⟩
            have HB3 := Aside0.mk (show Below wB.heap.size wB w3 from Below.trans (by apply below_drew1; exact Below.refl _ _) (hb.mono (by simp)))
            clear hb
            refine hK.out _ _ ⟨((HB3.out.cell (World.block_lt_of_cell? wB _ s0_)).trans s0_), ((HB3.out.cell (World.block_lt_of_cell? wB _ s1_)).trans s1_), ((HB3.out.cell (World.block_lt_of_cell? wB _ s2_)).trans s2_), ((HB3.out.cell (World.block_lt_of_cell? wB _ s3_)).trans s3_), ((HB3.out.cell (World.block_lt_of_cell? wB _ s4_)).trans s4_), ((HB3.out.cell (World.block_lt_of_cell? wB _ s5_)).trans s5_), ((HB3.out.cell (World.block_lt_of_cell? wB _ sm_)).trans sm_)⟩ (fun hHeld => ?_)
            clear hK K
            refine norm_ (a' := ?_) ?_ ?_
            rotate_left
            ·show Act.put _ (some 64) _ = _
             simp only [Act.put, List.setIfInBounds_toArray, List.set_cons_zero, List.set_cons_succ, i64_w, i32_w]
             rfl
            refine pure_ (i := 2) (N := some 65) (v := ?_) (a' := ?_) zA3x15 rfl rfl (by kernel_rfl) (fun _ _ _ h => h) (Or.inl ⟨by rfl, ?_⟩) ?_ ?_; rotate_left; (intro w'; go_simp; with_reducible rfl); rotate_left; (simp only [Act.put, List.setIfInBounds_toArray, List.set_cons_zero, List.set_cons_succ, i64_w, i32_w]; rfl)
            refine pure_ (i := 3) (N := some 66) (v := ?_) (a' := ?_) zA4x15 rfl rfl (by kernel_rfl) (fun _ _ _ h => h) (Or.inl ⟨by rfl, ?_⟩) ?_ ?_; rotate_left; (intro w'; go_simp; with_reducible rfl); rotate_left; (simp only [Act.put, List.setIfInBounds_toArray, List.set_cons_zero, List.set_cons_succ, i64_w, i32_w]; rfl)
            refine pure_ (i := 4) (N := some 67) (v := ?_) (a' := ?_) zA5x15 rfl rfl (by kernel_rfl) (fun _ _ _ h => h) (Or.inl ⟨by rfl, ?_⟩) ?_ ?_; rotate_left; (intro w'; go_simp; with_reducible rfl); rotate_left; (simp only [Act.put, List.setIfInBounds_toArray, List.set_cons_zero, List.set_cons_succ, i64_w, i32_w]; rfl)
            refine pure_ (i := 5) (N := some 68) (v := ?_) (a' := ?_) zA6x15 rfl rfl (by kernel_rfl) (fun _ _ _ h => h) (Or.inl ⟨by rfl, ?_⟩) ?_ ?_; rotate_left; (intro w'; go_simp; with_reducible rfl); rotate_left; (simp only [Act.put, List.setIfInBounds_toArray, List.set_cons_zero, List.set_cons_succ, i64_w, i32_w]; rfl)
            refine take_ (i := 6) (N := some 69) (v := ?_) (a' := ?_) zA7x15 rfl rfl (by kernel_rfl) (fun _ _ _ h => h) (Or.inl ⟨by rfl, ?_⟩) hHeld ?_ ?_
            rotate_left
            ·rintro w' ⟨s0, s1, s2, s3, s4, s5, s6⟩
             go_simp
             with_reducible rfl
            rotate_left
            ·simp only [Act.put, List.setIfInBounds_toArray, List.set_cons_zero, List.set_cons_succ, i64_w, i32_w]
             rfl
            refine pure_ (i := 7) (N := some 70) (v := ?_) (a' := ?_) zA8x15 rfl rfl (by kernel_rfl) (fun _ _ _ h => h) (Or.inl ⟨by rfl, ?_⟩) ?_ ?_; rotate_left; (intro w'; go_simp; with_reducible rfl); rotate_left; (simp only [Act.put, List.setIfInBounds_toArray, List.set_cons_zero, List.set_cons_succ, i64_w, i32_w]; rfl)
            refine pure_ (i := 8) (N := some 71) (v := ?_) (a' := ?_) zA9x15 rfl rfl (by kernel_rfl) (fun _ _ _ h => h) (Or.inl ⟨by rfl, ?_⟩) ?_ ?_; rotate_left; (intro w'; go_simp; with_reducible rfl); rotate_left; (simp only [Act.put, List.setIfInBounds_toArray, List.set_cons_zero, List.set_cons_succ, i64_w, i32_w]; rfl)
            refine take_ (i := 9) (N := some 72) (v := ?_) (a' := ?_) zA10x15 rfl rfl (by kernel_rfl) (fun _ _ _ h => h) (Or.inl ⟨by rfl, ?_⟩) hHeld ?_ ?_
            rotate_left
            ·rintro w' ⟨s0, s1, s2, s3, s4, s5, s6⟩
             go_simp
             with_reducible rfl
            rotate_left
            ·simp only [Act.put, List.setIfInBounds_toArray, List.set_cons_zero, List.set_cons_succ, i64_w, i32_w]
             rfl
            refine pure_ (i := 10) (N := some 73) (v := ?_) (a' := ?_) zA11x15 rfl rfl (by kernel_rfl) (fun _ _ _ h => h) (Or.inl ⟨by rfl, ?_⟩) ?_ ?_; rotate_left; (intro w'; go_simp; with_reducible rfl); rotate_left; (simp only [Act.put, List.setIfInBounds_toArray, List.set_cons_zero, List.set_cons_succ, i64_w, i32_w]; rfl)
            refine pure_ (i := 11) (N := some 74) (v := ?_) (a' := ?_) zA12x15 rfl rfl (by kernel_rfl) (fun _ _ _ h => h) (Or.inl ⟨by rfl, ?_⟩) ?_ ?_; rotate_left; (intro w'; go_simp; with_reducible rfl); rotate_left; (simp only [Act.put, List.setIfInBounds_toArray, List.set_cons_zero, List.set_cons_succ, i64_w, i32_w]; rfl)
            refine pure_ (i := 12) (N := some 75) (v := ?_) (a' := ?_) zA13x15 rfl rfl (by kernel_rfl) (fun _ _ _ h => h) (Or.inl ⟨by rfl, ?_⟩) ?_ ?_; rotate_left; (intro w'; go_simp; with_reducible rfl); rotate_left; (simp only [Act.put, List.setIfInBounds_toArray, List.set_cons_zero, List.set_cons_succ, i64_w, i32_w]; rfl)
            refine pure_ (i := 13) (N := some 76) (v := undef) (a' := ?_) zA14x15 rfl rfl (by kernel_rfl) (fun _ _ _ h => h) (Or.inr ⟨by rfl, rfl⟩) ?_ ?_
            rotate_left
            ·simp only [Act.put, List.setIfInBounds_toArray, List.set_cons_zero, List.set_cons_succ, i64_w, i32_w]
             rfl
            refine pure_ (i := 14) (N := some 77) (v := undef) (a' := ?_) zA15x15 rfl rfl (by kernel_rfl) (fun _ _ _ h => h) (Or.inr ⟨by rfl, rfl⟩) ?_ ?_
            rotate_left
            ·simp only [Act.put, List.setIfInBounds_toArray, List.set_cons_zero, List.set_cons_succ, i64_w, i32_w]
             rfl
            refine pure_ (i := 15) (N := some 78) (v := undef) (a' := ?_) zA16x15 rfl rfl (by kernel_rfl) (fun _ _ _ h => h) (Or.inr ⟨by rfl, rfl⟩) ?_ ?_
            rotate_left
            ·simp only [Act.put, List.setIfInBounds_toArray, List.set_cons_zero, List.set_cons_succ, i64_w, i32_w]
             rfl
            refine pure_ (i := 16) (N := some 79) (v := undef) (a' := ?_) zA17x15 rfl rfl (by kernel_rfl) (fun _ _ _ h => h) (Or.inr ⟨by rfl, rfl⟩) ?_ ?_
            rotate_left
            ·simp only [Act.put, List.setIfInBounds_toArray, List.set_cons_zero, List.set_cons_succ, i64_w, i32_w]
             rfl
            refine pure_ (i := 17) (N := some 80) (v := undef) (a' := ?_) zA18x15 rfl rfl (by kernel_rfl) (fun _ _ _ h => h) (Or.inr ⟨by rfl, rfl⟩) ?_ ?_
            rotate_left
            ·simp only [Act.put, List.setIfInBounds_toArray, List.set_cons_zero, List.set_cons_succ, i64_w, i32_w]
             rfl
            refine pure_ (i := 18) (N := some 81) (v := undef) (a' := ?_) zA19x15 rfl rfl (by kernel_rfl) (fun _ _ _ h => h) (Or.inr ⟨by rfl, rfl⟩) ?_ ?_
            rotate_left
            ·simp only [Act.put, List.setIfInBounds_toArray, List.set_cons_zero, List.set_cons_succ, i64_w, i32_w]
             rfl
            refine pure_ (i := 19) (N := some 82) (v := undef) (a' := ?_) zA20x15 rfl rfl (by kernel_rfl) (fun _ _ _ h => h) (Or.inr ⟨by rfl, rfl⟩) ?_ ?_
            rotate_left
            ·simp only [Act.put, List.setIfInBounds_toArray, List.set_cons_zero, List.set_cons_succ, i64_w, i32_w]
             rfl
            refine pure_ (i := 20) (N := some 83) (v := ?_) (a' := ?_) zA21x15 rfl rfl (by kernel_rfl) (fun _ _ _ h => h) (Or.inl ⟨by rfl, ?_⟩) ?_ ?_; rotate_left; (intro w'; go_simp; with_reducible rfl); rotate_left; (simp only [Act.put, List.setIfInBounds_toArray, List.set_cons_zero, List.set_cons_succ, i64_w, i32_w]; rfl)
            refine pure_ (i := 21) (N := some 84) (v := ?_) (a' := ?_) zA22x15 rfl rfl (by kernel_rfl) (fun _ _ _ h => h) (Or.inl ⟨by rfl, ?_⟩) ?_ ?_; rotate_left; (intro w'; go_simp; with_reducible rfl); rotate_left; (simp only [Act.put, List.setIfInBounds_toArray, List.set_cons_zero, List.set_cons_succ, i64_w, i32_w]; rfl)
            refine done_ (by kernel_rfl) ?_

            go_wp2
            obtain ⟨g1, rfl⟩ : ∃ g1, gk = g1 + 1 := ⟨gk - 1, by have := HG.out; omega⟩
            go_roundg g1
            case measure => omega
            case rel =>
             refine ⟨j + 1, by go_num, ⟨by have := HG.out; omega⟩, ⟨fun t ht => ?_⟩, ⟨blk_below AB.out HB3.out⟩, ⟨Kd.R_below MB.out HB3.out⟩, ⟨BB.out.trans (HB3.out.mono BB.out.size)⟩⟩
             rcases Nat.lt_or_ge t j with h | h
             ·exact HA.out t h
             ·obtain rfl : t = j := by omega
              exact HNB.out
           ·have hk : inB Kq 0 7 = true := by have := HFT.out; rw [ho] at this; simpa using this
            have hk2 : 0 ≤ Kq ∧ Kq ≤ 7 := by simpa [inB] using hk
            have k1 : 0 ≤ Kq := hk2.1
            have k2 : Kq < 8 := by omega
            clear hk2 hk
            have hkn : Kq.toNat < ws.length := by have := HL.out; omega
            have sw_ := ws_cell AB.out Kq.toNat hkn
            rw [ho] at HBD
            generalize hwk : ws.getD Kq.toNat 0 = wk at *
            clear hwk hkn
            rcases tc (W != wk) with hb | hb
            ·have hnb : frontBad l1 met ws j = false := by rw [HBD.out, hb]; simp
             have HNB := Aside0.mk hnb
             clear hnb
             refine start_ (n := 22) (S := fun w' => w'.cell? ⟨gn, 0, none⟩ = some (.int .i64 op) ∧ w'.cell? ⟨gn, 1, none⟩ = some (.int .i64 W) ∧ w'.cell? ⟨gn, 2, none⟩ = some (.int .i64 Kq) ∧ w'.cell? ⟨gn, 3, none⟩ = some (.int .i64 A) ∧ w'.cell? ⟨gn, 4, none⟩ = some (.int .i64 B) ∧ w'.cell? ⟨gn, 5, none⟩ = some (.int .i64 Cq) ∧ w'.cell? (adm.add j) = some (.bool true) ∧ w'.cell? ⟨w.heap.size, Kq.toNat, none⟩ = some (.int .i64 wk)) (ds := []) zA0x15 (by kernel_rfl) rfl rfl ⟨s0_, s1_, s2_, s3_, s4_, s5_, sm_, sw_⟩ (fun hHeld => ?_)
             refine take_ (i := 0) (N := some 63) (v := ?_) (a' := ?_) zA1x15 rfl rfl (by kernel_rfl) (fun _ _ _ h => h) (Or.inl ⟨by rfl, ?_⟩) hHeld ?_ ?_
             rotate_left
             ·rintro w' ⟨s0, s1, s2, s3, s4, s5, s6, s7⟩
              go_simp
              with_reducible rfl
             rotate_left
             ·simp only [Act.put, List.setIfInBounds_toArray, List.set_cons_zero, List.set_cons_succ, i64_w, i32_w]
              rfl
             refine one_ (i := 1) (N := some 64) zA2x15 rfl rfl (by kernel_rfl) (by decide) (fun K hK => ?_)
             refine goes_ Try.func53 (by kernel_rfl) rfl #[.agg #[.int .i64 op, .int .i64 W, .int .i64 Kq, .int .i64 A, .int .i64 B, .int .i64 Cq]] (by rfl) rfl rfl (by simp only [List.map_toArray, List.map_cons, List.map_nil]; rfl) ?_
             with_reducible refine (impl_isQuant.calls _ _ _ _ _ _ false _ (by rw [isQuantF, HQ.out])).mono ?_
             rintro e w3 ⟨rfl, hb⟩
             refine ⟨_, rfl, ?_⟩
             have HB3 := Aside0.mk (show Below wB.heap.size wB w3 from Below.trans (by apply below_drew1; exact Below.refl _ _) (hb.mono (by simp)))
             clear hb
             refine hK.out _ _ ⟨((HB3.out.cell (World.block_lt_of_cell? wB _ s0_)).trans s0_), ((HB3.out.cell (World.block_lt_of_cell? wB _ s1_)).trans s1_), ((HB3.out.cell (World.block_lt_of_cell? wB _ s2_)).trans s2_), ((HB3.out.cell (World.block_lt_of_cell? wB _ s3_)).trans s3_), ((HB3.out.cell (World.block_lt_of_cell? wB _ s4_)).trans s4_), ((HB3.out.cell (World.block_lt_of_cell? wB _ s5_)).trans s5_), ((HB3.out.cell (World.block_lt_of_cell? wB _ sm_)).trans sm_), ((HB3.out.cell (World.block_lt_of_cell? wB _ sw_)).trans sw_)⟩ (fun hHeld => ?_)
             clear hK K
             refine norm_ (a' := ?_) ?_ ?_
             rotate_left
             ·show Act.put _ (some 64) _ = _
              simp only [Act.put, List.setIfInBounds_toArray, List.set_cons_zero, List.set_cons_succ, i64_w, i32_w]
              rfl
             refine pure_ (i := 2) (N := some 65) (v := ?_) (a' := ?_) zA3x15 rfl rfl (by kernel_rfl) (fun _ _ _ h => h) (Or.inl ⟨by rfl, ?_⟩) ?_ ?_; rotate_left; (intro w'; go_simp; with_reducible rfl); rotate_left; (simp only [Act.put, List.setIfInBounds_toArray, List.set_cons_zero, List.set_cons_succ, i64_w, i32_w]; rfl)
             refine pure_ (i := 3) (N := some 66) (v := ?_) (a' := ?_) zA4x15 rfl rfl (by kernel_rfl) (fun _ _ _ h => h) (Or.inl ⟨by rfl, ?_⟩) ?_ ?_; rotate_left; (intro w'; go_simp; with_reducible rfl); rotate_left; (simp only [Act.put, List.setIfInBounds_toArray, List.set_cons_zero, List.set_cons_succ, i64_w, i32_w]; rfl)
             refine pure_ (i := 4) (N := some 67) (v := ?_) (a' := ?_) zA5x15 rfl rfl (by kernel_rfl) (fun _ _ _ h => h) (Or.inl ⟨by rfl, ?_⟩) ?_ ?_; rotate_left; (intro w'; go_simp; with_reducible rfl); rotate_left; (simp only [Act.put, List.setIfInBounds_toArray, List.set_cons_zero, List.set_cons_succ, i64_w, i32_w]; rfl)
             refine pure_ (i := 5) (N := some 68) (v := ?_) (a' := ?_) zA6x15 rfl rfl (by kernel_rfl) (fun _ _ _ h => h) (Or.inl ⟨by rfl, ?_⟩) ?_ ?_; rotate_left; (intro w'; go_simp; with_reducible rfl); rotate_left; (simp only [Act.put, List.setIfInBounds_toArray, List.set_cons_zero, List.set_cons_succ, i64_w, i32_w]; rfl)
             refine take_ (i := 6) (N := some 69) (v := ?_) (a' := ?_) zA7x15 rfl rfl (by kernel_rfl) (fun _ _ _ h => h) (Or.inl ⟨by rfl, ?_⟩) hHeld ?_ ?_
             rotate_left
             ·rintro w' ⟨s0, s1, s2, s3, s4, s5, s6, s7⟩
              go_simp
              with_reducible rfl
             rotate_left
             ·simp only [Act.put, List.setIfInBounds_toArray, List.set_cons_zero, List.set_cons_succ, i64_w, i32_w]
              rfl
             refine pure_ (i := 7) (N := some 70) (v := ?_) (a' := ?_) zA8x15 rfl rfl (by kernel_rfl) (fun _ _ _ h => h) (Or.inl ⟨by rfl, ?_⟩) ?_ ?_; rotate_left; (intro w'; go_simp; with_reducible rfl); rotate_left; (simp only [Act.put, List.setIfInBounds_toArray, List.set_cons_zero, List.set_cons_succ, i64_w, i32_w]; rfl)
             refine pure_ (i := 8) (N := some 71) (v := ?_) (a' := ?_) zA9x15 rfl rfl (by kernel_rfl) (fun _ _ _ h => h) (Or.inl ⟨by rfl, ?_⟩) ?_ ?_; rotate_left; (intro w'; go_simp; with_reducible rfl); rotate_left; (simp only [Act.put, List.setIfInBounds_toArray, List.set_cons_zero, List.set_cons_succ, i64_w, i32_w]; rfl)
             refine take_ (i := 9) (N := some 72) (v := ?_) (a' := ?_) zA10x15 rfl rfl (by kernel_rfl) (fun _ _ _ h => h) (Or.inl ⟨by rfl, ?_⟩) hHeld ?_ ?_
             rotate_left
             ·rintro w' ⟨s0, s1, s2, s3, s4, s5, s6, s7⟩
              go_simp
              with_reducible rfl
             rotate_left
             ·simp only [Act.put, List.setIfInBounds_toArray, List.set_cons_zero, List.set_cons_succ, i64_w, i32_w]
              rfl
             refine pure_ (i := 10) (N := some 73) (v := ?_) (a' := ?_) zA11x15 rfl rfl (by kernel_rfl) (fun _ _ _ h => h) (Or.inl ⟨by rfl, ?_⟩) ?_ ?_; rotate_left; (intro w'; go_simp; with_reducible rfl); rotate_left; (simp only [Act.put, List.setIfInBounds_toArray, List.set_cons_zero, List.set_cons_succ, i64_w, i32_w]; rfl)
             refine pure_ (i := 11) (N := some 74) (v := ?_) (a' := ?_) zA12x15 rfl rfl (by kernel_rfl) (fun _ _ _ h => h) (Or.inl ⟨by rfl, ?_⟩) ?_ ?_; rotate_left; (intro w'; go_simp; with_reducible rfl); rotate_left; (simp only [Act.put, List.setIfInBounds_toArray, List.set_cons_zero, List.set_cons_succ, i64_w, i32_w]; rfl)
             refine pure_ (i := 12) (N := some 75) (v := ?_) (a' := ?_) zA13x15 rfl rfl (by kernel_rfl) (fun _ _ _ h => h) (Or.inl ⟨by rfl, ?_⟩) ?_ ?_; rotate_left; (intro w'; go_simp; with_reducible rfl); rotate_left; (simp only [Act.put, List.setIfInBounds_toArray, List.set_cons_zero, List.set_cons_succ, i64_w, i32_w]; rfl)
             refine pure_ (i := 13) (N := some 76) (v := ?_) (a' := ?_) zA14x15 rfl rfl (by kernel_rfl) (fun _ _ _ h => h) (Or.inl ⟨by rfl, ?_⟩) ?_ ?_; rotate_left; (intro w'; go_simp; with_reducible rfl); rotate_left; (simp only [Act.put, List.setIfInBounds_toArray, List.set_cons_zero, List.set_cons_succ, i64_w, i32_w]; rfl)
             refine pure_ (i := 15) (N := some 78) (v := ?_) (a' := ?_) zA23x15 rfl rfl (by kernel_rfl) (fun _ _ _ h => h) (Or.inl ⟨by rfl, ?_⟩) ?_ ?_; rotate_left; (intro w'; go_simp; with_reducible rfl); rotate_left; (simp only [Act.put, List.setIfInBounds_toArray, List.set_cons_zero, List.set_cons_succ, i64_w, i32_w]; rfl)
             refine take_ (i := 14) (N := some 77) (v := ?_) (a' := ?_) zA16x15 rfl rfl (by kernel_rfl) (fun _ _ _ h => h) (Or.inl ⟨by rfl, ?_⟩) hHeld ?_ ?_
             rotate_left
             ·rintro w' ⟨s0, s1, s2, s3, s4, s5, s6, s7⟩
              go_simp
              with_reducible rfl
             rotate_left
             ·simp only [Act.put, List.setIfInBounds_toArray, List.set_cons_zero, List.set_cons_succ, i64_w, i32_w]
              rfl
             refine take_ (i := 16) (N := some 79) (v := ?_) (a' := ?_) zA17x15 rfl rfl (by kernel_rfl) (fun _ _ _ h => h) (Or.inl ⟨by rfl, ?_⟩) hHeld ?_ ?_
             rotate_left
             ·rintro w' ⟨s0, s1, s2, s3, s4, s5, s6, s7⟩
              go_simp
              with_reducible rfl
             rotate_left
             ·simp only [Act.put, List.setIfInBounds_toArray, List.set_cons_zero, List.set_cons_succ, i64_w, i32_w]
              rfl
             refine pure_ (i := 17) (N := some 80) (v := ?_) (a' := ?_) zA18x15 rfl rfl (by kernel_rfl) (fun _ _ _ h => h) (Or.inl ⟨by rfl, ?_⟩) ?_ ?_; rotate_left; (intro w'; go_simp; with_reducible rfl); rotate_left; (simp only [Act.put, List.setIfInBounds_toArray, List.set_cons_zero, List.set_cons_succ, i64_w, i32_w]; rfl)
             refine take_ (i := 18) (N := some 81) (v := ?_) (a' := ?_) zA19x15 rfl rfl (by kernel_rfl) (fun _ _ _ h => h) (Or.inl ⟨by rfl, ?_⟩) hHeld ?_ ?_
             rotate_left
             ·rintro w' ⟨s0, s1, s2, s3, s4, s5, s6, s7⟩
              go_simp
              with_reducible rfl
             rotate_left
             ·simp only [Act.put, List.setIfInBounds_toArray, List.set_cons_zero, List.set_cons_succ, i64_w, i32_w]
              rfl
             refine pure_ (i := 19) (N := some 82) (v := ?_) (a' := ?_) zA20x15 rfl rfl (by kernel_rfl) (fun _ _ _ h => h) (Or.inl ⟨by rfl, ?_⟩) ?_ ?_; rotate_left; (intro w'; go_simp; with_reducible rfl); rotate_left; (simp only [Act.put, List.setIfInBounds_toArray, List.set_cons_zero, List.set_cons_succ, i64_w, i32_w]; rfl)
             refine pure_ (i := 20) (N := some 83) (v := ?_) (a' := ?_) zA21x15 rfl rfl (by kernel_rfl) (fun _ _ _ h => h) (Or.inl ⟨by rfl, ?_⟩) ?_ ?_; rotate_left; (intro w'; go_simp; with_reducible rfl); rotate_left; (simp only [Act.put, List.setIfInBounds_toArray, List.set_cons_zero, List.set_cons_succ, i64_w, i32_w]; rfl)
             refine pure_ (i := 21) (N := some 84) (v := ?_) (a' := ?_) zA22x15 rfl rfl (by kernel_rfl) (fun _ _ _ h => h) (Or.inl ⟨by rfl, ?_⟩) ?_ ?_; rotate_left; (intro w'; go_simp; with_reducible rfl); rotate_left; (simp only [Act.put, List.setIfInBounds_toArray, List.set_cons_zero, List.set_cons_succ, i64_w, i32_w]; rfl)
             refine done_ (by kernel_rfl) ?_

             go_wp2
             obtain ⟨g1, rfl⟩ : ∃ g1, gk = g1 + 1 := ⟨gk - 1, by have := HG.out; omega⟩
             go_roundg g1
             case measure => omega
             case rel =>
              refine ⟨j + 1, by go_num, ⟨by have := HG.out; omega⟩, ⟨fun t ht => ?_⟩, ⟨blk_below AB.out HB3.out⟩, ⟨Kd.R_below MB.out HB3.out⟩, ⟨BB.out.trans (HB3.out.mono BB.out.size)⟩⟩
              rcases Nat.lt_or_ge t j with h | h
              ·exact HA.out t h
              ·obtain rfl : t = j := by omega
               exact HNB.out
            ·have hr : r = false := by
              rw [← H2.out]
              rw [List.all_eq_false]
              exact ⟨j, List.mem_range.mpr hj, by rw [HBD.out, hb]; simp⟩
             subst hr
             refine start_ (n := 22) (S := fun w' => w'.cell? ⟨gn, 0, none⟩ = some (.int .i64 op) ∧ w'.cell? ⟨gn, 1, none⟩ = some (.int .i64 W) ∧ w'.cell? ⟨gn, 2, none⟩ = some (.int .i64 Kq) ∧ w'.cell? ⟨gn, 3, none⟩ = some (.int .i64 A) ∧ w'.cell? ⟨gn, 4, none⟩ = some (.int .i64 B) ∧ w'.cell? ⟨gn, 5, none⟩ = some (.int .i64 Cq) ∧ w'.cell? (adm.add j) = some (.bool true) ∧ w'.cell? ⟨w.heap.size, Kq.toNat, none⟩ = some (.int .i64 wk)) (ds := []) zA0x15 (by kernel_rfl) rfl rfl ⟨s0_, s1_, s2_, s3_, s4_, s5_, sm_, sw_⟩ (fun hHeld => ?_)
             refine take_ (i := 0) (N := some 63) (v := ?_) (a' := ?_) zA1x15 rfl rfl (by kernel_rfl) (fun _ _ _ h => h) (Or.inl ⟨by rfl, ?_⟩) hHeld ?_ ?_
             rotate_left
             ·rintro w' ⟨s0, s1, s2, s3, s4, s5, s6, s7⟩
              go_simp
              with_reducible rfl
             rotate_left
             ·simp only [Act.put, List.setIfInBounds_toArray, List.set_cons_zero, List.set_cons_succ, i64_w, i32_w]
              rfl
             refine one_ (i := 1) (N := some 64) zA2x15 rfl rfl (by kernel_rfl) (by decide) (fun K hK => ?_)
             refine goes_ Try.func53 (by kernel_rfl) rfl #[.agg #[.int .i64 op, .int .i64 W, .int .i64 Kq, .int .i64 A, .int .i64 B, .int .i64 Cq]] (by rfl) rfl rfl (by simp only [List.map_toArray, List.map_cons, List.map_nil]; rfl) ?_
             with_reducible refine (impl_isQuant.calls _ _ _ _ _ _ false _ (by rw [isQuantF, HQ.out])).mono ?_
             rintro e w3 ⟨rfl, hb⟩
             refine ⟨_, rfl, ?_⟩
             have HB3 := Aside0.mk (show Below wB.heap.size wB w3 from Below.trans (by apply below_drew1; exact Below.refl _ _) (hb.mono (by simp)))
             clear hb
             refine hK.out _ _ ⟨((HB3.out.cell (World.block_lt_of_cell? wB _ s0_)).trans s0_), ((HB3.out.cell (World.block_lt_of_cell? wB _ s1_)).trans s1_), ((HB3.out.cell (World.block_lt_of_cell? wB _ s2_)).trans s2_), ((HB3.out.cell (World.block_lt_of_cell? wB _ s3_)).trans s3_), ((HB3.out.cell (World.block_lt_of_cell? wB _ s4_)).trans s4_), ((HB3.out.cell (World.block_lt_of_cell? wB _ s5_)).trans s5_), ((HB3.out.cell (World.block_lt_of_cell? wB _ sm_)).trans sm_), ((HB3.out.cell (World.block_lt_of_cell? wB _ sw_)).trans sw_)⟩ (fun hHeld => ?_)
             clear hK K
             refine norm_ (a' := ?_) ?_ ?_
             rotate_left
             ·show Act.put _ (some 64) _ = _
              simp only [Act.put, List.setIfInBounds_toArray, List.set_cons_zero, List.set_cons_succ, i64_w, i32_w]
              rfl
             refine pure_ (i := 2) (N := some 65) (v := ?_) (a' := ?_) zA3x15 rfl rfl (by kernel_rfl) (fun _ _ _ h => h) (Or.inl ⟨by rfl, ?_⟩) ?_ ?_; rotate_left; (intro w'; go_simp; with_reducible rfl); rotate_left; (simp only [Act.put, List.setIfInBounds_toArray, List.set_cons_zero, List.set_cons_succ, i64_w, i32_w]; rfl)
             refine pure_ (i := 3) (N := some 66) (v := ?_) (a' := ?_) zA4x15 rfl rfl (by kernel_rfl) (fun _ _ _ h => h) (Or.inl ⟨by rfl, ?_⟩) ?_ ?_; rotate_left; (intro w'; go_simp; with_reducible rfl); rotate_left; (simp only [Act.put, List.setIfInBounds_toArray, List.set_cons_zero, List.set_cons_succ, i64_w, i32_w]; rfl)
             refine pure_ (i := 4) (N := some 67) (v := ?_) (a' := ?_) zA5x15 rfl rfl (by kernel_rfl) (fun _ _ _ h => h) (Or.inl ⟨by rfl, ?_⟩) ?_ ?_; rotate_left; (intro w'; go_simp; with_reducible rfl); rotate_left; (simp only [Act.put, List.setIfInBounds_toArray, List.set_cons_zero, List.set_cons_succ, i64_w, i32_w]; rfl)
             refine pure_ (i := 5) (N := some 68) (v := ?_) (a' := ?_) zA6x15 rfl rfl (by kernel_rfl) (fun _ _ _ h => h) (Or.inl ⟨by rfl, ?_⟩) ?_ ?_; rotate_left; (intro w'; go_simp; with_reducible rfl); rotate_left; (simp only [Act.put, List.setIfInBounds_toArray, List.set_cons_zero, List.set_cons_succ, i64_w, i32_w]; rfl)
             refine take_ (i := 6) (N := some 69) (v := ?_) (a' := ?_) zA7x15 rfl rfl (by kernel_rfl) (fun _ _ _ h => h) (Or.inl ⟨by rfl, ?_⟩) hHeld ?_ ?_
             rotate_left
             ·rintro w' ⟨s0, s1, s2, s3, s4, s5, s6, s7⟩
              go_simp
              with_reducible rfl
             rotate_left
             ·simp only [Act.put, List.setIfInBounds_toArray, List.set_cons_zero, List.set_cons_succ, i64_w, i32_w]
              rfl
             refine pure_ (i := 7) (N := some 70) (v := ?_) (a' := ?_) zA8x15 rfl rfl (by kernel_rfl) (fun _ _ _ h => h) (Or.inl ⟨by rfl, ?_⟩) ?_ ?_; rotate_left; (intro w'; go_simp; with_reducible rfl); rotate_left; (simp only [Act.put, List.setIfInBounds_toArray, List.set_cons_zero, List.set_cons_succ, i64_w, i32_w]; rfl)
             refine pure_ (i := 8) (N := some 71) (v := ?_) (a' := ?_) zA9x15 rfl rfl (by kernel_rfl) (fun _ _ _ h => h) (Or.inl ⟨by rfl, ?_⟩) ?_ ?_; rotate_left; (intro w'; go_simp; with_reducible rfl); rotate_left; (simp only [Act.put, List.setIfInBounds_toArray, List.set_cons_zero, List.set_cons_succ, i64_w, i32_w]; rfl)
             refine take_ (i := 9) (N := some 72) (v := ?_) (a' := ?_) zA10x15 rfl rfl (by kernel_rfl) (fun _ _ _ h => h) (Or.inl ⟨by rfl, ?_⟩) hHeld ?_ ?_
             rotate_left
             ·rintro w' ⟨s0, s1, s2, s3, s4, s5, s6, s7⟩
              go_simp
              with_reducible rfl
             rotate_left
             ·simp only [Act.put, List.setIfInBounds_toArray, List.set_cons_zero, List.set_cons_succ, i64_w, i32_w]
              rfl
             refine pure_ (i := 10) (N := some 73) (v := ?_) (a' := ?_) zA11x15 rfl rfl (by kernel_rfl) (fun _ _ _ h => h) (Or.inl ⟨by rfl, ?_⟩) ?_ ?_; rotate_left; (intro w'; go_simp; with_reducible rfl); rotate_left; (simp only [Act.put, List.setIfInBounds_toArray, List.set_cons_zero, List.set_cons_succ, i64_w, i32_w]; rfl)
             refine pure_ (i := 11) (N := some 74) (v := ?_) (a' := ?_) zA12x15 rfl rfl (by kernel_rfl) (fun _ _ _ h => h) (Or.inl ⟨by rfl, ?_⟩) ?_ ?_; rotate_left; (intro w'; go_simp; with_reducible rfl); rotate_left; (simp only [Act.put, List.setIfInBounds_toArray, List.set_cons_zero, List.set_cons_succ, i64_w, i32_w]; rfl)
             refine pure_ (i := 12) (N := some 75) (v := ?_) (a' := ?_) zA13x15 rfl rfl (by kernel_rfl) (fun _ _ _ h => h) (Or.inl ⟨by rfl, ?_⟩) ?_ ?_; rotate_left; (intro w'; go_simp; with_reducible rfl); rotate_left; (simp only [Act.put, List.setIfInBounds_toArray, List.set_cons_zero, List.set_cons_succ, i64_w, i32_w]; rfl)
             refine pure_ (i := 13) (N := some 76) (v := ?_) (a' := ?_) zA14x15 rfl rfl (by kernel_rfl) (fun _ _ _ h => h) (Or.inl ⟨by rfl, ?_⟩) ?_ ?_; rotate_left; (intro w'; go_simp; with_reducible rfl); rotate_left; (simp only [Act.put, List.setIfInBounds_toArray, List.set_cons_zero, List.set_cons_succ, i64_w, i32_w]; rfl)
             refine pure_ (i := 15) (N := some 78) (v := ?_) (a' := ?_) zA23x15 rfl rfl (by kernel_rfl) (fun _ _ _ h => h) (Or.inl ⟨by rfl, ?_⟩) ?_ ?_; rotate_left; (intro w'; go_simp; with_reducible rfl); rotate_left; (simp only [Act.put, List.setIfInBounds_toArray, List.set_cons_zero, List.set_cons_succ, i64_w, i32_w]; rfl)
             refine take_ (i := 14) (N := some 77) (v := ?_) (a' := ?_) zA16x15 rfl rfl (by kernel_rfl) (fun _ _ _ h => h) (Or.inl ⟨by rfl, ?_⟩) hHeld ?_ ?_
             rotate_left
             ·rintro w' ⟨s0, s1, s2, s3, s4, s5, s6, s7⟩
              go_simp
              with_reducible rfl
             rotate_left
             ·simp only [Act.put, List.setIfInBounds_toArray, List.set_cons_zero, List.set_cons_succ, i64_w, i32_w]
              rfl
             refine take_ (i := 16) (N := some 79) (v := ?_) (a' := ?_) zA17x15 rfl rfl (by kernel_rfl) (fun _ _ _ h => h) (Or.inl ⟨by rfl, ?_⟩) hHeld ?_ ?_
             rotate_left
             ·rintro w' ⟨s0, s1, s2, s3, s4, s5, s6, s7⟩
              go_simp
              with_reducible rfl
             rotate_left
             ·simp only [Act.put, List.setIfInBounds_toArray, List.set_cons_zero, List.set_cons_succ, i64_w, i32_w]
              rfl
             refine pure_ (i := 17) (N := some 80) (v := ?_) (a' := ?_) zA18x15 rfl rfl (by kernel_rfl) (fun _ _ _ h => h) (Or.inl ⟨by rfl, ?_⟩) ?_ ?_; rotate_left; (intro w'; go_simp; with_reducible rfl); rotate_left; (simp only [Act.put, List.setIfInBounds_toArray, List.set_cons_zero, List.set_cons_succ, i64_w, i32_w]; rfl)
             refine take_ (i := 18) (N := some 81) (v := ?_) (a' := ?_) zA19x15 rfl rfl (by kernel_rfl) (fun _ _ _ h => h) (Or.inl ⟨by rfl, ?_⟩) hHeld ?_ ?_
             rotate_left
             ·rintro w' ⟨s0, s1, s2, s3, s4, s5, s6, s7⟩
              go_simp
              with_reducible rfl
             rotate_left
             ·simp only [Act.put, List.setIfInBounds_toArray, List.set_cons_zero, List.set_cons_succ, i64_w, i32_w]
              rfl
             refine pure_ (i := 19) (N := some 82) (v := ?_) (a' := ?_) zA20x15 rfl rfl (by kernel_rfl) (fun _ _ _ h => h) (Or.inl ⟨by rfl, ?_⟩) ?_ ?_; rotate_left; (intro w'; go_simp; with_reducible rfl); rotate_left; (simp only [Act.put, List.setIfInBounds_toArray, List.set_cons_zero, List.set_cons_succ, i64_w, i32_w]; rfl)
             refine pure_ (i := 20) (N := some 83) (v := ?_) (a' := ?_) zA21x15 rfl rfl (by kernel_rfl) (fun _ _ _ h => h) (Or.inl ⟨by rfl, ?_⟩) ?_ ?_; rotate_left; (intro w'; go_simp; with_reducible rfl); rotate_left; (simp only [Act.put, List.setIfInBounds_toArray, List.set_cons_zero, List.set_cons_succ, i64_w, i32_w]; rfl)
             refine pure_ (i := 21) (N := some 84) (v := ?_) (a' := ?_) zA22x15 rfl rfl (by kernel_rfl) (fun _ _ _ h => h) (Or.inl ⟨by rfl, ?_⟩) ?_ ?_; rotate_left; (intro w'; go_simp; with_reducible rfl); rotate_left; (simp only [Act.put, List.setIfInBounds_toArray, List.set_cons_zero, List.set_cons_succ, i64_w, i32_w]; rfl)
             refine done_ (by kernel_rfl) ?_

             go_wp2
             go_ret
             exact ⟨rfl, BB.out.trans (HB3.out.mono BB.out.size)⟩
        ·obtain rfl : j = l1.length := by have := HG.out; omega
         have t1 : decide ((l1.length : Int) < (l1.length : Int)) = false := decide_eq_false (by omega)
         have hr : r = true := by
          rw [← H2.out, List.all_eq_true]
          intro t ht
          rw [HA.out t (List.mem_range.mp ht)]; rfl
         subst hr
         go_wp2
         go_ret
         exact ⟨rfl, HB.out⟩
      ·rw [if_neg hfit] at h2; exact absurd h2 (by simp)
     ·rw [if_neg hw1] at h2
      obtain rfl : false = r := Option.some.inj h2
      clear h2
      have hw1' : ((rd_T36 l1 ((l1.length : Int) - 1)).f1 != 1) = true := bne_iff_ne.mpr hw1
      generalize (rd_T36 l1 ((l1.length : Int) - 1)).f1 = W1 at *
      clear hw1
      go_wp2_with (go_at_call 15; (with_reducible refine (impl_TermOk.calls k _ c1 l1 true _ ?s1 HC1.out HT.out).mono ?_); (case s1 => exact Kd.C_below HR1.out HB.out); rintro e w2 ⟨rfl, hb⟩; have HB2 := Aside0.mk (HB.out.trans (hb.mono HB.out.size)); clear hb; have x1_ := pw_cell_below HB2.out X1.out)
      go_ret
      exact ⟨rfl, HB2.out⟩
    ·rw [if_neg h1] at h2; exact absurd h2 (by simp)

end Go.Proofs.Ytdebihfmceclkaa.PFnExactBack
