/- Written by a program of this session over the loaded program, and by hand: Go functions as plain Lean functions, and that a call comes to what they say. -/
import Derived.Test.YtkpipmojkhikaaaVDenied0
import Derived.Test.YtkpipmojkhikaaaBase
import Derived.Test.YtkpipmojkhikaaaSq
namespace Go.Proofs.Ytkpipmojkhikaaa.PAll
open Go.RowKit Go.Proofs.YtkpipmojkhikaaaW.PrintWords Go.Proofs.YtkpipmojkhikaaaW.PrintLast Go.Proofs.YtkpipmojkhikaaaW.PrintMore Go.Proofs.YtkpipmojkhikaaaW.Sq
attribute [local go_sem] qZ qX sT sS qC qB qY qW
set_option linter.unusedVariables false
set_option maxHeartbeats 8000000
set_option maxRecDepth 100000
set_option linter.unusedSimpArgs false
def a1d (l0 : List Int) : Option (Bool) := some (decide ((l0.length : Int) > 1048576))
theorem laws_big.calls {A0 : Option Addr} {c0 : Nat} {l0 : List Int} {r : Bool} {w : World} (hr0 : Kd.C (Kd.int .u8) w A0 l0.length l0) (hc0 : l0.length ≤ c0) (h : a1d l0 = some r) :
  Calls Try.prog 10 #[.slice A0 l0.length c0] w fun e w' => e = .returned (.bool r) ∧ Drawn0 w w' := by
 have a0 := am hr0
 have a1 := am hc0
 clear hr0 hc0
 have H := h
 clear h
 unfold a1d at H
 obtain rfl := oI H
 go_enter Try.func10, Try.ntmps10
 go_wp2
 go_ret
 exact ⟨rfl, dR⟩
def IsS93 (w0 W : World) (g : Nat) (f0 : List Int) (f1 : Int) (f2 : Int) : Prop := ∃ A0 c0, W.heap[g]? = some (.cells #[.slice A0 f0.length c0, .int .i64 f1, .int .i64 f2] 93 (0, 0)) ∧ w0.heap.size ≤ g ∧ Kd.C (Kd.int .u8) w0 A0 f0.length f0
theorem IsS93.grown {w0 W : World} {g : Nat} {f0 : List Int} {f1 : Int} {f2 : Int} {W1 : World} {row : Option Nat} (h : IsS93 w0 W g f0 f1 f2) (hw : W.grownBy W1 row) (hne : some g ≠ row) : IsS93 w0 W1 g f0 f1 f2 := by
 obtain ⟨A0, c0, hb, hg, hr0⟩ := h
 exact ⟨A0, c0, tF hb hw hne, hg, hr0⟩
theorem IsS93.kept {w0 W : World} {g : Nat} {f0 : List Int} {f1 : Int} {f2 : Int} {W1 : World} {S : Nat → Prop} (h : IsS93 w0 W g f0 f1 f2) (hk : Kept W W1 S) (hne : ¬ S g) : IsS93 w0 W1 g f0 f1 f2 := by
 obtain ⟨A0, c0, hb, hg, hr0⟩ := h
 exact ⟨A0, c0, wV hb hk hne, hg, hr0⟩
theorem IsS93.below {w0 W : World} {g : Nat} {f0 : List Int} {f1 : Int} {f2 : Int} {W1 : World} (h : IsS93 w0 W g f0 f1 f2) (hw : Below W.heap.size W W1) : IsS93 w0 W1 g f0 f1 f2 := h.grown (a1m hw none) (by simp)
theorem IsS93.alloc {w0 W : World} {g : Nat} {f0 : List Int} {f1 : Int} {f2 : Int} (h : IsS93 w0 W g f0 f1 f2) (o : Obj) : IsS93 w0 (W.alloc o) g f0 f1 f2 := h.below (kR (Below.refl _ _) o)
theorem IsS93.drewN {w0 W : World} {g : Nat} {f0 : List Int} {f1 : Int} {f2 : Int} (h : IsS93 w0 W g f0 f1 f2) (m : Nat) : IsS93 w0 (W.drewN m) g f0 f1 f2 := h
theorem IsS93.drew {w0 W : World} {g : Nat} {f0 : List Int} {f1 : Int} {f2 : Int} (h : IsS93 w0 W g f0 f1 f2) : IsS93 w0 W.drew g f0 f1 f2 := h
theorem IsS93.apart {w0 W : World} {g : Nat} {f0 : List Int} {f1 : Int} {f2 : Int} {α : Type} {d : Kd α} {e : Nat} {base : Nat} {ok : Nat → Prop} {v : Value} {xs : List α} (h : IsS93 w0 W g f0 f1 f2) (ho : d.R e W base ok v xs) (ht : ∀ q, q ∈ e :: d.E → q ≠ 93) : d.R e W base (fun k => ok k ∧ k ≠ g) v xs := by
 obtain ⟨A0, c0, hb, hg, hr0⟩ := h
 exact Kd.R_types ho hb ht
theorem vH {w0 w W W2 : World} {g : Nat} {f0 : List Int} {f1 : Int} {f2 : Int} {α : Type} {d : Kd α} {e base : Nat} {ok : Nat → Prop} {v : Value} {xs : List α} (k : Aside0 (d.R e w base ok v xs)) (hk : KeepBut W W2 g none) (hI : IsS93 w0 W g f0 f1 f2 := by exact kL) (h : Below w.heap.size w W := by repeat (with_reducible first | exact Below.refl _ _ | apply kR | apply kI | apply kV)) (hd : ∀ q, q ∈ e :: d.E → q ≠ 93 := by decide) : Aside0 (d.R e W2 base ok v xs) := ⟨Kd.R_mono (Kd.R_keep (IsS93.apart hI (Kd.R_below k.out h) hd) hk (fun _ h => h.2)) (fun _ h => h.1)⟩
theorem pL {w0 W : World} {g : Nat} {f0 : List Int} {f1 : Int} {f2 : Int} {α : Type} {d : Kd α} {e : Nat} {base : Nat} {ok : Nat → Prop} {v : Value} {xs : List α} (h : IsS93 w0 W g f0 f1 f2) (ho : d.R e W base ok v xs) (ht : e ≠ 93) : some g ≠ v.ownBlock := by
 obtain ⟨A0, c0, hb, hg, hr0⟩ := h
 exact Kd.R_ne ho hb ht
theorem a3r {w0 W : World} {g : Nat} {f0 : List Int} {f1 : Int} {f2 : Int} (h : IsS93 w0 W g f0 f1 f2) : g < W.heap.size := by
 obtain ⟨A0, c0, hb, hg, hr0⟩ := h
 exact vQ hb
theorem a2n {w0 W : World} {g : Nat} {f0 : List Int} {f1 : Int} {f2 : Int} (h : IsS93 w0 W g f0 f1 f2) : w0.heap.size ≤ g := by
 obtain ⟨A0, c0, hb, hg, hr0⟩ := h
 exact hg
theorem b6n {w0 W : World} {g : Nat} {f0 : List Int} {f1 : Int} {f2 : Int} {p : Addr} (h : IsS93 w0 W g f0 f1 f2) (hne : g ≠ p.block) (u : Value) : IsS93 w0 (W.setCell p u) g f0 f1 f2 := by
 obtain ⟨A0, c0, hb, hg, hr0⟩ := h
 exact ⟨A0, c0, vZ hb hne u, hg, hr0⟩
theorem a9a {W : World} {g : Nat} {A0 : Option Addr} {c0 : Nat} {f0 : List Int} {f1 : Int} {f2 : Int} (h : W.heap[g]? = some (.cells #[.slice A0 f0.length c0, .int .i64 f1, .int .i64 f2] 93 (0, 0))) : W.cell? ⟨g, 0, none⟩ = some (.slice A0 f0.length c0) := (kG h 0).trans rfl
theorem a8z {W : World} {g : Nat} {A0 : Option Addr} {c0 : Nat} {f0 : List Int} {f1 : Int} {f2 : Int} (h : W.heap[g]? = some (.cells #[.slice A0 f0.length c0, .int .i64 f1, .int .i64 f2] 93 (0, 0))) : W.cell? ⟨g, 1, none⟩ = some (.int .i64 f1) := (kG h 1).trans rfl
theorem a5v {w0 W : World} {g : Nat} {f0 : List Int} {f1 : Int} {f2 : Int} (h : IsS93 w0 W g f0 f1 f2) (x : Int) : IsS93 w0 (W.setCell ⟨g, 1, none⟩ (.int .i64 x)) g f0 x f2 := by
 obtain ⟨A0, c0, hb, hg, hr0⟩ := h
 exact ⟨A0, c0, by simpa using zK hb 1 (.int .i64 x), hg, hr0⟩
theorem a8y {W : World} {g : Nat} {A0 : Option Addr} {c0 : Nat} {f0 : List Int} {f1 : Int} {f2 : Int} (h : W.heap[g]? = some (.cells #[.slice A0 f0.length c0, .int .i64 f1, .int .i64 f2] 93 (0, 0))) : W.cell? ⟨g, 2, none⟩ = some (.int .i64 f2) := (kG h 2).trans rfl
theorem a5u {w0 W : World} {g : Nat} {f0 : List Int} {f1 : Int} {f2 : Int} (h : IsS93 w0 W g f0 f1 f2) (x : Int) : IsS93 w0 (W.setCell ⟨g, 2, none⟩ (.int .i64 x)) g f0 f1 x := by
 obtain ⟨A0, c0, hb, hg, hr0⟩ := h
 exact ⟨A0, c0, by simpa using zK hb 2 (.int .i64 x), hg, hr0⟩
def uJ : Nat → List Int → Int → Int → Option (List Int × Int × Int)
 | 0, _, _, _ => none
 | k + 1, x0, x3, x4 => if x4 < (x0.length : Int) then (if x4 < 4000 then (if 0 ≤ x4 then (uJ k x0 (Go.bits .and .i64 (wrap64 ((wrap64 ((wrap64 (x3 * 131)) + (wrap64 (rd x0 x4)))) + 7)) 1073741823) (wrap64 (x4 + 1))) else (none)) else (some (x0, 0, x3))) else (some (x0, 0, x3))
def xH (k : Nat) (l0 : List Int) : Option (List Int × Int × Int) := uJ k l0 (wrap64 (118118 + (l0.length : Int))) 0
theorem b9p {P : Prop} (h : P := by
 simp only [Option.some.injEq, Prod.mk.injEq] at H
 obtain ⟨rfl, rfl, rfl⟩ := H
 go_wp2_with (first | ((with_reducible refine gW ?_); first | (refine bX 31 93 #[.slice A0 l0.length c0, .int .i64 0, .int .i64 a1] ?_; intro a2 hg aF hbox hb; replace HB := hB HB hb; have aA := am hbox; have a9 := am ((by rw [hg]; exact (kE (by exact sW HBW.out)) : w.heap.size ≤ a2)); have a8 := am ((Nat.le_trans HW0.out (by rw [hg]; exact (kE (by exact sW HBW.out)) : w.heap.size ≤ a2) : w0.heap.size ≤ a2)); replace HBW := am (rA HBW.out hb); clear hb hbox hg)))
 go_ret
 exact ⟨_, rfl, (show IsS93 w0 _ a2 l0 0 a1 from ⟨_, _, sB <| aA.out, a8.out, a3.out⟩), bW, by repeat (first | (with_reducible first | exact HBW.out | apply kR | apply kI | apply kV | refine kX ?_ a9.out) | exact HBW.out)⟩) : P := h
theorem spec_l01New.calls {k : Nat} {A0 : Option Addr} {c0 : Nat} {l0 r1 : List Int} {r2 r3 : Int} (w0 w : World) (hB : Below w0.heap.size w0 w) (hr0 : Kd.C (Kd.int .u8) w0 A0 l0.length l0) (hc0 : l0.length ≤ c0) (h : xH k l0 = some (r1, r2, r3)) :
  Calls Try.prog 39 #[.slice A0 l0.length c0] w fun e w' => ∃ g_ : Nat, e = .returned (.pointer (some ⟨g_, 0, none⟩)) ∧ IsS93 w0 w' g_ r1 r2 r3 ∧ Below w0.heap.size w0 w' ∧ Below w.heap.size w w' := by
 have hu93 := Try.underlying93
 have a3 := am hr0
 have aG := am hc0
 clear hr0 hc0
 have HBW := am (Below.refl w.heap.size w)
 have HW0 := am hB.size
 have HB := am hB
 clear hB
 have H := h
 clear h
 unfold xH at H
 replace H := am H
 go_enter Try.func39, Try.ntmps39
 go_wp2
 go_loopg [3, 4] k (fun kq v3 v4 w' => ∃ (a1 : Int) (a0 : Int), v3 = .int .i64 a1 ∧ v4 = .int .i64 a0 ∧ Aside0 (uJ kq l0 a1 a0 = some (r1, r2, r3)) ∧ Aside0 (kq ≤ k) ∧ Aside0 (Below w0.heap.size w0 w') ∧ Aside0 (Below w.heap.size w w'))
 case atStart => exact ⟨(wrap64 (118118 + (l0.length : Int))), 0, rfl, rfl, H, ⟨Nat.le_refl _⟩, ⟨sW HB.out⟩, ⟨sW HBW.out⟩⟩
 clear H
 obtain ⟨a1, a0, rfl, rfl, HA, a4, HB, HBW⟩ := hrel
 cases gk with
 | zero => cases HA.out
 | succ k1 =>
  obtain ⟨H⟩ := HA
  simp only [uJ] at H
  replace H := iD H; rcases H with ⟨a6, H⟩ | ⟨a6, H⟩
  ·replace H := iD H; rcases H with ⟨a5, H⟩ | ⟨a5, H⟩
   ·replace H := iN H; obtain ⟨aE, H⟩ := H
    replace H := am H
    obtain ⟨aD, aC, aB, rfl, a7⟩ := ix (Kd.at_int (Kd.C_below a3.out HB.out) a0)
    go_wp2
    go_roundg k1
    case measure => have := a4.out; omega
    case rel => exact ⟨(Go.bits .and .i64 (wrap64 ((wrap64 ((wrap64 (a1 * 131)) + (wrap64 (rd l0 a0)))) + 7)) 1073741823), (wrap64 (a0 + 1)), rfl, rfl, H, ⟨by have := a4.out; omega⟩, ⟨sW HB.out⟩, ⟨sW HBW.out⟩⟩
   exact b9p
  exact b9p
def rC (a0 : Int) : Option (Bool) := if a0 = 19 then (some true) else (some (a0 == 20))
theorem spec_l02Quant.calls {a0 : Int} {r : Bool} {w : World} (h : rC a0 = some r) :
  Calls Try.prog 50 #[.int .i64 a0] w fun e w' => e = .returned (.bool r) ∧ Drawn0 w w' := by
 have H := h
 clear h
 unfold rC at H
 replace H := iE H; rcases H with ⟨a2, a1, H⟩ | ⟨a2, a1, H⟩
 ·obtain rfl := oI H
  go_enter Try.func50, Try.ntmps50
  go_wp2
  go_ret
  exact ⟨rfl, dR⟩
 obtain rfl := oI H
 go_enter Try.func50, Try.ntmps50
 go_wp2
 go_ret
 exact ⟨rfl, dR⟩
def pJ (a0 : Int) (a1 : Int) (a2 : Int) : Option (Bool) := if a0 ≥ a1 then (some (decide (a0 ≤ a2))) else (some false)
theorem b9f {P : Prop} (h : P := by
 clear c4
 obtain rfl := oI H
 go_enter Try.func42, Try.ntmps42
 go_wp2
 go_ret
 exact ⟨rfl, dR⟩) : P := h
theorem spec_l01In.calls {a0 a1 a2 : Int} {r : Bool} {w : World} (h : pJ a0 a1 a2 = some r) :
  Calls Try.prog 42 #[.int .i64 a0, .int .i64 a1, .int .i64 a2] w fun e w' => e = .returned (.bool r) ∧ Drawn0 w w' := by
 have H := h
 clear h
 unfold pJ at H
 by_cases c4 : a0 ≥ a1
 ·rw [if_pos c4] at H
  have a3 : decide (a1 ≤ a0) = true := decide_eq_true c4
  exact b9f
 rw [if_neg c4] at H
 have a3 : decide (a1 ≤ a0) = false := decide_eq_false c4
 exact b9f
def vC : Nat → Bool → Int → Int → Int → Int → Int → Int → Option (List Int)
 | 0, _, _, _, _, _, _, _ => none
 | k + 1, x3, a2, a6, a5, a0, a1, a3 => if x3 = true then (some (([a0] : List Int))) else ((pJ a2 3 16).bind fun a4 => (if a4 = true then (some (([a0, a1] : List Int))) else (if a2 = 18 then (some (([a0, a1, a3] : List Int))) else (some (([] : List Int))))))
def rW (k : Nat) (a0 : Int) (a5 : Int) (a4 : Int) (a3 : Int) (a2 : Int) (a1 : Int) : Option (List Int) := if a0 = 2 then (vC k true a0 a5 a4 a3 a2 a1) else (if a0 = 17 then (vC k true a0 a5 a4 a3 a2 a1) else (if a0 = 19 then (vC k true a0 a5 a4 a3 a2 a1) else (vC k (a0 == 20) a0 a5 a4 a3 a2 a1)))
theorem b3c {P : Prop} (h : P := by
 replace H := am H
 have bK := cf6 a0.out
 go_wp2
 go_meet
 case rel => exact ⟨_, true, rfl, H, ⟨oM⟩, ⟨sB <| a0.out⟩, ⟨bW⟩⟩) : P := h
theorem spec_Parts.calls {k : Nat} {a4 a6 a5 a1 a2 a3 : Int} {r : List Int} {w : World} (h : rW k a4 a6 a5 a1 a2 a3 = some r) :
  Calls Try.prog 70 #[.agg #[.int .i64 a4, .int .i64 a6, .int .i64 a5, .int .i64 a1, .int .i64 a2, .int .i64 a3]] w fun e w' => ∃ aU : Value, e = .returned (aU) ∧ Kd.R (Kd.int .i64) 3 w' w.heap.size (fun _ => True) aU r ∧ Below w.heap.size w w' := by
 have hu31 := Try.underlying31
 have HB := am (Below.refl w.heap.size w)
 have H := h
 clear h
 unfold rW at H
 have aG := am H; clear H
 go_enter Try.func70, Try.ntmps70
 go_upto_region 1 with (first | ((with_reducible refine qF (N := 1) rfl ?_); refine wT ?hg (N := 1) ?hd (cs := #[.int .i64 a4, .int .i64 a6, .int .i64 a5, .int .i64 a1, .int .i64 a2, .int .i64 a3]) (t := 31) ?hr ?_; (case hd => rfl); (case hg => rfl); (case hr => (go_simp; done)); intro aI hg w3 hbox hb; have aY := am (rA (by exact sW HB.out) hb); have aX := am (hbox); have aW := gw hg; have aV := gw hg; clear HB; have HB := aY; have a0 := aX; have b9 := aW; have bA := aV; clear aY aX aW aV; clear hb hbox hg))
 (try simp only [Act.put, List.setIfInBounds_toArray, List.set_cons_zero, List.set_cons_succ])
 go_cut [3] (fun v3 wc => ∃ (kq : Nat) (a7 : Bool), v3 = .bool a7 ∧ Aside0 (vC kq a7 a4 a6 a5 a1 a2 a3 = some r) ∧ Aside0 (kq ≤ k) ∧ Aside0 (wc.heap[aI]? = some (.cells #[.int .i64 a4, .int .i64 a6, .int .i64 a5, .int .i64 a1, .int .i64 a2, .int .i64 a3] 31 (0, 0))) ∧ Aside0 (Below w.heap.size w wc))
 case first =>
  have H := aG.out
  clear aG
  replace H := iE H; rcases H with ⟨b3, b2, H⟩ | ⟨b3, b2, H⟩
  ·exact b3c
  replace H := iE H; rcases H with ⟨b1, b0, H⟩ | ⟨b1, b0, H⟩
  ·exact b3c
  replace H := iE H; rcases H with ⟨a_, aZ, H⟩ | ⟨a_, aZ, H⟩
  ·exact b3c
  replace H := am H
  have b8 := cf6 a0.out
  go_wp2
  go_meet
  case rel => exact ⟨_, ((a4 == 20)), rfl, H, ⟨oM⟩, ⟨sB <| a0.out⟩, ⟨bW⟩⟩
 clear aG
 obtain ⟨kq, a7, rfl, HA, bM, a0, HB⟩ := hcut
 cases kq with
 | zero => cases HA.out
 | succ bL =>
  obtain ⟨H⟩ := HA
  simp only [vC] at H
  replace H := iB H; rcases H with ⟨rfl, H⟩ | ⟨rfl, H⟩
  ·generalize aF : ([a1] : List Int) = bE at H
   have aO := am aF.symm; clear aF
   obtain rfl := oI H
   have b7 := cf6 a0.out
   go_wp2_with (first | ((with_reducible refine qF (N := 24) rfl ?_); refine Kd.R_lit (Kd.int .i64) _ 3 ?hg (N := 24) ?hd (xs := ([a1] : List Int)) (inner := [.int .i64 a1]) (ok := fun _ => True) (okp := fun _ => True) ?hr ?hp (fun _ hk => hk) trivial (Below.refl _ _) (Nat.le_refl _) (by simp) ?_; (case hd => rfl); (case hg => rfl); (case hr => (go_simp; done)); (case hp => exact (Reps.one (show Kd.M (Kd.int .i64) _ _ _ a1 [.int .i64 a1] from rfl) (Reps.none _ _))); intro bI w13 aB hb hg_ hnew_; clear hg_ hnew_; (rw [← aO.out] at aB); have aT := am (Kd.R_lower aB (kE (by exact bW))); replace a0 := gB a0 hb; replace HB := hX hb; clear hb aB))
   go_ret
   exact ⟨_, rfl, sR <| aT.out, bW⟩
  replace H := oA H; obtain ⟨bJ, aH, H⟩ := H
  replace H := iB H; rcases H with ⟨rfl, H⟩ | ⟨rfl, H⟩
  ·generalize aE : ([a1, a2] : List Int) = bD at H
   have aN := am aE.symm; clear aE
   obtain rfl := oI H
   have b6 := cf6 a0.out
   go_wp2_with (first | ((with_reducible refine gW ?_); first | (refine gD (some 28) Try.func42 rfl (spec_l01In.calls aH.out) fun nd => ?_) | ((with_reducible refine qF (N := 33) rfl ?_); refine Kd.R_lit (Kd.int .i64) _ 3 ?hg (N := 33) ?hd (xs := ([a1, a2] : List Int)) (inner := [.int .i64 a1, .int .i64 a2]) (ok := fun _ => True) (okp := fun _ => True) ?hr ?hp (fun _ hk => hk) trivial (Below.refl _ _) (Nat.le_refl _) (by simp) ?_; (case hd => rfl); (case hg => rfl); (case hr => (go_simp; done)); (case hp => exact (Reps.one (show Kd.M (Kd.int .i64) _ _ _ a1 [.int .i64 a1] from rfl) (Reps.one (show Kd.M (Kd.int .i64) _ _ _ a2 [.int .i64 a2] from rfl) (Reps.none _ _)))); intro bH w18 aA hb hg_ hnew_; clear hg_ hnew_; (rw [← aN.out] at aA); have aS := am (Kd.R_lower aA (kE (by exact bW))); replace a0 := gB a0 hb; replace HB := hX hb; clear hb aA)))
   go_ret
   exact ⟨_, rfl, sR <| aS.out, bW⟩
  replace H := iE H; rcases H with ⟨aK, aJ, H⟩ | ⟨aK, aJ, H⟩
  ·generalize aD : ([a1, a2, a3] : List Int) = bC at H
   have aM := am aD.symm; clear aD
   obtain rfl := oI H
   have b5 := cf6 a0.out
   go_wp2_with (first | ((with_reducible refine gW ?_); first | (refine gD (some 28) Try.func42 rfl (spec_l01In.calls aH.out) fun nd => ?_) | ((with_reducible refine qF (N := 44) rfl ?_); refine Kd.R_lit (Kd.int .i64) _ 3 ?hg (N := 44) ?hd (xs := ([a1, a2, a3] : List Int)) (inner := [.int .i64 a1, .int .i64 a2, .int .i64 a3]) (ok := fun _ => True) (okp := fun _ => True) ?hr ?hp (fun _ hk => hk) trivial (Below.refl _ _) (Nat.le_refl _) (by simp) ?_; (case hd => rfl); (case hg => rfl); (case hr => (go_simp; done)); (case hp => exact (Reps.one (show Kd.M (Kd.int .i64) _ _ _ a1 [.int .i64 a1] from rfl) (Reps.one (show Kd.M (Kd.int .i64) _ _ _ a2 [.int .i64 a2] from rfl) (Reps.one (show Kd.M (Kd.int .i64) _ _ _ a3 [.int .i64 a3] from rfl) (Reps.none _ _))))); intro bG w22 a9 hb hg_ hnew_; clear hg_ hnew_; (rw [← aM.out] at a9); have aR := am (Kd.R_lower a9 (kE (by exact bW))); replace a0 := gB a0 hb; replace HB := hX hb; clear hb a9)))
   go_ret
   exact ⟨_, rfl, sR <| aR.out, bW⟩
  generalize aC : ([] : List Int) = bB at H
  have aL := am aC.symm; clear aC
  obtain rfl := oI H
  have b4 := cf6 a0.out
  go_wp2_with (first | ((with_reducible refine gW ?_); first | (refine gD (some 28) Try.func42 rfl (spec_l01In.calls aH.out) fun nd => ?_) | (refine lE (Kd.int .i64) 3 45 ?_; intro bF w25 a8 hb; (rw [← aL.out] at a8); have aQ := am (Kd.R_lower a8 (kE (by exact bW))); replace a0 := gB a0 hb; replace HB := hX hb; clear hb a8)))
  go_ret
  exact ⟨_, rfl, sR <| aQ.out, bW⟩
def vS : Nat → Int → Int → Int → Option (Int)
 | 0, _, _, _ => none
 | k + 1, x0, x3, x4 => if x4 < x0 then (vS k x0 (wrap64 (2 * x3)) (wrap64 (x4 + 1))) else (some x3)
def kZ (k : Nat) (a0 : Int) : Option (Int) := vS k a0 1 0
theorem spec_l01Pow2.calls {k : Nat} {a0 r : Int} {w : World} (h : kZ k a0 = some r) :
  Calls Try.prog 81 #[.int .i64 a0] w fun e w' => e = .returned (.int .i64 r) ∧ Drawn0 w w' := by
 have H := h
 clear h
 unfold kZ at H
 replace H := am H
 go_enter Try.func81, Try.ntmps81
 go_wp2
 go_loopg [3, 4] k (fun kq v3 v4 w' => ∃ (a2 : Int) (a1 : Int), v3 = .int .i64 a2 ∧ v4 = .int .i64 a1 ∧ Aside0 (vS kq a0 a2 a1 = some r) ∧ Aside0 (kq ≤ k) ∧ Drawn0 w w')
 case atStart => exact ⟨1, 0, rfl, rfl, H, ⟨Nat.le_refl _⟩, dR⟩
 clear H
 obtain ⟨a2, a1, rfl, rfl, HA, a3, ⟨m1, rfl⟩⟩ := hrel
 cases gk with
 | zero => cases HA.out
 | succ k1 =>
  obtain ⟨H⟩ := HA
  simp only [vS] at H
  replace H := iD H; rcases H with ⟨a4, H⟩ | ⟨a4, H⟩
  ·replace H := am H
   go_wp2
   go_roundg k1
   case measure => have := a3.out; omega
   case rel => exact ⟨(wrap64 (2 * a2)), (wrap64 (a1 + 1)), rfl, rfl, H, ⟨by have := a3.out; omega⟩, dR⟩
  obtain rfl := oI H
  go_wp2
  go_ret
  exact ⟨rfl, dR⟩
def rF (k : Nat) (a0 : Int) (a1 : Int) : Option (Bool) := (pJ a0 1 8).bind fun a4 => (if a4 = true then ((kZ k a0).bind fun a3 => ((pJ a1 0 (wrap64 (a3 - 1))).bind fun a2 => (some a2))) else (some false))
theorem spec_WordOk.calls {k : Nat} {a0 a1 : Int} {r : Bool} {w : World} (h : rF k a0 a1 = some r) :
  Calls Try.prog 71 #[.int .i64 a0, .int .i64 a1] w fun e w' => e = .returned (.bool r) ∧ Drawn0 w w' := by
 have H := h
 clear h
 unfold rF at H
 replace H := oA H; obtain ⟨a4, A3, H⟩ := H
 replace H := iB H; rcases H with ⟨rfl, H⟩ | ⟨rfl, H⟩
 ·replace H := oA H; obtain ⟨a3, A5, H⟩ := H
  replace H := oA H; obtain ⟨a2, A6, H⟩ := H
  obtain rfl := oI H
  go_enter Try.func71, Try.ntmps71
  go_wp2_with (first | (go_at_call 81; refine cD (spec_l01Pow2.calls A5.out) fun nd => ?_) | (go_at_call 42; refine cD (spec_l01In.calls A6.out) fun nd => ?_) | ((with_reducible refine gW ?_); first | (refine gD (some 6) Try.func42 rfl (spec_l01In.calls A3.out) fun nd => ?_)))
  go_ret
  exact ⟨rfl, dR⟩
 obtain rfl := oI H
 go_enter Try.func71, Try.ntmps71
 go_wp2_with (first | ((with_reducible refine gW ?_); first | (refine gD (some 6) Try.func42 rfl (spec_l01In.calls A3.out) fun nd => ?_)))
 go_ret
 exact ⟨rfl, dR⟩
end Go.Proofs.Ytkpipmojkhikaaa.PAll
