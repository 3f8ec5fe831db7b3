/- Written by a program of this session over the loaded program, and by hand: Go functions as plain Lean functions, and that a call comes to what they say. -/
import Derived.Test.YtjjjbifbibabgaaVFree0
import Derived.Test.YtjjjbifbibabgaaVFree1
import Derived.Test.YtjjjbifbibabgaaVFree5
import Derived.Test.YtjjjbifbibabgaaBase
import Derived.Test.YtjjjbifbibabgaaSq
namespace Go.Proofs.Ytjjjbifbibabgaa.PAll
open Go.RowKit Go.Proofs.YtjjjbifbibabgaaW.PrintWords Go.Proofs.YtjjjbifbibabgaaW.PrintLast Go.Proofs.YtjjjbifbibabgaaW.PrintMore Go.Proofs.YtjjjbifbibabgaaW.Sq
attribute [local go_sem] max2_int min2_int max_two min_two max_three min_three max_four min_four   -- for this text's walks alone
set_option linter.unusedVariables false
set_option linter.unusedSimpArgs false

theorem sK {w W W' : World} {S : Nat → Prop} (k : Kept w W S) (h : Kept w W' S := by repeat (first | (with_reducible first | exact HK.out | apply Kept.alloc | apply Kept.drewN | apply Kept.drew | refine Kept.setCell ?_ (.inl (.inr rfl)) _ | refine Kept.setCell ?_ (.inr (Aside0.out (by assumption))) _) | exact HK.out)) : Kept w W' S := h
/-! ### spec_l02Made: function 56 -/
mutual
def spec_l02Made.j0 : Nat → List (S39) → List (S39) → Int → Int → Int → Bool → List Int → Int → Int → Option ((List (S39)) × Int × Int × Int × Int × Int)
 | 0, _, _, _, _, _, _, _, _, _ => none
 | k + 1, x1, x2, x3, x4, x5, x53, x1000, x1001, x1002 => if x53 = true then ((spec_l01Below.f x1000 x1001 x1002 3).bind fun bt276 => (if (wrap64 (1 + bt276.1)) > x4 then ((spec_l01Below.f x1000 bt276.2.1 bt276.2.2 2).bind fun bt280 => ((some (([] : List (S39)) : List (S39))).bind fun y283 => (if y283.length + x2.length < 2932031007402 then ((some (y283 ++ x2 : List (S39))).bind fun y286 => ((some (([(⟨1, x4, x3, 0, 0, 0⟩ : S39)] : List (S39)) : List (S39))).bind fun y289 => (if y286.length + y289.length < 2932031007402 then ((spec_l02Made.f k x1000 bt280.2.1 bt280.2.2 x1 (y286 ++ y289) (wrap64 (x3 + 1)) (wrap64 (x4 - x4)) (wrap64 (x5 - 1))).bind fun bt295 => ((spec_l02Push.f bt295.1 (wrap64 (19 + bt280.1)) 1 x3 bt295.2.1 x4 0).bind fun bt303 => (some (bt303.1, bt303.2, bt295.2.2.1, bt295.2.2.2.1, bt295.2.2.2.2.1, bt295.2.2.2.2.2)))) else (none)))) else (none)))) else ((spec_l01Below.f x1000 bt276.2.1 bt276.2.2 2).bind fun bt308 => ((some (([] : List (S39)) : List (S39))).bind fun y311 => (if y311.length + x2.length < 2932031007402 then ((some (y311 ++ x2 : List (S39))).bind fun y314 => ((some (([(⟨1, wrap64 (1 + bt276.1), x3, 0, 0, 0⟩ : S39)] : List (S39)) : List (S39))).bind fun y317 => (if y314.length + y317.length < 2932031007402 then ((spec_l02Made.f k x1000 bt308.2.1 bt308.2.2 x1 (y314 ++ y317) (wrap64 (x3 + 1)) (wrap64 (x4 - (wrap64 (1 + bt276.1)))) (wrap64 (x5 - 1))).bind fun bt323 => ((spec_l02Push.f bt323.1 (wrap64 (19 + bt308.1)) 1 x3 bt323.2.1 (wrap64 (1 + bt276.1)) 0).bind fun bt331 => (some (bt331.1, bt331.2, bt323.2.2.1, bt323.2.2.2.1, bt323.2.2.2.2.1, bt323.2.2.2.2.2)))) else (none)))) else (none)))))) else ((spec_l01Below.f x1000 x1001 x1002 5).bind fun bt335 => (if bt335.1 = 0 then (if x5 > 0 then ((spec_l02Made.f k x1000 bt335.2.1 bt335.2.2 x1 x2 x3 x4 (wrap64 (x5 - 1))).bind fun bt338 => ((spec_l02Push.f bt338.1 2 1 0 bt338.2.1 0 0).bind fun bt346 => (some (bt346.1, bt346.2, bt338.2.2.1, bt338.2.2.2.1, bt338.2.2.2.2.1, bt338.2.2.2.2.2)))) else ((spec_l02Deep.f k x1000 bt335.2.1 bt335.2.2 x1 x2 1 3).bind fun bt350 => (some (bt350.1, bt350.2.1, x3, x4, bt350.2.2.1, bt350.2.2.2)))) else (if bt335.1 = 1 then (spec_l02Made.j1 k x1 x2 x3 x4 x5 (bt335.1 == 1) x1000 bt335.2.1 bt335.2.2) else (spec_l02Made.j1 k x1 x2 x3 x4 x5 (bt335.1 == 2) x1000 bt335.2.1 bt335.2.2))))
def spec_l02Made.j1 : Nat → List (S39) → List (S39) → Int → Int → Int → Bool → List Int → Int → Int → Option ((List (S39)) × Int × Int × Int × Int × Int)
 | 0, _, _, _, _, _, _, _, _, _ => none
 | k + 1, x1, x2, x3, x4, x5, x134, x1000, x1001, x1002 => if x134 = true then (if x5 > 0 then ((spec_l02Made.f k x1000 x1001 x1002 x1 x2 x3 x4 (wrap64 (x5 - 1))).bind fun bt356 => ((spec_l02Made.f k x1000 bt356.2.2.2.2.1 bt356.2.2.2.2.2 bt356.1 x2 bt356.2.2.1 bt356.2.2.2.1 (wrap64 (x5 - 1))).bind fun bt364 => ((spec_l01Below.f x1000 bt364.2.2.2.2.1 bt364.2.2.2.2.2 2).bind fun bt372 => ((spec_l02Push.f bt364.1 (wrap64 (3 + bt372.1)) 1 0 bt356.2.1 bt364.2.1 0).bind fun bt375 => (some (bt375.1, bt375.2, bt364.2.2.1, bt364.2.2.2.1, bt372.2.1, bt372.2.2)))))) else ((spec_l02Deep.f k x1000 x1001 x1002 x1 x2 1 3).bind fun bt379 => (some (bt379.1, bt379.2.1, x3, x4, bt379.2.2.1, bt379.2.2.2)))) else ((spec_l02Deep.f k x1000 x1001 x1002 x1 x2 1 3).bind fun bt385 => (some (bt385.1, bt385.2.1, x3, x4, bt385.2.2.1, bt385.2.2.2)))
def spec_l02Made.f : Nat → List Int → Int → Int → List (S39) → List (S39) → Int → Int → Int → Option ((List (S39)) × Int × Int × Int × Int × Int)
 | 0, _, _, _, _, _, _, _, _ => none
 | k + 1, s0_0, s0_1, s0_2, l1, l2, a3, a4, a5 => if a5 > 0 then (if a3 < 8 then (if a4 > 0 then ((spec_l01Once.f s0_0 s0_1 s0_2 5).bind fun bt273 => (spec_l02Made.j0 k l1 l2 a3 a4 a5 (!bt273.1) s0_0 bt273.2.1 bt273.2.2)) else (spec_l02Made.j0 k l1 l2 a3 a4 a5 false s0_0 s0_1 s0_2)) else (spec_l02Made.j0 k l1 l2 a3 a4 a5 false s0_0 s0_1 s0_2)) else (spec_l02Made.j0 k l1 l2 a3 a4 a5 false s0_0 s0_1 s0_2)
end
set_option maxHeartbeats 8000000 in
set_option maxRecDepth 100000 in
theorem spec_l02Made.calls (k : Nat) : ∀ (g : Nat) (s0_0 : List Int) (s0_1 : Int) (s0_2 : Int) (P1_ : Nat → Prop) (u9000_ : Value) (l1 : List (S39)) (A2 : Option Addr) (c2 : Nat) (l2 : List (S39)) (a3 : Int) (a4 : Int) (a5 : Int) (r1 : List (S39)) (r2 : Int) (r3 : Int) (r4 : Int) (r5 : Int) (r6 : Int) (w0 w : World) (hI : IsS58 w0 w g s0_0 s0_1 s0_2) (hB : Below w0.heap.size w0 w) (ho1 : Kd.R k39 39 w w0.heap.size P1_ u9000_ l1) (hr2 : ∀ W_, Kept w W_ (fun k_ => (P1_ k_) ∨ k_ = g) → Kd.C k39 W_ A2 l2.length l2) (hc2 : l2.length ≤ c2) (h : spec_l02Made.f k s0_0 s0_1 s0_2 l1 l2 a3 a4 a5 = some (r1, r2, r3, r4, r5, r6)),
  Calls Try.prog 56 #[.pointer (some ⟨g, 0, none⟩), u9000_, .slice A2 l2.length c2, .int .i64 a3, .int .i64 a4, .int .i64 a5] w fun e w' => ∃ v0_ : Value, e = .returned (.tuple #[v0_, .int .i64 r2, .int .i64 r3, .int .i64 r4]) ∧ Kd.R k39 39 w' w0.heap.size (fun k_ => (P1_ k_ ∨ w.heap.size ≤ k_)) v0_ r1 ∧ IsS58 w0 w' g s0_0 r5 r6 ∧ Below w0.heap.size w0 w' ∧ Kept w w' (fun k_ => (P1_ k_) ∨ k_ = g) := by
 induction k using Nat.strongRecOn with
 | _ k ih =>
 intro g s0_0 s0_1 s0_2 P1_ u9000_ l1 A2 c2 l2 a3 a4 a5 r1 r2 r3 r4 r5 r6 w0 w hI hB ho1 hr2 hc2 h
 cases k with
 | zero => exact absurd h (by simp [spec_l02Made.f])
 | succ k =>
 simp only [spec_l02Made.f] at h
 have hu39 := Try.underlying39
 have HO1 := am (show Kd.R k39 39 w w0.heap.size (fun k_ => (P1_ k_ ∨ w.heap.size ≤ k_)) u9000_ l1 from Kd.R_mono ho1 (fun k_ hk => (.inl hk)))
 have HR2 := am hr2
 have HC2 := am hc2
 clear hr2 hc2
 have HI0 := am hI
 have HL := am hB.size
 clear hI
 have HK := am (Kept.refl w (fun k_ => (P1_ k_) ∨ k_ = g))
 have HW0 := am hB.size
 have HB := am hB
 clear hB
 have H : (if a5 > 0 then (if a3 < 8 then (if a4 > 0 then ((spec_l01Once.f s0_0 s0_1 s0_2 5).bind fun bt273 => (spec_l02Made.j0 k l1 l2 a3 a4 a5 (!bt273.1) s0_0 bt273.2.1 bt273.2.2)) else (spec_l02Made.j0 k l1 l2 a3 a4 a5 false s0_0 s0_1 s0_2)) else (spec_l02Made.j0 k l1 l2 a3 a4 a5 false s0_0 s0_1 s0_2)) else (spec_l02Made.j0 k l1 l2 a3 a4 a5 false s0_0 s0_1 s0_2)) = some (r1, r2, r3, r4, r5, r6) := h
 clear h
 have HC7 := am H
 clear H
 go_enter Try.func56, Try.ntmps56
 go_upto_region 1 with (fail)
 go_cut [53] (fun v53 wc => ∃ (kq : Nat) (x53_6 : Bool) (x1001_6 : Int) (x1002_6 : Int), v53 = .bool x53_6 ∧ Aside0 (spec_l02Made.j0 kq l1 l2 a3 a4 a5 x53_6 s0_0 x1001_6 x1002_6 = some (r1, r2, r3, r4, r5, r6)) ∧ Aside0 (kq ≤ k) ∧ Aside0 (Kd.R k39 39 wc w0.heap.size (fun k_ => (P1_ k_ ∨ w.heap.size ≤ k_)) u9000_ l1) ∧ Aside0 (IsS58 w0 wc g s0_0 x1001_6 x1002_6) ∧ Aside0 (Kept w wc (fun k_ => (P1_ k_) ∨ k_ = g)) ∧ Aside0 (Below w0.heap.size w0 wc))
 case first =>
  have H := HC7.out
  clear HC7
  by_cases c8 : a5 > 0
  ·rw [if_pos c8] at H
   have c8b0 : decide (0 < a5) = true := decide_eq_true c8
   clear c8
   (skip)
   by_cases c9 : a3 < 8
   ·rw [if_pos c9] at H
    have c9b0 : decide (a3 < 8) = true := decide_eq_true c9
    clear c9
    by_cases c10 : a4 > 0
    ·rw [if_pos c10] at H
     have c10b0 : decide (0 < a4) = true := decide_eq_true c10
     clear c10
     replace H := oB H
     obtain ⟨⟨t273, t274, t275⟩, A110, H⟩ := H
     try dsimp only at H
     have A11 := am A110
     clear A110
     have H' := am H
     clear H
     go_wp2_with (first | (go_at_call 42; (with_reducible refine (spec_l01Once.calls g s0_0 s0_1 s0_2 5 t273 t274 t275 w0 _ ?side1 ?side2 A11.out).mono ?_); (case side1 => exact sIsS58); (case side2 => exact bIsS58); rintro e w12 ⟨rfl, hi, hb, hk⟩; have n0_ := am (Kd.R_mono (Kd.R_keep (IsS58.apart (show IsS58 w0 _ g s0_0 s0_1 s0_2 from by exact sIsS58) (by exact sR <| HO1.out) (by decide)) hk (fun _ h => h.2)) (fun _ h => h.1)); have n1_ := am (Kept.of_keep (S := (fun k_ => (P1_ k_) ∨ k_ = g)) (by exact sK HK.out) hk (.inl (.inr rfl))); have n2_ := am (hb); have n3_ := am (hi); clear HO1; clear HK; clear HB; clear HI0; have HO1 := n0_; have HK := n1_; have HB := n2_; have HI0 := n3_; clear n0_ n1_ n2_ n3_; (try clear hb); (try clear hb2); (try clear hk); (try clear hi)))
     go_meet
     case rel => exact ⟨_, (!t273), (t274), (t275), (by rfl), H', ⟨by omega⟩, ⟨by exact sR <| HO1.out⟩, ⟨by exact sIsS58⟩, ⟨by exact sK HK.out⟩, ⟨by exact bIsS58⟩⟩
    ·rw [if_neg c10] at H
     have c10b0 : decide (0 < a4) = false := decide_eq_false c10
     clear c10
     have H' := am H
     clear H
     go_wp2
     go_meet
     case rel => exact ⟨_, (false), (s0_1), (s0_2), (by rfl), H', ⟨by omega⟩, ⟨by exact sR <| HO1.out⟩, ⟨by exact sIsS58⟩, ⟨by exact sK HK.out⟩, ⟨by exact bIsS58⟩⟩
   ·rw [if_neg c9] at H
    have c9b0 : decide (a3 < 8) = false := decide_eq_false c9
    clear c9
    have H' := am H
    clear H
    go_wp2
    go_meet
    case rel => exact ⟨_, (false), (s0_1), (s0_2), (by rfl), H', ⟨by omega⟩, ⟨by exact sR <| HO1.out⟩, ⟨by exact sIsS58⟩, ⟨by exact sK HK.out⟩, ⟨by exact bIsS58⟩⟩
  ·rw [if_neg c8] at H
   have c8b0 : decide (0 < a5) = false := decide_eq_false c8
   clear c8
   (skip)
   have H' := am H
   clear H
   go_wp2
   go_meet
   case rel => exact ⟨_, (false), (s0_1), (s0_2), (by rfl), H', ⟨by omega⟩, ⟨by exact sR <| HO1.out⟩, ⟨by exact sIsS58⟩, ⟨by exact sK HK.out⟩, ⟨by exact bIsS58⟩⟩
 case rest =>
  clear HC7
  obtain ⟨kq, x53_6, x1001_6, x1002_6, rfl, HA, HJ6, HO_1, HI0, HK, HB⟩ := hcut
  cases kq with
  | zero => exact absurd HA.out (by simp [spec_l02Made.j0])
  | succ kj6 =>
   have H := HA.out
   clear HA
   simp only [spec_l02Made.j0] at H
   by_cases c13 : x53_6 = true
   ·subst c13
    rw [if_pos rfl] at H
    replace H := oB H
    obtain ⟨⟨t276, t277, t278⟩, A140, H⟩ := H
    try dsimp only at H
    have A14 := am A140
    clear A140
    by_cases c15 : (wrap64 (1 + t276)) > a4
    ·rw [if_pos c15] at H
     have c15b0 : decide (a4 < (wrap64 (1 + t276))) = true := decide_eq_true c15
     clear c15
     replace H := oB H
     obtain ⟨⟨t280, t281, t282⟩, A160, H⟩ := H
     try dsimp only at H
     have A16 := am A160
     clear A160
     obtain ⟨y283, hy283⟩ : ∃ y_ : List (S39), y_ = (([] : List (S39))) := ⟨_, rfl⟩
     replace H : (if y283.length + l2.length < 2932031007402 then ((some (y283 ++ l2 : List (S39))).bind fun y286 => ((some (([(⟨1, a4, a3, 0, 0, 0⟩ : S39)] : List (S39)) : List (S39))).bind fun y289 => (if y286.length + y289.length < 2932031007402 then ((spec_l02Made.f kj6 s0_0 t281 t282 l1 (y286 ++ y289) (wrap64 (a3 + 1)) (wrap64 (a4 - a4)) (wrap64 (a5 - 1))).bind fun bt295 => ((spec_l02Push.f bt295.1 (wrap64 (19 + t280)) 1 a3 bt295.2.1 a4 0).bind fun bt303 => (some (bt303.1, bt303.2, bt295.2.2.1, bt295.2.2.2.1, bt295.2.2.2.2.1, bt295.2.2.2.2.2)))) else (none)))) else (none)) = some (r1, r2, r3, r4, r5, r6) := by (have H2_ := (Option.bind_some _ _).symm.trans H; rw [hy283]; with_reducible exact H2_)
     have Ny283 := am hy283
     clear hy283
     by_cases c17 : y283.length + l2.length < 2932031007402
     ·rw [if_pos c17] at H
      have LMc17 := am c17
      clear c17
      obtain ⟨y286, hy286⟩ : ∃ y_ : List (S39), y_ = (y283 ++ l2) := ⟨_, rfl⟩
      replace H : ((some (([(⟨1, a4, a3, 0, 0, 0⟩ : S39)] : List (S39)) : List (S39))).bind fun y289 => (if y286.length + y289.length < 2932031007402 then ((spec_l02Made.f kj6 s0_0 t281 t282 l1 (y286 ++ y289) (wrap64 (a3 + 1)) (wrap64 (a4 - a4)) (wrap64 (a5 - 1))).bind fun bt295 => ((spec_l02Push.f bt295.1 (wrap64 (19 + t280)) 1 a3 bt295.2.1 a4 0).bind fun bt303 => (some (bt303.1, bt303.2, bt295.2.2.1, bt295.2.2.2.1, bt295.2.2.2.2.1, bt295.2.2.2.2.2)))) else (none))) = some (r1, r2, r3, r4, r5, r6) := by (have H2_ := (Option.bind_some _ _).symm.trans H; rw [hy286]; with_reducible exact H2_)
      have Ny286 := am hy286
      clear hy286
      obtain ⟨y289, hy289⟩ : ∃ y_ : List (S39), y_ = (([(⟨1, a4, a3, 0, 0, 0⟩ : S39)] : List (S39))) := ⟨_, rfl⟩
      replace H : (if y286.length + y289.length < 2932031007402 then ((spec_l02Made.f kj6 s0_0 t281 t282 l1 (y286 ++ y289) (wrap64 (a3 + 1)) (wrap64 (a4 - a4)) (wrap64 (a5 - 1))).bind fun bt295 => ((spec_l02Push.f bt295.1 (wrap64 (19 + t280)) 1 a3 bt295.2.1 a4 0).bind fun bt303 => (some (bt303.1, bt303.2, bt295.2.2.1, bt295.2.2.2.1, bt295.2.2.2.2.1, bt295.2.2.2.2.2)))) else (none)) = some (r1, r2, r3, r4, r5, r6) := by (have H2_ := (Option.bind_some _ _).symm.trans H; rw [hy289]; with_reducible exact H2_)
      have Ny289 := am hy289
      clear hy289
      by_cases c18 : y286.length + y289.length < 2932031007402
      ·rw [if_pos c18] at H
       have LMc18 := am c18
       clear c18
       obtain ⟨y292, hy292⟩ : ∃ y_ : List (S39), y_ = (y286 ++ y289) := ⟨_, rfl⟩
       replace H : ((spec_l02Made.f kj6 s0_0 t281 t282 l1 y292 (wrap64 (a3 + 1)) (wrap64 (a4 - a4)) (wrap64 (a5 - 1))).bind fun bt295 => ((spec_l02Push.f bt295.1 (wrap64 (19 + t280)) 1 a3 bt295.2.1 a4 0).bind fun bt303 => (some (bt303.1, bt303.2, bt295.2.2.1, bt295.2.2.2.1, bt295.2.2.2.2.1, bt295.2.2.2.2.2)))) = some (r1, r2, r3, r4, r5, r6) := by (rw [hy292]; with_reducible exact H)
       have Ny292 := am hy292
       clear hy292
       replace H := oB H
       obtain ⟨⟨t295, t298, t299, t300, t301, t302⟩, A190, H⟩ := H
       try dsimp only at H
       have A19 := am A190
       clear A190
       replace H := oB H
       obtain ⟨⟨t303, t306⟩, A200, H⟩ := H
       try dsimp only at H
       have A20 := am A200
       clear A200
       simp only [Option.some.injEq, Prod.mk.injEq] at H
       obtain ⟨rfl, rfl, rfl, rfl, rfl, rfl⟩ := H
       try go_wp2_with (first | ((with_reducible refine gate_callee (f := 43) rfl ?_); refine goesL_ (some 55) rfl rfl Try.func43 (by kernel_rfl) rfl #[.pointer (some ⟨g, 0, none⟩), .int .i64 3] rfl tm ?_; (with_reducible refine (spec_l01Below.calls g s0_0 x1001_6 x1002_6 3 t276 t277 t278 w0 _ ?side1 ?side2 A14.out).mono ?_); (case side1 => exact sIsS58); (case side2 => exact bIsS58); rintro e w21 ⟨rfl, hi, hb, hk⟩; refine ⟨_, rfl, ?_⟩; have n0_ := am (Kd.R_mono (Kd.R_keep (IsS58.apart (show IsS58 w0 _ g s0_0 x1001_6 x1002_6 from by exact sIsS58) (by exact sR <| HO_1.out) (by decide)) hk (fun _ h => h.2)) (fun _ h => h.1)); have n1_ := am (Kept.of_keep (S := (fun k_ => (P1_ k_) ∨ k_ = g)) (by exact sK HK.out) hk (.inl (.inr rfl))); have n2_ := am (hb); have n3_ := am (hi); clear HO_1; clear HK; clear HB; clear HI0; have HO_1 := n0_; have HK := n1_; have HB := n2_; have HI0 := n3_; clear n0_ n1_ n2_ n3_; (try clear hb); (try clear hb2); (try clear hk); (try clear hi)) | ((with_reducible refine gate_dst (N := 17) rfl ?_); refine box_event ?hg (N := 17) ?hd (cs := #[.int .i64 0, .int .i64 0, .int .i64 0, .int .i64 0, .int .i64 0, .int .i64 0]) (t := 39) ?hr ?_; (case hd => rfl); (case hg => rfl); (case hr => (go_simp; done)); intro gb279 hg w22 hbox hb; have n0_ := am (Kd.R_below (Kd.R_elderB (by exact sR <| HO_1.out) gb279 (Nat.le_of_eq hg.symm)) hb); have n1_ := am (IsS58.below (by exact sIsS58) hb); have n2_ := am (Kept.below (S := (fun k_ => (P1_ k_) ∨ k_ = g)) (by exact sK HK.out) hb); have n3_ := am (below_step (by exact bIsS58) hb); have n4_ := am (hbox); have n5_ := am ((by rw [hg]; exact (by exact HK.out.1) : w.heap.size ≤ gb279)); have n6_ := am ((by rw [hg]; exact (below_size (by exact bIsS58)) : w0.heap.size ≤ gb279)); have n7_ := am ((by rw [hg]; exact Nat.ne_of_lt (IsS58.lt (show IsS58 w0 _ g s0_0 t277 t278 from by exact sIsS58)) : g ≠ gb279)); have n8_ := am ((by rw [hg]; exact Nat.ne_of_gt (IsS58.lt (show IsS58 w0 _ g s0_0 t277 t278 from by exact sIsS58)) : gb279 ≠ g)); clear HO_1; clear HI0; clear HK; clear HB; have HO_1 := n0_; have HI0 := n1_; have HK := n2_; have HB := n3_; have BK279 := n4_; have GW279 := n5_; have GE279 := n6_; have NB0_279 := n7_; have NB279_0 := n8_; clear n0_ n1_ n2_ n3_ n4_ n5_ n6_ n7_ n8_; clear hb hbox hg; have hnb23 := NB279_0.out; have hnc23 := NB0_279.out; obtain ⟨hcz24_0, hcz24_1, hcz24_2, hcz24_3, hcz24_4, hcz24_5⟩ := cz6 BK279.out; obtain ⟨hfz24_0, hfz24_1, hfz24_2, hfz24_3, hfz24_4, hfz24_5⟩ := fz6 BK279.out) | ((with_reducible refine gate_callee (f := 43) rfl ?_); refine goesL_ (some 65) rfl rfl Try.func43 (by kernel_rfl) rfl #[.pointer (some ⟨g, 0, none⟩), .int .i64 2] rfl tm ?_; (with_reducible refine (spec_l01Below.calls g s0_0 t277 t278 2 t280 t281 t282 w0 _ ?side1 ?side2 A16.out).mono ?_); (case side1 => exact sIsS58); (case side2 => exact bIsS58); rintro e w25 ⟨rfl, hi, hb, hk⟩; refine ⟨_, rfl, ?_⟩; have n0_ := am (Kd.R_mono (Kd.R_keep (IsS58.apart (show IsS58 w0 _ g s0_0 t277 t278 from by exact sIsS58) (by exact sR <| (Kd.R_mono (Kd.R_far (p := ⟨gb279, 5, none⟩) (Kd.R_far (p := ⟨gb279, 4, none⟩) (Kd.R_far (p := ⟨gb279, 3, none⟩) (Kd.R_far (p := ⟨gb279, 2, none⟩) (Kd.R_far (p := ⟨gb279, 1, none⟩) (Kd.R_far (p := ⟨gb279, 0, none⟩) (Kd.R_mono HO_1.out (fun k_ hk => (⟨hk, hk.2⟩ : _ ∧ k_ ≠ gb279))) (fun _ hk => hk.2) (.int .i64 1)) (fun _ hk => hk.2) (.int .i64 a4)) (fun _ hk => hk.2) (.int .i64 a3)) (fun _ hk => hk.2) (.int .i64 0)) (fun _ hk => hk.2) (.int .i64 0)) (fun _ hk => hk.2) (.int .i64 0)) (fun _ h_ => h_.1))) (by decide)) hk (fun _ h => h.2)) (fun _ h => h.1)); have n1_ := am (KeepBut.blk hk (g' := gb279) (o := .cells #[.int .i64 1, .int .i64 a4, .int .i64 a3, .int .i64 0, .int .i64 0, .int .i64 0] 39 (0, 0)) (by (with_reducible repeat (first | refine blk_drewN ?_ _ | refine blk_drew ?_ | refine blk_alloc ?_ _)); refine blk_put (cs := #[.int .i64 1, .int .i64 a4, .int .i64 a3, .int .i64 0, .int .i64 0, .int .i64 0]) ?_ 5 _ rfl; (with_reducible repeat (first | refine blk_drewN ?_ _ | refine blk_drew ?_ | refine blk_alloc ?_ _)); refine blk_put (cs := #[.int .i64 1, .int .i64 a4, .int .i64 a3, .int .i64 0, .int .i64 0, .int .i64 0]) ?_ 4 _ rfl; (with_reducible repeat (first | refine blk_drewN ?_ _ | refine blk_drew ?_ | refine blk_alloc ?_ _)); refine blk_put (cs := #[.int .i64 1, .int .i64 a4, .int .i64 a3, .int .i64 0, .int .i64 0, .int .i64 0]) ?_ 3 _ rfl; (with_reducible repeat (first | refine blk_drewN ?_ _ | refine blk_drew ?_ | refine blk_alloc ?_ _)); refine blk_put (cs := #[.int .i64 1, .int .i64 a4, .int .i64 0, .int .i64 0, .int .i64 0, .int .i64 0]) ?_ 2 _ rfl; (with_reducible repeat (first | refine blk_drewN ?_ _ | refine blk_drew ?_ | refine blk_alloc ?_ _)); refine blk_put (cs := #[.int .i64 1, .int .i64 0, .int .i64 0, .int .i64 0, .int .i64 0, .int .i64 0]) ?_ 1 _ rfl; (with_reducible repeat (first | refine blk_drewN ?_ _ | refine blk_drew ?_ | refine blk_alloc ?_ _)); refine blk_put (cs := #[.int .i64 0, .int .i64 0, .int .i64 0, .int .i64 0, .int .i64 0, .int .i64 0]) ?_ 0 _ rfl; exact sB <| BK279.out) NB279_0.out (by simp)); have n2_ := am (Kept.of_keep (S := (fun k_ => (P1_ k_) ∨ k_ = g)) (by exact sK HK.out) hk (.inl (.inr rfl))); have n3_ := am (hb); have n4_ := am (hi); clear HO_1; clear BK279; clear HK; clear HB; clear HI0; have HO_1 := n0_; have BK279 := n1_; have HK := n2_; have HB := n3_; have HI0 := n4_; clear n0_ n1_ n2_ n3_ n4_; (try clear hb); (try clear hb2); (try clear hk); (try clear hi)))
       have n0_ := am (Kd.R_drew HO_1.out)
       have n1_ := am (blk_drew BK279.out)
       have n2_ := am (IsS58.drew HI0.out)
       have n3_ := am (Kept.drew HK.out)
       have n4_ := am (below_drew1 HB.out)
       clear HO_1
       clear BK279
       clear HI0
       clear HK
       clear HB
       have HO_1 := n0_
       have BK279 := n1_
       have HI0 := n2_
       have HK := n3_
       have HB := n4_
       clear n0_ n1_ n2_ n3_ n4_
       refine start_ (n := 7) (S := fun w' => w'.cell? ⟨gb279, 0, none⟩ = some (.int .i64 1) ∧ w'.cell? ⟨gb279, 1, none⟩ = some (.int .i64 a4) ∧ w'.cell? ⟨gb279, 2, none⟩ = some (.int .i64 a3) ∧ w'.cell? ⟨gb279, 3, none⟩ = some (.int .i64 0) ∧ w'.cell? ⟨gb279, 4, none⟩ = some (.int .i64 0) ∧ w'.cell? ⟨gb279, 5, none⟩ = some (.int .i64 0)) (ds := []) #[false, false, false, false, false, false, false] (by kernel_rfl) rfl rfl ⟨(blk_cell BK279.out 0).trans rfl, (blk_cell BK279.out 1).trans rfl, (blk_cell BK279.out 2).trans rfl, (blk_cell BK279.out 3).trans rfl, (blk_cell BK279.out 4).trans rfl, (blk_cell BK279.out 5).trans rfl⟩ (fun hHeld => ?_)
       generalize w25.drew = w26 at HO_1 BK279 HI0 HK HB hHeld ⊢
       refine pS (i := 1) (N := some 68) #[false, true, false, false, false, false, false] ?_
       refine take_ (i := 3) (N := some 70) (v := ?_) (a' := ?_) #[false, true, false, true, false, false, false] rfl rfl (by kernel_rfl) (fun _ _ _ h => h) (Or.inl ⟨by rfl, ?_⟩) hHeld ?_ ?_
       rotate_left
       ·rintro w' ⟨s0, s1, s2, s3, s4, s5⟩
        go_simp
        with_reducible rfl
       rotate_left
       ·simp only [Act.put, List.setIfInBounds_toArray, List.set_cons_zero, List.set_cons_succ, i64_w, i32_w]
        rfl
       refine join_ (σ := Value × Value × Value) 2 #[true, true, true, true, true, false, false] (fun s_ => [(67, s_.1), (69, s_.2.1), (71, s_.2.2)]) (fun s_ w' => (w'.cell? ⟨gb279, 0, none⟩ = some (.int .i64 1) ∧ w'.cell? ⟨gb279, 1, none⟩ = some (.int .i64 a4) ∧ w'.cell? ⟨gb279, 2, none⟩ = some (.int .i64 a3) ∧ w'.cell? ⟨gb279, 3, none⟩ = some (.int .i64 0) ∧ w'.cell? ⟨gb279, 4, none⟩ = some (.int .i64 0) ∧ w'.cell? ⟨gb279, 5, none⟩ = some (.int .i64 0)) ∧ (Kd.R k39 39 w' w0.heap.size (fun k_ => (P1_ k_ ∨ w.heap.size ≤ k_) ∧ some k_ ≠ (s_.2.2 : Value).ownBlock ∧ some k_ ≠ (u9000_ : Value).ownBlock ∧ k_ ≠ gb279) s_.2.1 y286) ∧ (Kd.R k39 39 w' w0.heap.size (fun k_ => (P1_ k_ ∨ w.heap.size ≤ k_) ∧ some k_ ≠ (s_.2.1 : Value).ownBlock ∧ some k_ ≠ (u9000_ : Value).ownBlock ∧ k_ ≠ gb279) s_.2.2 y289) ∧ (Kd.R k39 39 w' w0.heap.size (fun k_ => (P1_ k_ ∨ w.heap.size ≤ k_) ∧ some k_ ≠ (s_.2.1 : Value).ownBlock ∧ some k_ ≠ (s_.2.2 : Value).ownBlock ∧ k_ ≠ gb279) u9000_ l1) ∧ (w'.heap[gb279]? = some (.cells #[.int .i64 1, .int .i64 a4, .int .i64 a3, .int .i64 0, .int .i64 0, .int .i64 0] 39 (0, 0))) ∧ (IsS58 w0 w' g s0_0 t281 t282) ∧ (Kept w w' (fun k_ => (P1_ k_) ∨ k_ = g)) ∧ (Below w0.heap.size w0 w')) ?_ ?_
       rotate_left
       ·intro hCont
        refine two_ (i := 0) (j := 4) (Ni := some 67) (Nj := some 71) #[true, true, false, true, false, false, false] #[false, true, false, true, true, false, false] rfl rfl rfl rfl (by kernel_rfl) (by decide) (by decide) (fun K hK => ?_) (fun K hK => ?_)
        ·skip
         refine Kd.R_lit_step k39 _ 39 ?hg (N := 67) ?hd (xs := ([] : List (S39))) (inner := []) (ok := fun _ => True) (okp := fun _ => True) ?hr ?hp (fun _ hk => hk) trivial (Below.refl _ _) (Nat.le_refl _) (by simp) ?_; (case hd => rfl); (case hg => rfl); (case hr => (go_simp; done)); (case hp => exact (Reps.none _ _))
         intro v284 w27 ho28 hb hg_ hnew_
         clear hg_ hnew_
         (rw [← Ny283.out] at ho28)
         have n0_ := am (Kd.R_elder' (by exact sR <| HO_1.out) (Kd.R_base ho28) hb)
         have n1_ := am (Kd.R_lower (Kd.R_newB (Kd.R_new' (Kd.R_newM (M := fun k_ => (P1_ k_ ∨ w.heap.size ≤ k_)) ho28 (by exact HK.out.1) (fun k_ h_ => .inr h_)) (Kd.R_lt (by exact sR <| HO_1.out))) (g := gb279) (o := .cells #[.int .i64 1, .int .i64 a4, .int .i64 a3, .int .i64 0, .int .i64 0, .int .i64 0] 39 (0, 0)) (by exact sB <| BK279.out)) (below_size (by exact bIsS58)))
         have n2_ := am (IsS58.below (by exact sIsS58) hb)
         have n3_ := am (blk_below (g := gb279) (o := .cells #[.int .i64 1, .int .i64 a4, .int .i64 a3, .int .i64 0, .int .i64 0, .int .i64 0] 39 (0, 0)) (by exact sB <| BK279.out) hb)
         have n4_ := am (Kept.below (S := (fun k_ => (P1_ k_) ∨ k_ = g)) (by exact sK HK.out) hb)
         have n5_ := am (below_step (by exact bIsS58) hb)
         clear HO_1
         clear HI0
         clear BK279
         clear HK
         clear HB
         have HO_1 := n0_
         have HO285 := n1_
         have HI0 := n2_
         have BK279 := n3_
         have HK := n4_
         have HB := n5_
         clear n0_ n1_ n2_ n3_ n4_ n5_
         clear hb ho28
         refine hK.out _ _ ⟨(blk_cell BK279.out 0).trans rfl, (blk_cell BK279.out 1).trans rfl, (blk_cell BK279.out 2).trans rfl, (blk_cell BK279.out 3).trans rfl, (blk_cell BK279.out 4).trans rfl, (blk_cell BK279.out 5).trans rfl⟩ (fun hHeld => ?_)
         clear hK K
         refine norm_ (a' := ?_) ?_ ?_
         rotate_left
         ·show Act.put _ (some 67) _ = _
          simp only [Act.put, List.setIfInBounds_toArray, List.set_cons_zero, List.set_cons_succ, i64_w, i32_w]
          rfl
         refine two_ (i := 2) (j := 4) (Ni := some 69) (Nj := some 71) #[true, true, true, true, false, false, false] #[true, true, false, true, true, false, false] rfl rfl rfl rfl (by kernel_rfl) (by decide) (by decide) (fun K hK => ?_) (fun K hK => ?_)
         ·skip
          refine Kd.R_append_rows_step k39 (w0 := w0) w0.heap.size (by rfl) (.tmp 67) (.tmp 68) 26 39 (.agg #[(.int .i64 0), (.int .i64 0), (.int .i64 0), (.int .i64 0), (.int .i64 0), (.int .i64 0)]) 48 rfl Try.underlying26 info39 rfl (by decide) (by omega) v284 y283 l2 _ _ _ (fun k_ => (P1_ k_ ∨ w.heap.size ≤ k_) ∧ some k_ ≠ (u9000_ : Value).ownBlock ∧ k_ ≠ gb279) (fun _ => False) rfl rfl ?aO ?aR (fun _ _ h => h) (fun _ h => h.elim) ?aF ?aB ?aS ?aL ?_
          (case aR => exact Kd.C_kept_now HR2.out (by exact sK HK.out))
          (case aB => exact (by exact bIsS58))
          (case aF => exact (fun k_ hk => ⟨(.inr (Nat.le_trans (by exact HK.out.1) hk)), Kd.fresh' (Kd.R_lt (by exact sR <| HO_1.out)) k_ hk, Kd.freshB (g := gb279) (o := .cells #[.int .i64 1, .int .i64 a4, .int .i64 a3, .int .i64 0, .int .i64 0, .int .i64 0] 39 (0, 0)) (by exact sB <| BK279.out) k_ hk⟩))
          (case aO => exact (by exact sR <| Kd.R_mono HO285.out (fun _ hk => ⟨hk.1.1.1, ⟨hk.1.2, hk.2⟩⟩)))
          (case aS => exact (below_size (by exact bIsS58)))
          (case aL => have := LMc17.out; omega)
          intro v287 w29 ho hb hg hat
          rw [← Ny286.out] at ho
          have n0_ := am (Kd.R_after (ok := (fun k_ => (P1_ k_ ∨ w.heap.size ≤ k_) ∧ k_ ≠ gb279)) (by exact sR <| HO_1.out) hg hat)
          have n1_ := am (IsS58.grown (by exact sIsS58) hg (IsS58.own_ne HI0.out HO285.out (by decide)))
          have n2_ := am (blk_grown (g := gb279) (o := .cells #[.int .i64 1, .int .i64 a4, .int .i64 a3, .int .i64 0, .int .i64 0, .int .i64 0] 39 (0, 0)) (by exact sB <| BK279.out) hg (Kd.R_away HO285.out (fun _ hk => hk.2)))
          have n3_ := am (hb)
          have n4_ := am (Kept.of_grown (S := (fun k_ => (P1_ k_) ∨ k_ = g)) hg (by exact sK HK.out) (fun k_ e_ => Or.imp_left Or.inl ((HO285.out.1 k_ e_).1.1.1)))
          have n5_ := am (ho)
          clear HO_1
          clear HI0
          clear BK279
          clear HB
          clear HK
          clear HO285
          have HO_1 := n0_
          have HI0 := n1_
          have BK279 := n2_
          have HB := n3_
          have HK := n4_
          have HO288 := n5_
          clear n0_ n1_ n2_ n3_ n4_ n5_
          clear ho hb hg hat
          refine hK.out _ _ ⟨(blk_cell BK279.out 0).trans rfl, (blk_cell BK279.out 1).trans rfl, (blk_cell BK279.out 2).trans rfl, (blk_cell BK279.out 3).trans rfl, (blk_cell BK279.out 4).trans rfl, (blk_cell BK279.out 5).trans rfl⟩ (fun hHeld => ?_)
          clear hK K
          refine norm_ (a' := ?_) ?_ ?_
          rotate_left
          ·show Act.put _ (some 69) _ = _
           simp only [Act.put, List.setIfInBounds_toArray, List.set_cons_zero, List.set_cons_succ, i64_w, i32_w]
           rfl
          refine one_ (i := 4) (N := some 71) #[true, true, true, true, true, false, false] rfl rfl (by kernel_rfl) (by decide) (fun K hK => ?_)
          refine Kd.R_lit_step k39 _ 39 ?hg (N := 71) ?hd (xs := ([(⟨1, a4, a3, 0, 0, 0⟩ : S39)] : List (S39))) (inner := [.int .i64 1, .int .i64 a4, .int .i64 a3, .int .i64 0, .int .i64 0, .int .i64 0]) (ok := fun _ => True) (okp := fun _ => True) ?hr ?hp (fun _ hk => hk) trivial (Below.refl _ _) (Nat.le_refl _) (by simp) ?_; (case hd => rfl); (case hg => rfl); (case hr => (go_simp; done)); (case hp => exact (Reps.c6 (show Kd.M k39 _ _ _ (⟨1, a4, a3, 0, 0, 0⟩ : S39) [.int .i64 1, .int .i64 a4, .int .i64 a3, .int .i64 0, .int .i64 0, .int .i64 0] from (k39_mkM _ _ _ (⟨1, a4, a3, 0, 0, 0⟩ : S39) )) (Reps.none _ _)))
          intro v290 w30 ho31 hb hg_ hnew_
          clear hg_ hnew_
          (rw [← Ny289.out] at ho31)
          have n0_ := am (Kd.R_elder' (by exact sR <| HO_1.out) (Kd.R_base ho31) hb)
          have n1_ := am (Kd.R_elder' (by exact sR <| HO288.out) (Kd.R_base ho31) hb)
          have n2_ := am (Kd.R_lower (Kd.R_newB (Kd.R_new' (Kd.R_new' (Kd.R_newM (M := fun k_ => (P1_ k_ ∨ w.heap.size ≤ k_)) ho31 (by exact HK.out.1) (fun k_ h_ => .inr h_)) (Kd.R_lt (by exact sR <| HO_1.out))) (Kd.R_lt (by exact sR <| HO288.out))) (g := gb279) (o := .cells #[.int .i64 1, .int .i64 a4, .int .i64 a3, .int .i64 0, .int .i64 0, .int .i64 0] 39 (0, 0)) (by exact sB <| BK279.out)) (below_size (by exact bIsS58)))
          have n3_ := am (IsS58.below (by exact sIsS58) hb)
          have n4_ := am (blk_below (g := gb279) (o := .cells #[.int .i64 1, .int .i64 a4, .int .i64 a3, .int .i64 0, .int .i64 0, .int .i64 0] 39 (0, 0)) (by exact sB <| BK279.out) hb)
          have n5_ := am (Kept.below (S := (fun k_ => (P1_ k_) ∨ k_ = g)) (by exact sK HK.out) hb)
          have n6_ := am (below_step (by exact bIsS58) hb)
          clear HO_1
          clear HO288
          clear HI0
          clear BK279
          clear HK
          clear HB
          have HO_1 := n0_
          have HO288 := n1_
          have HO291 := n2_
          have HI0 := n3_
          have BK279 := n4_
          have HK := n5_
          have HB := n6_
          clear n0_ n1_ n2_ n3_ n4_ n5_ n6_
          clear hb ho31
          refine hK.out _ _ ⟨(blk_cell BK279.out 0).trans rfl, (blk_cell BK279.out 1).trans rfl, (blk_cell BK279.out 2).trans rfl, (blk_cell BK279.out 3).trans rfl, (blk_cell BK279.out 4).trans rfl, (blk_cell BK279.out 5).trans rfl⟩ (fun hHeld => ?_)
          clear hK K
          refine norm_ (a' := ?_) ?_ ?_
          rotate_left
          ·show Act.put _ (some 71) _ = _
           simp only [Act.put, List.setIfInBounds_toArray, List.set_cons_zero, List.set_cons_succ, i64_w, i32_w]
           rfl
          exact norm_ (by simp only [putAll, Act.put, List.setIfInBounds_toArray, List.set_cons_zero, List.set_cons_succ]) (hCont (v284, v287, v290) _ ⟨hHeld, (by exact sR <| Kd.R_mono HO288.out (fun _ hk => ⟨hk.1.1, ⟨hk.2, ⟨hk.1.2.1, hk.1.2.2⟩⟩⟩)), (by exact sR <| Kd.R_mono HO291.out (fun _ hk => ⟨hk.1.1.1.1, ⟨hk.1.2, ⟨hk.1.1.2, hk.2⟩⟩⟩)), (by exact sR <| Kd.R_mono HO_1.out (fun _ hk => ⟨hk.1.1.1, ⟨hk.1.2, ⟨hk.2, hk.1.1.2⟩⟩⟩)), (by exact sB <| BK279.out), (by exact sIsS58), (by exact sK HK.out), (by exact bIsS58)⟩)
         ·skip
          refine Kd.R_lit_step k39 _ 39 ?hg (N := 71) ?hd (xs := ([(⟨1, a4, a3, 0, 0, 0⟩ : S39)] : List (S39))) (inner := [.int .i64 1, .int .i64 a4, .int .i64 a3, .int .i64 0, .int .i64 0, .int .i64 0]) (ok := fun _ => True) (okp := fun _ => True) ?hr ?hp (fun _ hk => hk) trivial (Below.refl _ _) (Nat.le_refl _) (by simp) ?_; (case hd => rfl); (case hg => rfl); (case hr => (go_simp; done)); (case hp => exact (Reps.c6 (show Kd.M k39 _ _ _ (⟨1, a4, a3, 0, 0, 0⟩ : S39) [.int .i64 1, .int .i64 a4, .int .i64 a3, .int .i64 0, .int .i64 0, .int .i64 0] from (k39_mkM _ _ _ (⟨1, a4, a3, 0, 0, 0⟩ : S39) )) (Reps.none _ _)))
          intro v290 w29 ho30 hb hg_ hnew_
          clear hg_ hnew_
          (rw [← Ny289.out] at ho30)
          have n0_ := am (Kd.R_elder' (by exact sR <| HO_1.out) (Kd.R_base ho30) hb)
          have n1_ := am (Kd.R_elder' (by exact sR <| HO285.out) (Kd.R_base ho30) hb)
          have n2_ := am (Kd.R_lower (Kd.R_newB (Kd.R_new' (Kd.R_new' (Kd.R_newM (M := fun k_ => (P1_ k_ ∨ w.heap.size ≤ k_)) ho30 (by exact HK.out.1) (fun k_ h_ => .inr h_)) (Kd.R_lt (by exact sR <| HO_1.out))) (Kd.R_lt (by exact sR <| HO285.out))) (g := gb279) (o := .cells #[.int .i64 1, .int .i64 a4, .int .i64 a3, .int .i64 0, .int .i64 0, .int .i64 0] 39 (0, 0)) (by exact sB <| BK279.out)) (below_size (by exact bIsS58)))
          have n3_ := am (IsS58.below (by exact sIsS58) hb)
          have n4_ := am (blk_below (g := gb279) (o := .cells #[.int .i64 1, .int .i64 a4, .int .i64 a3, .int .i64 0, .int .i64 0, .int .i64 0] 39 (0, 0)) (by exact sB <| BK279.out) hb)
          have n5_ := am (Kept.below (S := (fun k_ => (P1_ k_) ∨ k_ = g)) (by exact sK HK.out) hb)
          have n6_ := am (below_step (by exact bIsS58) hb)
          clear HO_1
          clear HO285
          clear HI0
          clear BK279
          clear HK
          clear HB
          have HO_1 := n0_
          have HO285 := n1_
          have HO291 := n2_
          have HI0 := n3_
          have BK279 := n4_
          have HK := n5_
          have HB := n6_
          clear n0_ n1_ n2_ n3_ n4_ n5_ n6_
          clear hb ho30
          refine hK.out _ _ ⟨(blk_cell BK279.out 0).trans rfl, (blk_cell BK279.out 1).trans rfl, (blk_cell BK279.out 2).trans rfl, (blk_cell BK279.out 3).trans rfl, (blk_cell BK279.out 4).trans rfl, (blk_cell BK279.out 5).trans rfl⟩ (fun hHeld => ?_)
          clear hK K
          refine norm_ (a' := ?_) ?_ ?_
          rotate_left
          ·show Act.put _ (some 71) _ = _
           simp only [Act.put, List.setIfInBounds_toArray, List.set_cons_zero, List.set_cons_succ, i64_w, i32_w]
           rfl
          refine one_ (i := 2) (N := some 69) #[true, true, true, true, true, false, false] rfl rfl (by kernel_rfl) (by decide) (fun K hK => ?_)
          refine Kd.R_append_rows_step k39 (w0 := w0) w0.heap.size (by rfl) (.tmp 67) (.tmp 68) 26 39 (.agg #[(.int .i64 0), (.int .i64 0), (.int .i64 0), (.int .i64 0), (.int .i64 0), (.int .i64 0)]) 48 rfl Try.underlying26 info39 rfl (by decide) (by omega) v284 y283 l2 _ _ _ (fun k_ => (P1_ k_ ∨ w.heap.size ≤ k_) ∧ some k_ ≠ (u9000_ : Value).ownBlock ∧ some k_ ≠ (v290 : Value).ownBlock ∧ k_ ≠ gb279) (fun _ => False) rfl rfl ?aO ?aR (fun _ _ h => h) (fun _ h => h.elim) ?aF ?aB ?aS ?aL ?_
          (case aR => exact Kd.C_kept_now HR2.out (by exact sK HK.out))
          (case aB => exact (by exact bIsS58))
          (case aF => exact (fun k_ hk => ⟨(.inr (Nat.le_trans (by exact HK.out.1) hk)), Kd.fresh' (Kd.R_lt (by exact sR <| HO_1.out)) k_ hk, Kd.fresh' (Kd.R_lt (by exact sR <| HO291.out)) k_ hk, Kd.freshB (g := gb279) (o := .cells #[.int .i64 1, .int .i64 a4, .int .i64 a3, .int .i64 0, .int .i64 0, .int .i64 0] 39 (0, 0)) (by exact sB <| BK279.out) k_ hk⟩))
          (case aO => exact (by exact sR <| Kd.R_mono HO285.out (fun _ hk => ⟨hk.1.1.1.1, ⟨hk.1.1.2, ⟨hk.2, hk.1.2⟩⟩⟩)))
          (case aS => exact (below_size (by exact bIsS58)))
          (case aL => have := LMc17.out; omega)
          intro v287 w31 ho hb hg hat
          rw [← Ny286.out] at ho
          have n0_ := am (Kd.R_after (ok := (fun k_ => (P1_ k_ ∨ w.heap.size ≤ k_) ∧ some k_ ≠ (v290 : Value).ownBlock ∧ k_ ≠ gb279)) (by exact sR <| Kd.R_mono HO_1.out (fun _ hk => ⟨⟨hk.1.1.1, ⟨hk.2, hk.1.1.2⟩⟩, hk.1.2⟩)) hg hat)
          have n1_ := am (IsS58.grown (by exact sIsS58) hg (IsS58.own_ne HI0.out HO285.out (by decide)))
          have n2_ := am (blk_grown (g := gb279) (o := .cells #[.int .i64 1, .int .i64 a4, .int .i64 a3, .int .i64 0, .int .i64 0, .int .i64 0] 39 (0, 0)) (by exact sB <| BK279.out) hg (Kd.R_away HO285.out (fun _ hk => hk.1.2)))
          have n3_ := am (Kd.R_after (ok := (fun k_ => (P1_ k_ ∨ w.heap.size ≤ k_) ∧ some k_ ≠ (u9000_ : Value).ownBlock ∧ k_ ≠ gb279)) (by exact sR <| Kd.R_mono HO291.out (fun _ hk => ⟨⟨hk.1.1.1.1, ⟨hk.1.1.2, hk.2⟩⟩, hk.1.2⟩)) hg hat)
          have n4_ := am (hb)
          have n5_ := am (Kept.of_grown (S := (fun k_ => (P1_ k_) ∨ k_ = g)) hg (by exact sK HK.out) (fun k_ e_ => Or.imp_left Or.inl ((HO285.out.1 k_ e_).1.1.1.1)))
          have n6_ := am (ho)
          clear HO_1
          clear HI0
          clear BK279
          clear HO291
          clear HB
          clear HK
          clear HO285
          have HO_1 := n0_
          have HI0 := n1_
          have BK279 := n2_
          have HO291 := n3_
          have HB := n4_
          have HK := n5_
          have HO288 := n6_
          clear n0_ n1_ n2_ n3_ n4_ n5_ n6_
          clear ho hb hg hat
          refine hK.out _ _ ⟨(blk_cell BK279.out 0).trans rfl, (blk_cell BK279.out 1).trans rfl, (blk_cell BK279.out 2).trans rfl, (blk_cell BK279.out 3).trans rfl, (blk_cell BK279.out 4).trans rfl, (blk_cell BK279.out 5).trans rfl⟩ (fun hHeld => ?_)
          clear hK K
          refine norm_ (a' := ?_) ?_ ?_
          rotate_left
          ·show Act.put _ (some 69) _ = _
           simp only [Act.put, List.setIfInBounds_toArray, List.set_cons_zero, List.set_cons_succ, i64_w, i32_w]
           rfl
          exact norm_ (by simp only [putAll, Act.put, List.setIfInBounds_toArray, List.set_cons_zero, List.set_cons_succ]) (hCont (v284, v287, v290) _ ⟨hHeld, (by exact sR <| Kd.R_mono HO288.out (fun _ hk => ⟨hk.1, ⟨hk.2.2.1, ⟨hk.2.1, hk.2.2.2⟩⟩⟩)), (by exact sR <| Kd.R_mono HO291.out (fun _ hk => ⟨hk.1.1, ⟨hk.2, ⟨hk.1.2.1, hk.1.2.2⟩⟩⟩)), (by exact sR <| Kd.R_mono HO_1.out (fun _ hk => ⟨hk.1.1, ⟨hk.2, ⟨hk.1.2.1, hk.1.2.2⟩⟩⟩)), (by exact sB <| BK279.out), (by exact sIsS58), (by exact sK HK.out), (by exact bIsS58)⟩)
        ·skip
         refine Kd.R_lit_step k39 _ 39 ?hg (N := 71) ?hd (xs := ([(⟨1, a4, a3, 0, 0, 0⟩ : S39)] : List (S39))) (inner := [.int .i64 1, .int .i64 a4, .int .i64 a3, .int .i64 0, .int .i64 0, .int .i64 0]) (ok := fun _ => True) (okp := fun _ => True) ?hr ?hp (fun _ hk => hk) trivial (Below.refl _ _) (Nat.le_refl _) (by simp) ?_; (case hd => rfl); (case hg => rfl); (case hr => (go_simp; done)); (case hp => exact (Reps.c6 (show Kd.M k39 _ _ _ (⟨1, a4, a3, 0, 0, 0⟩ : S39) [.int .i64 1, .int .i64 a4, .int .i64 a3, .int .i64 0, .int .i64 0, .int .i64 0] from (k39_mkM _ _ _ (⟨1, a4, a3, 0, 0, 0⟩ : S39) )) (Reps.none _ _)))
         intro v290 w27 ho28 hb hg_ hnew_
         clear hg_ hnew_
         (rw [← Ny289.out] at ho28)
         have n0_ := am (Kd.R_elder' (by exact sR <| HO_1.out) (Kd.R_base ho28) hb)
         have n1_ := am (Kd.R_lower (Kd.R_newB (Kd.R_new' (Kd.R_newM (M := fun k_ => (P1_ k_ ∨ w.heap.size ≤ k_)) ho28 (by exact HK.out.1) (fun k_ h_ => .inr h_)) (Kd.R_lt (by exact sR <| HO_1.out))) (g := gb279) (o := .cells #[.int .i64 1, .int .i64 a4, .int .i64 a3, .int .i64 0, .int .i64 0, .int .i64 0] 39 (0, 0)) (by exact sB <| BK279.out)) (below_size (by exact bIsS58)))
         have n2_ := am (IsS58.below (by exact sIsS58) hb)
         have n3_ := am (blk_below (g := gb279) (o := .cells #[.int .i64 1, .int .i64 a4, .int .i64 a3, .int .i64 0, .int .i64 0, .int .i64 0] 39 (0, 0)) (by exact sB <| BK279.out) hb)
         have n4_ := am (Kept.below (S := (fun k_ => (P1_ k_) ∨ k_ = g)) (by exact sK HK.out) hb)
         have n5_ := am (below_step (by exact bIsS58) hb)
         clear HO_1
         clear HI0
         clear BK279
         clear HK
         clear HB
         have HO_1 := n0_
         have HO291 := n1_
         have HI0 := n2_
         have BK279 := n3_
         have HK := n4_
         have HB := n5_
         clear n0_ n1_ n2_ n3_ n4_ n5_
         clear hb ho28
         refine hK.out _ _ ⟨(blk_cell BK279.out 0).trans rfl, (blk_cell BK279.out 1).trans rfl, (blk_cell BK279.out 2).trans rfl, (blk_cell BK279.out 3).trans rfl, (blk_cell BK279.out 4).trans rfl, (blk_cell BK279.out 5).trans rfl⟩ (fun hHeld => ?_)
         clear hK K
         refine norm_ (a' := ?_) ?_ ?_
         rotate_left
         ·show Act.put _ (some 71) _ = _
          simp only [Act.put, List.setIfInBounds_toArray, List.set_cons_zero, List.set_cons_succ, i64_w, i32_w]
          rfl
         refine one_ (i := 0) (N := some 67) #[true, true, false, true, true, false, false] rfl rfl (by kernel_rfl) (by decide) (fun K hK => ?_)
         refine Kd.R_lit_step k39 _ 39 ?hg (N := 67) ?hd (xs := ([] : List (S39))) (inner := []) (ok := fun _ => True) (okp := fun _ => True) ?hr ?hp (fun _ hk => hk) trivial (Below.refl _ _) (Nat.le_refl _) (by simp) ?_; (case hd => rfl); (case hg => rfl); (case hr => (go_simp; done)); (case hp => exact (Reps.none _ _))
         intro v284 w29 ho30 hb hg_ hnew_
         clear hg_ hnew_
         (rw [← Ny283.out] at ho30)
         have n0_ := am (Kd.R_elder' (by exact sR <| HO_1.out) (Kd.R_base ho30) hb)
         have n1_ := am (Kd.R_elder' (by exact sR <| HO291.out) (Kd.R_base ho30) hb)
         have n2_ := am (Kd.R_lower (Kd.R_newB (Kd.R_new' (Kd.R_new' (Kd.R_newM (M := fun k_ => (P1_ k_ ∨ w.heap.size ≤ k_)) ho30 (by exact HK.out.1) (fun k_ h_ => .inr h_)) (Kd.R_lt (by exact sR <| HO_1.out))) (Kd.R_lt (by exact sR <| HO291.out))) (g := gb279) (o := .cells #[.int .i64 1, .int .i64 a4, .int .i64 a3, .int .i64 0, .int .i64 0, .int .i64 0] 39 (0, 0)) (by exact sB <| BK279.out)) (below_size (by exact bIsS58)))
         have n3_ := am (IsS58.below (by exact sIsS58) hb)
         have n4_ := am (blk_below (g := gb279) (o := .cells #[.int .i64 1, .int .i64 a4, .int .i64 a3, .int .i64 0, .int .i64 0, .int .i64 0] 39 (0, 0)) (by exact sB <| BK279.out) hb)
         have n5_ := am (Kept.below (S := (fun k_ => (P1_ k_) ∨ k_ = g)) (by exact sK HK.out) hb)
         have n6_ := am (below_step (by exact bIsS58) hb)
         clear HO_1
         clear HO291
         clear HI0
         clear BK279
         clear HK
         clear HB
         have HO_1 := n0_
         have HO291 := n1_
         have HO285 := n2_
         have HI0 := n3_
         have BK279 := n4_
         have HK := n5_
         have HB := n6_
         clear n0_ n1_ n2_ n3_ n4_ n5_ n6_
         clear hb ho30
         refine hK.out _ _ ⟨(blk_cell BK279.out 0).trans rfl, (blk_cell BK279.out 1).trans rfl, (blk_cell BK279.out 2).trans rfl, (blk_cell BK279.out 3).trans rfl, (blk_cell BK279.out 4).trans rfl, (blk_cell BK279.out 5).trans rfl⟩ (fun hHeld => ?_)
         clear hK K
         refine norm_ (a' := ?_) ?_ ?_
         rotate_left
         ·show Act.put _ (some 67) _ = _
          simp only [Act.put, List.setIfInBounds_toArray, List.set_cons_zero, List.set_cons_succ, i64_w, i32_w]
          rfl
         refine one_ (i := 2) (N := some 69) #[true, true, true, true, true, false, false] rfl rfl (by kernel_rfl) (by decide) (fun K hK => ?_)
         refine Kd.R_append_rows_step k39 (w0 := w0) w0.heap.size (by rfl) (.tmp 67) (.tmp 68) 26 39 (.agg #[(.int .i64 0), (.int .i64 0), (.int .i64 0), (.int .i64 0), (.int .i64 0), (.int .i64 0)]) 48 rfl Try.underlying26 info39 rfl (by decide) (by omega) v284 y283 l2 _ _ _ (fun k_ => (P1_ k_ ∨ w.heap.size ≤ k_) ∧ some k_ ≠ (u9000_ : Value).ownBlock ∧ some k_ ≠ (v290 : Value).ownBlock ∧ k_ ≠ gb279) (fun _ => False) rfl rfl ?aO ?aR (fun _ _ h => h) (fun _ h => h.elim) ?aF ?aB ?aS ?aL ?_
         (case aR => exact Kd.C_kept_now HR2.out (by exact sK HK.out))
         (case aB => exact (by exact bIsS58))
         (case aF => exact (fun k_ hk => ⟨(.inr (Nat.le_trans (by exact HK.out.1) hk)), Kd.fresh' (Kd.R_lt (by exact sR <| HO_1.out)) k_ hk, Kd.fresh' (Kd.R_lt (by exact sR <| HO291.out)) k_ hk, Kd.freshB (g := gb279) (o := .cells #[.int .i64 1, .int .i64 a4, .int .i64 a3, .int .i64 0, .int .i64 0, .int .i64 0] 39 (0, 0)) (by exact sB <| BK279.out) k_ hk⟩))
         (case aO => exact (by exact sR <| Kd.R_mono HO285.out (fun _ hk => ⟨hk.1.1.1.1, ⟨hk.1.1.2, ⟨hk.1.2, hk.2⟩⟩⟩)))
         (case aS => exact (below_size (by exact bIsS58)))
         (case aL => have := LMc17.out; omega)
         intro v287 w31 ho hb hg hat
         rw [← Ny286.out] at ho
         have n0_ := am (Kd.R_after (ok := (fun k_ => (P1_ k_ ∨ w.heap.size ≤ k_) ∧ some k_ ≠ (v290 : Value).ownBlock ∧ k_ ≠ gb279)) (by exact sR <| Kd.R_mono HO_1.out (fun _ hk => ⟨⟨hk.1.1.1, ⟨hk.1.2, hk.1.1.2⟩⟩, hk.2⟩)) hg hat)
         have n1_ := am (IsS58.grown (by exact sIsS58) hg (IsS58.own_ne HI0.out HO285.out (by decide)))
         have n2_ := am (blk_grown (g := gb279) (o := .cells #[.int .i64 1, .int .i64 a4, .int .i64 a3, .int .i64 0, .int .i64 0, .int .i64 0] 39 (0, 0)) (by exact sB <| BK279.out) hg (Kd.R_away HO285.out (fun _ hk => hk.2)))
         have n3_ := am (Kd.R_after (ok := (fun k_ => (P1_ k_ ∨ w.heap.size ≤ k_) ∧ some k_ ≠ (u9000_ : Value).ownBlock ∧ k_ ≠ gb279)) (by exact sR <| Kd.R_mono HO291.out (fun _ hk => ⟨⟨hk.1.1.1.1, ⟨hk.1.1.2, hk.1.2⟩⟩, hk.2⟩)) hg hat)
         have n4_ := am (hb)
         have n5_ := am (Kept.of_grown (S := (fun k_ => (P1_ k_) ∨ k_ = g)) hg (by exact sK HK.out) (fun k_ e_ => Or.imp_left Or.inl ((HO285.out.1 k_ e_).1.1.1.1)))
         have n6_ := am (ho)
         clear HO_1
         clear HI0
         clear BK279
         clear HO291
         clear HB
         clear HK
         clear HO285
         have HO_1 := n0_
         have HI0 := n1_
         have BK279 := n2_
         have HO291 := n3_
         have HB := n4_
         have HK := n5_
         have HO288 := n6_
         clear n0_ n1_ n2_ n3_ n4_ n5_ n6_
         clear ho hb hg hat
         refine hK.out _ _ ⟨(blk_cell BK279.out 0).trans rfl, (blk_cell BK279.out 1).trans rfl, (blk_cell BK279.out 2).trans rfl, (blk_cell BK279.out 3).trans rfl, (blk_cell BK279.out 4).trans rfl, (blk_cell BK279.out 5).trans rfl⟩ (fun hHeld => ?_)
         clear hK K
         refine norm_ (a' := ?_) ?_ ?_
         rotate_left
         ·show Act.put _ (some 69) _ = _
          simp only [Act.put, List.setIfInBounds_toArray, List.set_cons_zero, List.set_cons_succ, i64_w, i32_w]
          rfl
         exact norm_ (by simp only [putAll, Act.put, List.setIfInBounds_toArray, List.set_cons_zero, List.set_cons_succ]) (hCont (v284, v287, v290) _ ⟨hHeld, (by exact sR <| Kd.R_mono HO288.out (fun _ hk => ⟨hk.1, ⟨hk.2.2.1, ⟨hk.2.1, hk.2.2.2⟩⟩⟩)), (by exact sR <| Kd.R_mono HO291.out (fun _ hk => ⟨hk.1.1, ⟨hk.2, ⟨hk.1.2.1, hk.1.2.2⟩⟩⟩)), (by exact sR <| Kd.R_mono HO_1.out (fun _ hk => ⟨hk.1.1, ⟨hk.2, ⟨hk.1.2.1, hk.1.2.2⟩⟩⟩)), (by exact sB <| BK279.out), (by exact sIsS58), (by exact sK HK.out), (by exact bIsS58)⟩)
       rintro ⟨v284, v287, v290⟩ w32 ⟨hS_, h0_, h1_, h2_, h3_, h4_, h5_, h6_⟩
       have n0_ : Aside0 (Kd.R k39 39 w32 w0.heap.size (fun k_ => (P1_ k_ ∨ w.heap.size ≤ k_) ∧ some k_ ≠ (v290 : Value).ownBlock ∧ some k_ ≠ (u9000_ : Value).ownBlock ∧ k_ ≠ gb279) v287 y286) := ⟨h0_⟩
       have n1_ : Aside0 (Kd.R k39 39 w32 w0.heap.size (fun k_ => (P1_ k_ ∨ w.heap.size ≤ k_) ∧ some k_ ≠ (v287 : Value).ownBlock ∧ some k_ ≠ (u9000_ : Value).ownBlock ∧ k_ ≠ gb279) v290 y289) := ⟨h1_⟩
       have n2_ : Aside0 (Kd.R k39 39 w32 w0.heap.size (fun k_ => (P1_ k_ ∨ w.heap.size ≤ k_) ∧ some k_ ≠ (v287 : Value).ownBlock ∧ some k_ ≠ (v290 : Value).ownBlock ∧ k_ ≠ gb279) u9000_ l1) := ⟨h2_⟩
       have n3_ : Aside0 (w32.heap[gb279]? = some (.cells #[.int .i64 1, .int .i64 a4, .int .i64 a3, .int .i64 0, .int .i64 0, .int .i64 0] 39 (0, 0))) := ⟨h3_⟩
       have n4_ : Aside0 (IsS58 w0 w32 g s0_0 t281 t282) := ⟨h4_⟩
       have n5_ : Aside0 (Kept w w32 (fun k_ => (P1_ k_) ∨ k_ = g)) := ⟨h5_⟩
       have n6_ : Aside0 (Below w0.heap.size w0 w32) := ⟨h6_⟩
       clear HO_1
       clear BK279
       clear HI0
       clear HK
       clear HB
       clear h0_ h1_ h2_ h3_ h4_ h5_ h6_
       have HO288 := n0_
       have HO291 := n1_
       have HO_1 := n2_
       have BK279 := n3_
       have HI0 := n4_
       have HK := n5_
       have HB := n6_
       clear n0_ n1_ n2_ n3_ n4_ n5_ n6_
       have hHeld : w32.cell? ⟨gb279, 0, none⟩ = some (.int .i64 1) ∧ w32.cell? ⟨gb279, 1, none⟩ = some (.int .i64 a4) ∧ w32.cell? ⟨gb279, 2, none⟩ = some (.int .i64 a3) ∧ w32.cell? ⟨gb279, 3, none⟩ = some (.int .i64 0) ∧ w32.cell? ⟨gb279, 4, none⟩ = some (.int .i64 0) ∧ w32.cell? ⟨gb279, 5, none⟩ = some (.int .i64 0) := hS_
       obtain ⟨Ao34, co34, eo34⟩ := Kd.R_slice HO291.out
       (subst eo34)
       refine norm_ (a' := ?_) ?_ ?_
       rotate_left
       ·simp only [putAll, Act.put, List.setIfInBounds_toArray, List.set_cons_zero, List.set_cons_succ]
        rfl
       refine one_ (i := 5) (N := some 72) #[true, true, true, true, true, true, false] rfl rfl (by kernel_rfl) (by decide) (fun K hK => ?_)
       refine Kd.R_append_rows_step k39 (w0 := w0) w0.heap.size (by rfl) (.tmp 69) (.tmp 71) 26 39 (.agg #[(.int .i64 0), (.int .i64 0), (.int .i64 0), (.int .i64 0), (.int .i64 0), (.int .i64 0)]) 48 rfl Try.underlying26 info39 rfl (by decide) (by omega) v287 y286 y289 _ _ _ (fun k_ => (P1_ k_ ∨ w.heap.size ≤ k_) ∧ some k_ ≠ (u9000_ : Value).ownBlock ∧ some k_ ≠ (.slice Ao34 y289.length co34 : Value).ownBlock ∧ k_ ≠ gb279) (fun _ => False) rfl rfl ?aO ?aR (fun _ _ h => h) (fun _ h => h.elim) ?aF ?aB ?aS ?aL ?_
       (case aR => exact sC (Kd.R_reads' HO291.out).2.2)
       (case aB => exact (by exact bIsS58))
       (case aF => exact (fun k_ hk => ⟨(.inr (Nat.le_trans (by exact HK.out.1) hk)), Kd.fresh' (Kd.R_lt (by exact sR <| HO_1.out)) k_ hk, Kd.fresh' (Kd.R_lt (by exact sR <| HO291.out)) k_ hk, Kd.freshB (g := gb279) (o := .cells #[.int .i64 1, .int .i64 a4, .int .i64 a3, .int .i64 0, .int .i64 0, .int .i64 0] 39 (0, 0)) (by exact sB <| BK279.out) k_ hk⟩))
       (case aO => exact (by exact sR <| Kd.R_mono HO288.out (fun _ hk => ⟨hk.1, ⟨hk.2.2.1, ⟨hk.2.1, hk.2.2.2⟩⟩⟩)))
       (case aS => exact (below_size (by exact bIsS58)))
       (case aL => have := LMc18.out; omega)
       intro v293 w33 ho hb hg hat
       rw [← Ny292.out] at ho
       have n0_ := am (Kd.R_after (ok := (fun k_ => (P1_ k_ ∨ w.heap.size ≤ k_) ∧ some k_ ≠ (.slice Ao34 y289.length co34 : Value).ownBlock ∧ k_ ≠ gb279)) (by exact sR <| Kd.R_mono HO_1.out (fun _ hk => ⟨⟨hk.1, ⟨hk.2.2.1, hk.2.2.2⟩⟩, hk.2.1⟩)) hg hat)
       have n1_ := am (IsS58.grown (by exact sIsS58) hg (IsS58.own_ne HI0.out HO288.out (by decide)))
       have n2_ := am (blk_grown (g := gb279) (o := .cells #[.int .i64 1, .int .i64 a4, .int .i64 a3, .int .i64 0, .int .i64 0, .int .i64 0] 39 (0, 0)) (by exact sB <| BK279.out) hg (Kd.R_away HO288.out (fun _ hk => hk.2.2.2)))
       have n3_ := am (Kd.R_after (ok := (fun k_ => (P1_ k_ ∨ w.heap.size ≤ k_) ∧ some k_ ≠ (u9000_ : Value).ownBlock ∧ k_ ≠ gb279)) (by exact sR <| Kd.R_mono HO291.out (fun _ hk => ⟨⟨hk.1, ⟨hk.2.2.1, hk.2.2.2⟩⟩, hk.2.1⟩)) hg hat)
       have n4_ := am (hb)
       have n5_ := am (Kept.of_grown (S := (fun k_ => (P1_ k_) ∨ k_ = g)) hg (by exact sK HK.out) (fun k_ e_ => Or.imp_left Or.inl ((HO288.out.1 k_ e_).1)))
       have n6_ := am (ho)
       clear HO_1
       clear HI0
       clear BK279
       clear HO291
       clear HB
       clear HK
       clear HO288
       have HO_1 := n0_
       have HI0 := n1_
       have BK279 := n2_
       have HO291 := n3_
       have HB := n4_
       have HK := n5_
       have HO294 := n6_
       clear n0_ n1_ n2_ n3_ n4_ n5_ n6_
       clear ho hb hg hat
       refine hK.out _ _ ⟨(blk_cell BK279.out 0).trans rfl, (blk_cell BK279.out 1).trans rfl, (blk_cell BK279.out 2).trans rfl, (blk_cell BK279.out 3).trans rfl, (blk_cell BK279.out 4).trans rfl, (blk_cell BK279.out 5).trans rfl⟩ (fun hHeld => ?_)
       clear hK K
       refine norm_ (a' := ?_) ?_ ?_
       rotate_left
       ·show Act.put _ (some 72) _ = _
        simp only [Act.put, List.setIfInBounds_toArray, List.set_cons_zero, List.set_cons_succ, i64_w, i32_w]
        rfl
       refine pS (i := 6) (N := some 19) #[true, true, true, true, true, true, true] ?_
       refine done_ (by kernel_rfl) ?_
       obtain ⟨Ao35, co35, eo35⟩ := Kd.R_slice HO_1.out
       subst eo35
       obtain ⟨Ao36, co36, eo36⟩ := Kd.R_slice HO294.out
       subst eo36
       have A19 := am (by have h := A19.out; rw [show wrap64 (a4 - a4) = 0 by simp [wrap64]] at h; exact h)
       try go_wp2_with (first | ((with_reducible refine gate_callee (f := 56) rfl ?_); refine goesL_ (some 84) rfl rfl Try.func56 (by kernel_rfl) rfl #[.pointer (some ⟨g, 0, none⟩), .slice Ao35 l1.length co35, .slice Ao36 y292.length co36, .int .i64 (wrap64 (a3 + 1)), .int .i64 0, .int .i64 (wrap64 (a5 - 1))] rfl tm ?_; (with_reducible refine (ih kj6 (by have := HJ6.out; omega) g s0_0 t281 t282 (fun k_ => some k_ = (.slice Ao35 l1.length co35 : Value).ownBlock) (.slice Ao35 l1.length co35) l1 _ _ y292 (wrap64 (a3 + 1)) 0 (wrap64 (a5 - 1)) t295 t298 t299 t300 t301 t302 w0 _ ?side1 ?side2 ?side3 ?side4 ?side5 A19.out).mono ?_); (case side1 => exact sIsS58); (case side2 => exact bIsS58); (case side3 => exact Kd.R_tight rfl HO_1.out); (case side4 => exact Kd.C_kept_own ((IsS58.apart HI0.out HO294.out (by decide))) (fun k_ hk_ hs_ => Or.elim hs_ (fun hs_ => (hk_.1.2.1) hs_) (fun e_ => (hk_.2) e_))); (case side5 => exact (Kd.R_reads' HO294.out).2.1); rintro e w37 ⟨v296, rfl, ho0, hi, hb, hkp⟩; refine ⟨_, rfl, ?_⟩; have n0_ := am (hi); have n1_ := am (blk_kept (by exact sB <| BK279.out) hkp (fun hs_ => Or.elim hs_ (fun hs_ => (fun e_ => (Kd.R_away HO_1.out (fun _ hk => hk.1.2.2)) e_) hs_) (fun e_ => NB279_0.out e_))); have n2_ := am (Kd.R_mono (ok' := fun k_ => (P1_ k_ ∨ w.heap.size ≤ k_) ∧ some k_ ≠ (.slice Ao36 y292.length co36 : Value).ownBlock ∧ k_ ≠ gb279 ∧ some k_ ≠ (v296 : Value).ownBlock) (Kd.R_keptB ((IsS58.apart HI0.out HO291.out (by decide))) hkp (fun k_ hk_ hs_ => Or.elim hs_ (fun hs_ => (hk_.1.1.2.1) hs_) (fun e_ => (hk_.2) e_))) (fun k_ hk_ => ⟨hk_.1.1.1.1, hk_.1.1.2, hk_.1.1.1.2.2, fun e_ => Or.elim (ho0.1 k_ e_.symm) (fun hs_ => hk_.2.1 (by exact .inl hs_)) (fun hn_ => Nat.not_le.2 hk_.2.2 hn_)⟩)); have n3_ := am (Kd.R_mono (ok' := fun k_ => (P1_ k_ ∨ w.heap.size ≤ k_) ∧ some k_ ≠ (.slice Ao34 y289.length co34 : Value).ownBlock ∧ k_ ≠ gb279 ∧ some k_ ≠ (v296 : Value).ownBlock) (Kd.R_keptB ((IsS58.apart HI0.out HO294.out (by decide))) hkp (fun k_ hk_ hs_ => Or.elim hs_ (fun hs_ => (hk_.1.2.1) hs_) (fun e_ => (hk_.2) e_))) (fun k_ hk_ => ⟨hk_.1.1.1, hk_.1.1.2.2.1, hk_.1.1.2.2.2, fun e_ => Or.elim (ho0.1 k_ e_.symm) (fun hs_ => hk_.2.1 (by exact .inl hs_)) (fun hn_ => Nat.not_le.2 hk_.2.2 hn_)⟩)); have n4_ := am (Kd.R_mono (ok' := fun k_ => (P1_ k_ ∨ w.heap.size ≤ k_) ∧ some k_ ≠ (.slice Ao34 y289.length co34 : Value).ownBlock ∧ some k_ ≠ (.slice Ao36 y292.length co36 : Value).ownBlock ∧ k_ ≠ gb279) ho0 (fun k_ hk_ => ⟨Or.elim hk_ (fun hs_ => (HO_1.out.1 k_ (hs_).symm).1.1) (fun hn_ => (.inr (Nat.le_trans (by exact HK.out.1) hn_))), Or.elim hk_ (fun hs_ => fun e_ => ((((IsS58.apart HI0.out HO291.out (by decide))).1 k_ e_.symm).1.1.2.1) hs_) (fun hn_ => (Kd.fresh' (Kd.R_lt (by exact sR <| HO291.out)) k_ hn_)), Or.elim hk_ (fun hs_ => fun e_ => ((((IsS58.apart HI0.out HO294.out (by decide))).1 k_ e_.symm).1.2.1) hs_) (fun hn_ => (Kd.fresh' (Kd.R_lt (by exact sR <| HO294.out)) k_ hn_)), Or.elim hk_ (fun hs_ => fun e_ => (Kd.R_away HO_1.out (fun _ hk => hk.1.2.2)) (by rw [← e_]; exact hs_)) (fun hn_ => (Kd.freshB (g := gb279) (o := .cells #[.int .i64 1, .int .i64 a4, .int .i64 a3, .int .i64 0, .int .i64 0, .int .i64 0] 39 (0, 0)) (by exact sB <| BK279.out) k_ hn_))⟩)); have n5_ := am (Kept.then_ (S := (fun k_ => (P1_ k_) ∨ k_ = g)) (by exact sK HK.out) hkp (fun k_ hs_ => Or.elim hs_ (fun hs_ => (fun e_ => Or.imp_left Or.inl ((HO_1.out.1 k_ e_.symm).1.1)) hs_) (fun e_ => .inl (.inr e_)))); have n6_ := am (hb); clear HI0; clear BK279; clear HO291; clear HO294; clear HK; clear HB; clear HO_1; have HI0 := n0_; have BK279 := n1_; have HO291 := n2_; have HO294 := n3_; have HO297 := n4_; have HK := n5_; have HB := n6_; clear n0_ n1_ n2_ n3_ n4_ n5_ n6_; (try clear hb); (try clear hkp); (try clear ho0); obtain ⟨hcz38_0, hcz38_1, hcz38_2, hcz38_3, hcz38_4, hcz38_5⟩ := cz6 BK279.out; obtain ⟨hfz38_0, hfz38_1, hfz38_2, hfz38_3, hfz38_4, hfz38_5⟩ := fz6 BK279.out; obtain ⟨Ao39, co39, eo39⟩ := Kd.R_slice HO297.out; subst eo39) | ((with_reducible refine gate_callee (f := 58) rfl ?_); refine goesL_ (some 97) rfl rfl Try.func58 (by kernel_rfl) rfl #[.slice Ao39 t295.length co39, .agg #[.int .i64 (wrap64 (19 + t280)), .int .i64 1, .int .i64 a3, .int .i64 t298, .int .i64 a4, .int .i64 0]] rfl tm ?_; (with_reducible refine (spec_l02Push.calls (fun k_ => some k_ = (.slice Ao39 t295.length co39 : Value).ownBlock) (.slice Ao39 t295.length co39) t295 (wrap64 (19 + t280)) 1 a3 t298 a4 0 t303 t306 w0 _ ?side1 ?side2 A20.out).mono ?_); (case side1 => exact bIsS58); (case side2 => exact Kd.R_tight rfl HO297.out); rintro e w40 ⟨v304, rfl, ho0, hb, hkp⟩; refine ⟨_, rfl, ?_⟩; have n0_ := am (IsS58.kept (by exact sIsS58) hkp (fun hs_ => (fun e_ => (IsS58.own_ne HI0.out HO297.out (by decide)) e_) hs_)); have n1_ := am (blk_kept (by exact sB <| BK279.out) hkp (fun hs_ => (fun e_ => (Kd.R_away HO297.out (fun _ hk => hk.2.2.2)) e_) hs_)); have n2_ := am (Kd.R_mono (ok' := fun k_ => (P1_ k_ ∨ w.heap.size ≤ k_) ∧ some k_ ≠ (.slice Ao36 y292.length co36 : Value).ownBlock ∧ k_ ≠ gb279 ∧ some k_ ≠ (v304 : Value).ownBlock) (Kd.R_keptB (HO291.out) hkp (fun k_ hk_ hs_ => (hk_.2.2.2) hs_)) (fun k_ hk_ => ⟨hk_.1.1, hk_.1.2.1, hk_.1.2.2.1, fun e_ => Or.elim (ho0.1 k_ e_.symm) (fun hs_ => hk_.2.1 (by exact hs_)) (fun hn_ => Nat.not_le.2 hk_.2.2 hn_)⟩)); have n3_ := am (Kd.R_mono (ok' := fun k_ => (P1_ k_ ∨ w.heap.size ≤ k_) ∧ some k_ ≠ (.slice Ao34 y289.length co34 : Value).ownBlock ∧ k_ ≠ gb279 ∧ some k_ ≠ (v304 : Value).ownBlock) (Kd.R_keptB (HO294.out) hkp (fun k_ hk_ hs_ => (hk_.2.2.2) hs_)) (fun k_ hk_ => ⟨hk_.1.1, hk_.1.2.1, hk_.1.2.2.1, fun e_ => Or.elim (ho0.1 k_ e_.symm) (fun hs_ => hk_.2.1 (by exact hs_)) (fun hn_ => Nat.not_le.2 hk_.2.2 hn_)⟩)); have n4_ := am (Kd.R_mono (ok' := fun k_ => (P1_ k_ ∨ w.heap.size ≤ k_) ∧ some k_ ≠ (.slice Ao34 y289.length co34 : Value).ownBlock ∧ some k_ ≠ (.slice Ao36 y292.length co36 : Value).ownBlock ∧ k_ ≠ gb279) ho0 (fun k_ hk_ => ⟨Or.elim hk_ (fun hs_ => (HO297.out.1 k_ (hs_).symm).1) (fun hn_ => (.inr (Nat.le_trans (by exact HK.out.1) hn_))), Or.elim hk_ (fun hs_ => fun e_ => (((HO291.out).1 k_ e_.symm).2.2.2) hs_) (fun hn_ => (Kd.fresh' (Kd.R_lt (by exact sR <| HO291.out)) k_ hn_)), Or.elim hk_ (fun hs_ => fun e_ => (((HO294.out).1 k_ e_.symm).2.2.2) hs_) (fun hn_ => (Kd.fresh' (Kd.R_lt (by exact sR <| HO294.out)) k_ hn_)), Or.elim hk_ (fun hs_ => fun e_ => (Kd.R_away HO297.out (fun _ hk => hk.2.2.2)) (by rw [← e_]; exact hs_)) (fun hn_ => (Kd.freshB (g := gb279) (o := .cells #[.int .i64 1, .int .i64 a4, .int .i64 a3, .int .i64 0, .int .i64 0, .int .i64 0] 39 (0, 0)) (by exact sB <| BK279.out) k_ hn_))⟩)); have n5_ := am (Kept.then_ (S := (fun k_ => (P1_ k_) ∨ k_ = g)) (by exact sK HK.out) hkp (fun k_ hs_ => (fun e_ => Or.imp_left Or.inl ((HO297.out.1 k_ e_.symm).1)) hs_)); have n6_ := am (hb); clear HI0; clear BK279; clear HO291; clear HO294; clear HK; clear HB; clear HO297; have HI0 := n0_; have BK279 := n1_; have HO291 := n2_; have HO294 := n3_; have HO305 := n4_; have HK := n5_; have HB := n6_; clear n0_ n1_ n2_ n3_ n4_ n5_ n6_; (try clear hb); (try clear hkp); (try clear ho0)))
       refine bodyPost_ret (results_list (rs := [.tmp 12, .tmp 13, .tmp 14, .tmp 15]) rfl (by simp) (.tmp (.tmp (.tmp (.tmp .nil))))) rfl ?_
       exact ⟨_, by rfl, by exact sR <| Kd.R_mono HO305.out (fun _ hk => hk.1), by exact sIsS58, by exact bIsS58, by exact sK HK.out⟩
      ·rw [if_neg c18] at H
       exact absurd H (by simp)
     ·rw [if_neg c17] at H
      exact absurd H (by simp)
    ·rw [if_neg c15] at H
     have c15b0 : decide (a4 < (wrap64 (1 + t276))) = false := decide_eq_false c15
     clear c15
     replace H := oB H
     obtain ⟨⟨t308, t309, t310⟩, A410, H⟩ := H
     try dsimp only at H
     have A41 := am A410
     clear A410
     obtain ⟨y311, hy311⟩ : ∃ y_ : List (S39), y_ = (([] : List (S39))) := ⟨_, rfl⟩
     replace H : (if y311.length + l2.length < 2932031007402 then ((some (y311 ++ l2 : List (S39))).bind fun y314 => ((some (([(⟨1, wrap64 (1 + t276), a3, 0, 0, 0⟩ : S39)] : List (S39)) : List (S39))).bind fun y317 => (if y314.length + y317.length < 2932031007402 then ((spec_l02Made.f kj6 s0_0 t309 t310 l1 (y314 ++ y317) (wrap64 (a3 + 1)) (wrap64 (a4 - (wrap64 (1 + t276)))) (wrap64 (a5 - 1))).bind fun bt323 => ((spec_l02Push.f bt323.1 (wrap64 (19 + t308)) 1 a3 bt323.2.1 (wrap64 (1 + t276)) 0).bind fun bt331 => (some (bt331.1, bt331.2, bt323.2.2.1, bt323.2.2.2.1, bt323.2.2.2.2.1, bt323.2.2.2.2.2)))) else (none)))) else (none)) = some (r1, r2, r3, r4, r5, r6) := by (have H2_ := (Option.bind_some _ _).symm.trans H; rw [hy311]; with_reducible exact H2_)
     have Ny311 := am hy311
     clear hy311
     by_cases c42 : y311.length + l2.length < 2932031007402
     ·rw [if_pos c42] at H
      have LMc42 := am c42
      clear c42
      obtain ⟨y314, hy314⟩ : ∃ y_ : List (S39), y_ = (y311 ++ l2) := ⟨_, rfl⟩
      replace H : ((some (([(⟨1, wrap64 (1 + t276), a3, 0, 0, 0⟩ : S39)] : List (S39)) : List (S39))).bind fun y317 => (if y314.length + y317.length < 2932031007402 then ((spec_l02Made.f kj6 s0_0 t309 t310 l1 (y314 ++ y317) (wrap64 (a3 + 1)) (wrap64 (a4 - (wrap64 (1 + t276)))) (wrap64 (a5 - 1))).bind fun bt323 => ((spec_l02Push.f bt323.1 (wrap64 (19 + t308)) 1 a3 bt323.2.1 (wrap64 (1 + t276)) 0).bind fun bt331 => (some (bt331.1, bt331.2, bt323.2.2.1, bt323.2.2.2.1, bt323.2.2.2.2.1, bt323.2.2.2.2.2)))) else (none))) = some (r1, r2, r3, r4, r5, r6) := by (have H2_ := (Option.bind_some _ _).symm.trans H; rw [hy314]; with_reducible exact H2_)
      have Ny314 := am hy314
      clear hy314
      obtain ⟨y317, hy317⟩ : ∃ y_ : List (S39), y_ = (([(⟨1, wrap64 (1 + t276), a3, 0, 0, 0⟩ : S39)] : List (S39))) := ⟨_, rfl⟩
      replace H : (if y314.length + y317.length < 2932031007402 then ((spec_l02Made.f kj6 s0_0 t309 t310 l1 (y314 ++ y317) (wrap64 (a3 + 1)) (wrap64 (a4 - (wrap64 (1 + t276)))) (wrap64 (a5 - 1))).bind fun bt323 => ((spec_l02Push.f bt323.1 (wrap64 (19 + t308)) 1 a3 bt323.2.1 (wrap64 (1 + t276)) 0).bind fun bt331 => (some (bt331.1, bt331.2, bt323.2.2.1, bt323.2.2.2.1, bt323.2.2.2.2.1, bt323.2.2.2.2.2)))) else (none)) = some (r1, r2, r3, r4, r5, r6) := by (have H2_ := (Option.bind_some _ _).symm.trans H; rw [hy317]; with_reducible exact H2_)
      have Ny317 := am hy317
      clear hy317
      by_cases c43 : y314.length + y317.length < 2932031007402
      ·rw [if_pos c43] at H
       have LMc43 := am c43
       clear c43
       obtain ⟨y320, hy320⟩ : ∃ y_ : List (S39), y_ = (y314 ++ y317) := ⟨_, rfl⟩
       replace H : ((spec_l02Made.f kj6 s0_0 t309 t310 l1 y320 (wrap64 (a3 + 1)) (wrap64 (a4 - (wrap64 (1 + t276)))) (wrap64 (a5 - 1))).bind fun bt323 => ((spec_l02Push.f bt323.1 (wrap64 (19 + t308)) 1 a3 bt323.2.1 (wrap64 (1 + t276)) 0).bind fun bt331 => (some (bt331.1, bt331.2, bt323.2.2.1, bt323.2.2.2.1, bt323.2.2.2.2.1, bt323.2.2.2.2.2)))) = some (r1, r2, r3, r4, r5, r6) := by (rw [hy320]; with_reducible exact H)
       have Ny320 := am hy320
       clear hy320
       replace H := oB H
       obtain ⟨⟨t323, t326, t327, t328, t329, t330⟩, A440, H⟩ := H
       try dsimp only at H
       have A44 := am A440
       clear A440
       replace H := oB H
       obtain ⟨⟨t331, t334⟩, A450, H⟩ := H
       try dsimp only at H
       have A45 := am A450
       clear A450
       simp only [Option.some.injEq, Prod.mk.injEq] at H
       obtain ⟨rfl, rfl, rfl, rfl, rfl, rfl⟩ := H
       try go_wp2_with (first | ((with_reducible refine gate_callee (f := 43) rfl ?_); refine goesL_ (some 55) rfl rfl Try.func43 (by kernel_rfl) rfl #[.pointer (some ⟨g, 0, none⟩), .int .i64 3] rfl tm ?_; (with_reducible refine (spec_l01Below.calls g s0_0 x1001_6 x1002_6 3 t276 t277 t278 w0 _ ?side1 ?side2 A14.out).mono ?_); (case side1 => exact sIsS58); (case side2 => exact bIsS58); rintro e w46 ⟨rfl, hi, hb, hk⟩; refine ⟨_, rfl, ?_⟩; have n0_ := am (Kd.R_mono (Kd.R_keep (IsS58.apart (show IsS58 w0 _ g s0_0 x1001_6 x1002_6 from by exact sIsS58) (by exact sR <| HO_1.out) (by decide)) hk (fun _ h => h.2)) (fun _ h => h.1)); have n1_ := am (Kept.of_keep (S := (fun k_ => (P1_ k_) ∨ k_ = g)) (by exact sK HK.out) hk (.inl (.inr rfl))); have n2_ := am (hb); have n3_ := am (hi); clear HO_1; clear HK; clear HB; clear HI0; have HO_1 := n0_; have HK := n1_; have HB := n2_; have HI0 := n3_; clear n0_ n1_ n2_ n3_; (try clear hb); (try clear hb2); (try clear hk); (try clear hi)) | ((with_reducible refine gate_dst (N := 17) rfl ?_); refine box_event ?hg (N := 17) ?hd (cs := #[.int .i64 0, .int .i64 0, .int .i64 0, .int .i64 0, .int .i64 0, .int .i64 0]) (t := 39) ?hr ?_; (case hd => rfl); (case hg => rfl); (case hr => (go_simp; done)); intro gb307 hg w47 hbox hb; have n0_ := am (Kd.R_below (Kd.R_elderB (by exact sR <| HO_1.out) gb307 (Nat.le_of_eq hg.symm)) hb); have n1_ := am (IsS58.below (by exact sIsS58) hb); have n2_ := am (Kept.below (S := (fun k_ => (P1_ k_) ∨ k_ = g)) (by exact sK HK.out) hb); have n3_ := am (below_step (by exact bIsS58) hb); have n4_ := am (hbox); have n5_ := am ((by rw [hg]; exact (by exact HK.out.1) : w.heap.size ≤ gb307)); have n6_ := am ((by rw [hg]; exact (below_size (by exact bIsS58)) : w0.heap.size ≤ gb307)); have n7_ := am ((by rw [hg]; exact Nat.ne_of_lt (IsS58.lt (show IsS58 w0 _ g s0_0 t277 t278 from by exact sIsS58)) : g ≠ gb307)); have n8_ := am ((by rw [hg]; exact Nat.ne_of_gt (IsS58.lt (show IsS58 w0 _ g s0_0 t277 t278 from by exact sIsS58)) : gb307 ≠ g)); clear HO_1; clear HI0; clear HK; clear HB; have HO_1 := n0_; have HI0 := n1_; have HK := n2_; have HB := n3_; have BK307 := n4_; have GW307 := n5_; have GE307 := n6_; have NB0_307 := n7_; have NB307_0 := n8_; clear n0_ n1_ n2_ n3_ n4_ n5_ n6_ n7_ n8_; clear hb hbox hg; have hnb48 := NB307_0.out; have hnc48 := NB0_307.out; obtain ⟨hcz49_0, hcz49_1, hcz49_2, hcz49_3, hcz49_4, hcz49_5⟩ := cz6 BK307.out; obtain ⟨hfz49_0, hfz49_1, hfz49_2, hfz49_3, hfz49_4, hfz49_5⟩ := fz6 BK307.out) | ((with_reducible refine gate_callee (f := 43) rfl ?_); refine goesL_ (some 65) rfl rfl Try.func43 (by kernel_rfl) rfl #[.pointer (some ⟨g, 0, none⟩), .int .i64 2] rfl tm ?_; (with_reducible refine (spec_l01Below.calls g s0_0 t277 t278 2 t308 t309 t310 w0 _ ?side1 ?side2 A41.out).mono ?_); (case side1 => exact sIsS58); (case side2 => exact bIsS58); rintro e w50 ⟨rfl, hi, hb, hk⟩; refine ⟨_, rfl, ?_⟩; have n0_ := am (Kd.R_mono (Kd.R_keep (IsS58.apart (show IsS58 w0 _ g s0_0 t277 t278 from by exact sIsS58) (by exact sR <| (Kd.R_mono (Kd.R_far (p := ⟨gb307, 5, none⟩) (Kd.R_far (p := ⟨gb307, 4, none⟩) (Kd.R_far (p := ⟨gb307, 3, none⟩) (Kd.R_far (p := ⟨gb307, 2, none⟩) (Kd.R_far (p := ⟨gb307, 1, none⟩) (Kd.R_far (p := ⟨gb307, 0, none⟩) (Kd.R_mono HO_1.out (fun k_ hk => (⟨hk, hk.2⟩ : _ ∧ k_ ≠ gb307))) (fun _ hk => hk.2) (.int .i64 1)) (fun _ hk => hk.2) (.int .i64 (wrap64 (1 + t276)))) (fun _ hk => hk.2) (.int .i64 a3)) (fun _ hk => hk.2) (.int .i64 0)) (fun _ hk => hk.2) (.int .i64 0)) (fun _ hk => hk.2) (.int .i64 0)) (fun _ h_ => h_.1))) (by decide)) hk (fun _ h => h.2)) (fun _ h => h.1)); have n1_ := am (KeepBut.blk hk (g' := gb307) (o := .cells #[.int .i64 1, .int .i64 (wrap64 (1 + t276)), .int .i64 a3, .int .i64 0, .int .i64 0, .int .i64 0] 39 (0, 0)) (by (with_reducible repeat (first | refine blk_drewN ?_ _ | refine blk_drew ?_ | refine blk_alloc ?_ _)); refine blk_put (cs := #[.int .i64 1, .int .i64 (wrap64 (1 + t276)), .int .i64 a3, .int .i64 0, .int .i64 0, .int .i64 0]) ?_ 5 _ rfl; (with_reducible repeat (first | refine blk_drewN ?_ _ | refine blk_drew ?_ | refine blk_alloc ?_ _)); refine blk_put (cs := #[.int .i64 1, .int .i64 (wrap64 (1 + t276)), .int .i64 a3, .int .i64 0, .int .i64 0, .int .i64 0]) ?_ 4 _ rfl; (with_reducible repeat (first | refine blk_drewN ?_ _ | refine blk_drew ?_ | refine blk_alloc ?_ _)); refine blk_put (cs := #[.int .i64 1, .int .i64 (wrap64 (1 + t276)), .int .i64 a3, .int .i64 0, .int .i64 0, .int .i64 0]) ?_ 3 _ rfl; (with_reducible repeat (first | refine blk_drewN ?_ _ | refine blk_drew ?_ | refine blk_alloc ?_ _)); refine blk_put (cs := #[.int .i64 1, .int .i64 (wrap64 (1 + t276)), .int .i64 0, .int .i64 0, .int .i64 0, .int .i64 0]) ?_ 2 _ rfl; (with_reducible repeat (first | refine blk_drewN ?_ _ | refine blk_drew ?_ | refine blk_alloc ?_ _)); refine blk_put (cs := #[.int .i64 1, .int .i64 0, .int .i64 0, .int .i64 0, .int .i64 0, .int .i64 0]) ?_ 1 _ rfl; (with_reducible repeat (first | refine blk_drewN ?_ _ | refine blk_drew ?_ | refine blk_alloc ?_ _)); refine blk_put (cs := #[.int .i64 0, .int .i64 0, .int .i64 0, .int .i64 0, .int .i64 0, .int .i64 0]) ?_ 0 _ rfl; exact sB <| BK307.out) NB307_0.out (by simp)); have n2_ := am (Kept.of_keep (S := (fun k_ => (P1_ k_) ∨ k_ = g)) (by exact sK HK.out) hk (.inl (.inr rfl))); have n3_ := am (hb); have n4_ := am (hi); clear HO_1; clear BK307; clear HK; clear HB; clear HI0; have HO_1 := n0_; have BK307 := n1_; have HK := n2_; have HB := n3_; have HI0 := n4_; clear n0_ n1_ n2_ n3_ n4_; (try clear hb); (try clear hb2); (try clear hk); (try clear hi)))
       have n0_ := am (Kd.R_drew HO_1.out)
       have n1_ := am (blk_drew BK307.out)
       have n2_ := am (IsS58.drew HI0.out)
       have n3_ := am (Kept.drew HK.out)
       have n4_ := am (below_drew1 HB.out)
       clear HO_1
       clear BK307
       clear HI0
       clear HK
       clear HB
       have HO_1 := n0_
       have BK307 := n1_
       have HI0 := n2_
       have HK := n3_
       have HB := n4_
       clear n0_ n1_ n2_ n3_ n4_
       refine start_ (n := 7) (S := fun w' => w'.cell? ⟨gb307, 0, none⟩ = some (.int .i64 1) ∧ w'.cell? ⟨gb307, 1, none⟩ = some (.int .i64 (wrap64 (1 + t276))) ∧ w'.cell? ⟨gb307, 2, none⟩ = some (.int .i64 a3) ∧ w'.cell? ⟨gb307, 3, none⟩ = some (.int .i64 0) ∧ w'.cell? ⟨gb307, 4, none⟩ = some (.int .i64 0) ∧ w'.cell? ⟨gb307, 5, none⟩ = some (.int .i64 0)) (ds := []) #[false, false, false, false, false, false, false] (by kernel_rfl) rfl rfl ⟨(blk_cell BK307.out 0).trans rfl, (blk_cell BK307.out 1).trans rfl, (blk_cell BK307.out 2).trans rfl, (blk_cell BK307.out 3).trans rfl, (blk_cell BK307.out 4).trans rfl, (blk_cell BK307.out 5).trans rfl⟩ (fun hHeld => ?_)
       generalize w50.drew = w51 at HO_1 BK307 HI0 HK HB hHeld ⊢
       refine pS (i := 1) (N := some 68) #[false, true, false, false, false, false, false] ?_
       refine take_ (i := 3) (N := some 70) (v := ?_) (a' := ?_) #[false, true, false, true, false, false, false] rfl rfl (by kernel_rfl) (fun _ _ _ h => h) (Or.inl ⟨by rfl, ?_⟩) hHeld ?_ ?_
       rotate_left
       ·rintro w' ⟨s0, s1, s2, s3, s4, s5⟩
        go_simp
        with_reducible rfl
       rotate_left
       ·simp only [Act.put, List.setIfInBounds_toArray, List.set_cons_zero, List.set_cons_succ, i64_w, i32_w]
        rfl
       refine join_ (σ := Value × Value × Value) 2 #[true, true, true, true, true, false, false] (fun s_ => [(67, s_.1), (69, s_.2.1), (71, s_.2.2)]) (fun s_ w' => (w'.cell? ⟨gb307, 0, none⟩ = some (.int .i64 1) ∧ w'.cell? ⟨gb307, 1, none⟩ = some (.int .i64 (wrap64 (1 + t276))) ∧ w'.cell? ⟨gb307, 2, none⟩ = some (.int .i64 a3) ∧ w'.cell? ⟨gb307, 3, none⟩ = some (.int .i64 0) ∧ w'.cell? ⟨gb307, 4, none⟩ = some (.int .i64 0) ∧ w'.cell? ⟨gb307, 5, none⟩ = some (.int .i64 0)) ∧ (Kd.R k39 39 w' w0.heap.size (fun k_ => (P1_ k_ ∨ w.heap.size ≤ k_) ∧ some k_ ≠ (s_.2.2 : Value).ownBlock ∧ some k_ ≠ (u9000_ : Value).ownBlock ∧ k_ ≠ gb307) s_.2.1 y314) ∧ (Kd.R k39 39 w' w0.heap.size (fun k_ => (P1_ k_ ∨ w.heap.size ≤ k_) ∧ some k_ ≠ (s_.2.1 : Value).ownBlock ∧ some k_ ≠ (u9000_ : Value).ownBlock ∧ k_ ≠ gb307) s_.2.2 y317) ∧ (Kd.R k39 39 w' w0.heap.size (fun k_ => (P1_ k_ ∨ w.heap.size ≤ k_) ∧ some k_ ≠ (s_.2.1 : Value).ownBlock ∧ some k_ ≠ (s_.2.2 : Value).ownBlock ∧ k_ ≠ gb307) u9000_ l1) ∧ (w'.heap[gb307]? = some (.cells #[.int .i64 1, .int .i64 (wrap64 (1 + t276)), .int .i64 a3, .int .i64 0, .int .i64 0, .int .i64 0] 39 (0, 0))) ∧ (IsS58 w0 w' g s0_0 t309 t310) ∧ (Kept w w' (fun k_ => (P1_ k_) ∨ k_ = g)) ∧ (Below w0.heap.size w0 w')) ?_ ?_
       rotate_left
       ·intro hCont
        refine two_ (i := 0) (j := 4) (Ni := some 67) (Nj := some 71) #[true, true, false, true, false, false, false] #[false, true, false, true, true, false, false] rfl rfl rfl rfl (by kernel_rfl) (by decide) (by decide) (fun K hK => ?_) (fun K hK => ?_)
        ·skip
         refine Kd.R_lit_step k39 _ 39 ?hg (N := 67) ?hd (xs := ([] : List (S39))) (inner := []) (ok := fun _ => True) (okp := fun _ => True) ?hr ?hp (fun _ hk => hk) trivial (Below.refl _ _) (Nat.le_refl _) (by simp) ?_; (case hd => rfl); (case hg => rfl); (case hr => (go_simp; done)); (case hp => exact (Reps.none _ _))
         intro v312 w52 ho53 hb hg_ hnew_
         clear hg_ hnew_
         (rw [← Ny311.out] at ho53)
         have n0_ := am (Kd.R_elder' (by exact sR <| HO_1.out) (Kd.R_base ho53) hb)
         have n1_ := am (Kd.R_lower (Kd.R_newB (Kd.R_new' (Kd.R_newM (M := fun k_ => (P1_ k_ ∨ w.heap.size ≤ k_)) ho53 (by exact HK.out.1) (fun k_ h_ => .inr h_)) (Kd.R_lt (by exact sR <| HO_1.out))) (g := gb307) (o := .cells #[.int .i64 1, .int .i64 (wrap64 (1 + t276)), .int .i64 a3, .int .i64 0, .int .i64 0, .int .i64 0] 39 (0, 0)) (by exact sB <| BK307.out)) (below_size (by exact bIsS58)))
         have n2_ := am (IsS58.below (by exact sIsS58) hb)
         have n3_ := am (blk_below (g := gb307) (o := .cells #[.int .i64 1, .int .i64 (wrap64 (1 + t276)), .int .i64 a3, .int .i64 0, .int .i64 0, .int .i64 0] 39 (0, 0)) (by exact sB <| BK307.out) hb)
         have n4_ := am (Kept.below (S := (fun k_ => (P1_ k_) ∨ k_ = g)) (by exact sK HK.out) hb)
         have n5_ := am (below_step (by exact bIsS58) hb)
         clear HO_1
         clear HI0
         clear BK307
         clear HK
         clear HB
         have HO_1 := n0_
         have HO313 := n1_
         have HI0 := n2_
         have BK307 := n3_
         have HK := n4_
         have HB := n5_
         clear n0_ n1_ n2_ n3_ n4_ n5_
         clear hb ho53
         refine hK.out _ _ ⟨(blk_cell BK307.out 0).trans rfl, (blk_cell BK307.out 1).trans rfl, (blk_cell BK307.out 2).trans rfl, (blk_cell BK307.out 3).trans rfl, (blk_cell BK307.out 4).trans rfl, (blk_cell BK307.out 5).trans rfl⟩ (fun hHeld => ?_)
         clear hK K
         refine norm_ (a' := ?_) ?_ ?_
         rotate_left
         ·show Act.put _ (some 67) _ = _
          simp only [Act.put, List.setIfInBounds_toArray, List.set_cons_zero, List.set_cons_succ, i64_w, i32_w]
          rfl
         refine two_ (i := 2) (j := 4) (Ni := some 69) (Nj := some 71) #[true, true, true, true, false, false, false] #[true, true, false, true, true, false, false] rfl rfl rfl rfl (by kernel_rfl) (by decide) (by decide) (fun K hK => ?_) (fun K hK => ?_)
         ·skip
          refine Kd.R_append_rows_step k39 (w0 := w0) w0.heap.size (by rfl) (.tmp 67) (.tmp 68) 26 39 (.agg #[(.int .i64 0), (.int .i64 0), (.int .i64 0), (.int .i64 0), (.int .i64 0), (.int .i64 0)]) 48 rfl Try.underlying26 info39 rfl (by decide) (by omega) v312 y311 l2 _ _ _ (fun k_ => (P1_ k_ ∨ w.heap.size ≤ k_) ∧ some k_ ≠ (u9000_ : Value).ownBlock ∧ k_ ≠ gb307) (fun _ => False) rfl rfl ?aO ?aR (fun _ _ h => h) (fun _ h => h.elim) ?aF ?aB ?aS ?aL ?_
          (case aR => exact Kd.C_kept_now HR2.out (by exact sK HK.out))
          (case aB => exact (by exact bIsS58))
          (case aF => exact (fun k_ hk => ⟨(.inr (Nat.le_trans (by exact HK.out.1) hk)), Kd.fresh' (Kd.R_lt (by exact sR <| HO_1.out)) k_ hk, Kd.freshB (g := gb307) (o := .cells #[.int .i64 1, .int .i64 (wrap64 (1 + t276)), .int .i64 a3, .int .i64 0, .int .i64 0, .int .i64 0] 39 (0, 0)) (by exact sB <| BK307.out) k_ hk⟩))
          (case aO => exact (by exact sR <| Kd.R_mono HO313.out (fun _ hk => ⟨hk.1.1.1, ⟨hk.1.2, hk.2⟩⟩)))
          (case aS => exact (below_size (by exact bIsS58)))
          (case aL => have := LMc42.out; omega)
          intro v315 w54 ho hb hg hat
          rw [← Ny314.out] at ho
          have n0_ := am (Kd.R_after (ok := (fun k_ => (P1_ k_ ∨ w.heap.size ≤ k_) ∧ k_ ≠ gb307)) (by exact sR <| HO_1.out) hg hat)
          have n1_ := am (IsS58.grown (by exact sIsS58) hg (IsS58.own_ne HI0.out HO313.out (by decide)))
          have n2_ := am (blk_grown (g := gb307) (o := .cells #[.int .i64 1, .int .i64 (wrap64 (1 + t276)), .int .i64 a3, .int .i64 0, .int .i64 0, .int .i64 0] 39 (0, 0)) (by exact sB <| BK307.out) hg (Kd.R_away HO313.out (fun _ hk => hk.2)))
          have n3_ := am (hb)
          have n4_ := am (Kept.of_grown (S := (fun k_ => (P1_ k_) ∨ k_ = g)) hg (by exact sK HK.out) (fun k_ e_ => Or.imp_left Or.inl ((HO313.out.1 k_ e_).1.1.1)))
          have n5_ := am (ho)
          clear HO_1
          clear HI0
          clear BK307
          clear HB
          clear HK
          clear HO313
          have HO_1 := n0_
          have HI0 := n1_
          have BK307 := n2_
          have HB := n3_
          have HK := n4_
          have HO316 := n5_
          clear n0_ n1_ n2_ n3_ n4_ n5_
          clear ho hb hg hat
          refine hK.out _ _ ⟨(blk_cell BK307.out 0).trans rfl, (blk_cell BK307.out 1).trans rfl, (blk_cell BK307.out 2).trans rfl, (blk_cell BK307.out 3).trans rfl, (blk_cell BK307.out 4).trans rfl, (blk_cell BK307.out 5).trans rfl⟩ (fun hHeld => ?_)
          clear hK K
          refine norm_ (a' := ?_) ?_ ?_
          rotate_left
          ·show Act.put _ (some 69) _ = _
           simp only [Act.put, List.setIfInBounds_toArray, List.set_cons_zero, List.set_cons_succ, i64_w, i32_w]
           rfl
          refine one_ (i := 4) (N := some 71) #[true, true, true, true, true, false, false] rfl rfl (by kernel_rfl) (by decide) (fun K hK => ?_)
          refine Kd.R_lit_step k39 _ 39 ?hg (N := 71) ?hd (xs := ([(⟨1, wrap64 (1 + t276), a3, 0, 0, 0⟩ : S39)] : List (S39))) (inner := [.int .i64 1, .int .i64 (wrap64 (1 + t276)), .int .i64 a3, .int .i64 0, .int .i64 0, .int .i64 0]) (ok := fun _ => True) (okp := fun _ => True) ?hr ?hp (fun _ hk => hk) trivial (Below.refl _ _) (Nat.le_refl _) (by simp) ?_; (case hd => rfl); (case hg => rfl); (case hr => (go_simp; done)); (case hp => exact (Reps.c6 (show Kd.M k39 _ _ _ (⟨1, wrap64 (1 + t276), a3, 0, 0, 0⟩ : S39) [.int .i64 1, .int .i64 (wrap64 (1 + t276)), .int .i64 a3, .int .i64 0, .int .i64 0, .int .i64 0] from (k39_mkM _ _ _ (⟨1, wrap64 (1 + t276), a3, 0, 0, 0⟩ : S39) )) (Reps.none _ _)))
          intro v318 w55 ho56 hb hg_ hnew_
          clear hg_ hnew_
          (rw [← Ny317.out] at ho56)
          have n0_ := am (Kd.R_elder' (by exact sR <| HO_1.out) (Kd.R_base ho56) hb)
          have n1_ := am (Kd.R_elder' (by exact sR <| HO316.out) (Kd.R_base ho56) hb)
          have n2_ := am (Kd.R_lower (Kd.R_newB (Kd.R_new' (Kd.R_new' (Kd.R_newM (M := fun k_ => (P1_ k_ ∨ w.heap.size ≤ k_)) ho56 (by exact HK.out.1) (fun k_ h_ => .inr h_)) (Kd.R_lt (by exact sR <| HO_1.out))) (Kd.R_lt (by exact sR <| HO316.out))) (g := gb307) (o := .cells #[.int .i64 1, .int .i64 (wrap64 (1 + t276)), .int .i64 a3, .int .i64 0, .int .i64 0, .int .i64 0] 39 (0, 0)) (by exact sB <| BK307.out)) (below_size (by exact bIsS58)))
          have n3_ := am (IsS58.below (by exact sIsS58) hb)
          have n4_ := am (blk_below (g := gb307) (o := .cells #[.int .i64 1, .int .i64 (wrap64 (1 + t276)), .int .i64 a3, .int .i64 0, .int .i64 0, .int .i64 0] 39 (0, 0)) (by exact sB <| BK307.out) hb)
          have n5_ := am (Kept.below (S := (fun k_ => (P1_ k_) ∨ k_ = g)) (by exact sK HK.out) hb)
          have n6_ := am (below_step (by exact bIsS58) hb)
          clear HO_1
          clear HO316
          clear HI0
          clear BK307
          clear HK
          clear HB
          have HO_1 := n0_
          have HO316 := n1_
          have HO319 := n2_
          have HI0 := n3_
          have BK307 := n4_
          have HK := n5_
          have HB := n6_
          clear n0_ n1_ n2_ n3_ n4_ n5_ n6_
          clear hb ho56
          refine hK.out _ _ ⟨(blk_cell BK307.out 0).trans rfl, (blk_cell BK307.out 1).trans rfl, (blk_cell BK307.out 2).trans rfl, (blk_cell BK307.out 3).trans rfl, (blk_cell BK307.out 4).trans rfl, (blk_cell BK307.out 5).trans rfl⟩ (fun hHeld => ?_)
          clear hK K
          refine norm_ (a' := ?_) ?_ ?_
          rotate_left
          ·show Act.put _ (some 71) _ = _
           simp only [Act.put, List.setIfInBounds_toArray, List.set_cons_zero, List.set_cons_succ, i64_w, i32_w]
           rfl
          exact norm_ (by simp only [putAll, Act.put, List.setIfInBounds_toArray, List.set_cons_zero, List.set_cons_succ]) (hCont (v312, v315, v318) _ ⟨hHeld, (by exact sR <| Kd.R_mono HO316.out (fun _ hk => ⟨hk.1.1, ⟨hk.2, ⟨hk.1.2.1, hk.1.2.2⟩⟩⟩)), (by exact sR <| Kd.R_mono HO319.out (fun _ hk => ⟨hk.1.1.1.1, ⟨hk.1.2, ⟨hk.1.1.2, hk.2⟩⟩⟩)), (by exact sR <| Kd.R_mono HO_1.out (fun _ hk => ⟨hk.1.1.1, ⟨hk.1.2, ⟨hk.2, hk.1.1.2⟩⟩⟩)), (by exact sB <| BK307.out), (by exact sIsS58), (by exact sK HK.out), (by exact bIsS58)⟩)
         ·skip
          refine Kd.R_lit_step k39 _ 39 ?hg (N := 71) ?hd (xs := ([(⟨1, wrap64 (1 + t276), a3, 0, 0, 0⟩ : S39)] : List (S39))) (inner := [.int .i64 1, .int .i64 (wrap64 (1 + t276)), .int .i64 a3, .int .i64 0, .int .i64 0, .int .i64 0]) (ok := fun _ => True) (okp := fun _ => True) ?hr ?hp (fun _ hk => hk) trivial (Below.refl _ _) (Nat.le_refl _) (by simp) ?_; (case hd => rfl); (case hg => rfl); (case hr => (go_simp; done)); (case hp => exact (Reps.c6 (show Kd.M k39 _ _ _ (⟨1, wrap64 (1 + t276), a3, 0, 0, 0⟩ : S39) [.int .i64 1, .int .i64 (wrap64 (1 + t276)), .int .i64 a3, .int .i64 0, .int .i64 0, .int .i64 0] from (k39_mkM _ _ _ (⟨1, wrap64 (1 + t276), a3, 0, 0, 0⟩ : S39) )) (Reps.none _ _)))
          intro v318 w54 ho55 hb hg_ hnew_
          clear hg_ hnew_
          (rw [← Ny317.out] at ho55)
          have n0_ := am (Kd.R_elder' (by exact sR <| HO_1.out) (Kd.R_base ho55) hb)
          have n1_ := am (Kd.R_elder' (by exact sR <| HO313.out) (Kd.R_base ho55) hb)
          have n2_ := am (Kd.R_lower (Kd.R_newB (Kd.R_new' (Kd.R_new' (Kd.R_newM (M := fun k_ => (P1_ k_ ∨ w.heap.size ≤ k_)) ho55 (by exact HK.out.1) (fun k_ h_ => .inr h_)) (Kd.R_lt (by exact sR <| HO_1.out))) (Kd.R_lt (by exact sR <| HO313.out))) (g := gb307) (o := .cells #[.int .i64 1, .int .i64 (wrap64 (1 + t276)), .int .i64 a3, .int .i64 0, .int .i64 0, .int .i64 0] 39 (0, 0)) (by exact sB <| BK307.out)) (below_size (by exact bIsS58)))
          have n3_ := am (IsS58.below (by exact sIsS58) hb)
          have n4_ := am (blk_below (g := gb307) (o := .cells #[.int .i64 1, .int .i64 (wrap64 (1 + t276)), .int .i64 a3, .int .i64 0, .int .i64 0, .int .i64 0] 39 (0, 0)) (by exact sB <| BK307.out) hb)
          have n5_ := am (Kept.below (S := (fun k_ => (P1_ k_) ∨ k_ = g)) (by exact sK HK.out) hb)
          have n6_ := am (below_step (by exact bIsS58) hb)
          clear HO_1
          clear HO313
          clear HI0
          clear BK307
          clear HK
          clear HB
          have HO_1 := n0_
          have HO313 := n1_
          have HO319 := n2_
          have HI0 := n3_
          have BK307 := n4_
          have HK := n5_
          have HB := n6_
          clear n0_ n1_ n2_ n3_ n4_ n5_ n6_
          clear hb ho55
          refine hK.out _ _ ⟨(blk_cell BK307.out 0).trans rfl, (blk_cell BK307.out 1).trans rfl, (blk_cell BK307.out 2).trans rfl, (blk_cell BK307.out 3).trans rfl, (blk_cell BK307.out 4).trans rfl, (blk_cell BK307.out 5).trans rfl⟩ (fun hHeld => ?_)
          clear hK K
          refine norm_ (a' := ?_) ?_ ?_
          rotate_left
          ·show Act.put _ (some 71) _ = _
           simp only [Act.put, List.setIfInBounds_toArray, List.set_cons_zero, List.set_cons_succ, i64_w, i32_w]
           rfl
          refine one_ (i := 2) (N := some 69) #[true, true, true, true, true, false, false] rfl rfl (by kernel_rfl) (by decide) (fun K hK => ?_)
          refine Kd.R_append_rows_step k39 (w0 := w0) w0.heap.size (by rfl) (.tmp 67) (.tmp 68) 26 39 (.agg #[(.int .i64 0), (.int .i64 0), (.int .i64 0), (.int .i64 0), (.int .i64 0), (.int .i64 0)]) 48 rfl Try.underlying26 info39 rfl (by decide) (by omega) v312 y311 l2 _ _ _ (fun k_ => (P1_ k_ ∨ w.heap.size ≤ k_) ∧ some k_ ≠ (u9000_ : Value).ownBlock ∧ some k_ ≠ (v318 : Value).ownBlock ∧ k_ ≠ gb307) (fun _ => False) rfl rfl ?aO ?aR (fun _ _ h => h) (fun _ h => h.elim) ?aF ?aB ?aS ?aL ?_
          (case aR => exact Kd.C_kept_now HR2.out (by exact sK HK.out))
          (case aB => exact (by exact bIsS58))
          (case aF => exact (fun k_ hk => ⟨(.inr (Nat.le_trans (by exact HK.out.1) hk)), Kd.fresh' (Kd.R_lt (by exact sR <| HO_1.out)) k_ hk, Kd.fresh' (Kd.R_lt (by exact sR <| HO319.out)) k_ hk, Kd.freshB (g := gb307) (o := .cells #[.int .i64 1, .int .i64 (wrap64 (1 + t276)), .int .i64 a3, .int .i64 0, .int .i64 0, .int .i64 0] 39 (0, 0)) (by exact sB <| BK307.out) k_ hk⟩))
          (case aO => exact (by exact sR <| Kd.R_mono HO313.out (fun _ hk => ⟨hk.1.1.1.1, ⟨hk.1.1.2, ⟨hk.2, hk.1.2⟩⟩⟩)))
          (case aS => exact (below_size (by exact bIsS58)))
          (case aL => have := LMc42.out; omega)
          intro v315 w56 ho hb hg hat
          rw [← Ny314.out] at ho
          have n0_ := am (Kd.R_after (ok := (fun k_ => (P1_ k_ ∨ w.heap.size ≤ k_) ∧ some k_ ≠ (v318 : Value).ownBlock ∧ k_ ≠ gb307)) (by exact sR <| Kd.R_mono HO_1.out (fun _ hk => ⟨⟨hk.1.1.1, ⟨hk.2, hk.1.1.2⟩⟩, hk.1.2⟩)) hg hat)
          have n1_ := am (IsS58.grown (by exact sIsS58) hg (IsS58.own_ne HI0.out HO313.out (by decide)))
          have n2_ := am (blk_grown (g := gb307) (o := .cells #[.int .i64 1, .int .i64 (wrap64 (1 + t276)), .int .i64 a3, .int .i64 0, .int .i64 0, .int .i64 0] 39 (0, 0)) (by exact sB <| BK307.out) hg (Kd.R_away HO313.out (fun _ hk => hk.1.2)))
          have n3_ := am (Kd.R_after (ok := (fun k_ => (P1_ k_ ∨ w.heap.size ≤ k_) ∧ some k_ ≠ (u9000_ : Value).ownBlock ∧ k_ ≠ gb307)) (by exact sR <| Kd.R_mono HO319.out (fun _ hk => ⟨⟨hk.1.1.1.1, ⟨hk.1.1.2, hk.2⟩⟩, hk.1.2⟩)) hg hat)
          have n4_ := am (hb)
          have n5_ := am (Kept.of_grown (S := (fun k_ => (P1_ k_) ∨ k_ = g)) hg (by exact sK HK.out) (fun k_ e_ => Or.imp_left Or.inl ((HO313.out.1 k_ e_).1.1.1.1)))
          have n6_ := am (ho)
          clear HO_1
          clear HI0
          clear BK307
          clear HO319
          clear HB
          clear HK
          clear HO313
          have HO_1 := n0_
          have HI0 := n1_
          have BK307 := n2_
          have HO319 := n3_
          have HB := n4_
          have HK := n5_
          have HO316 := n6_
          clear n0_ n1_ n2_ n3_ n4_ n5_ n6_
          clear ho hb hg hat
          refine hK.out _ _ ⟨(blk_cell BK307.out 0).trans rfl, (blk_cell BK307.out 1).trans rfl, (blk_cell BK307.out 2).trans rfl, (blk_cell BK307.out 3).trans rfl, (blk_cell BK307.out 4).trans rfl, (blk_cell BK307.out 5).trans rfl⟩ (fun hHeld => ?_)
          clear hK K
          refine norm_ (a' := ?_) ?_ ?_
          rotate_left
          ·show Act.put _ (some 69) _ = _
           simp only [Act.put, List.setIfInBounds_toArray, List.set_cons_zero, List.set_cons_succ, i64_w, i32_w]
           rfl
          exact norm_ (by simp only [putAll, Act.put, List.setIfInBounds_toArray, List.set_cons_zero, List.set_cons_succ]) (hCont (v312, v315, v318) _ ⟨hHeld, (by exact sR <| Kd.R_mono HO316.out (fun _ hk => ⟨hk.1, ⟨hk.2.2.1, ⟨hk.2.1, hk.2.2.2⟩⟩⟩)), (by exact sR <| Kd.R_mono HO319.out (fun _ hk => ⟨hk.1.1, ⟨hk.2, ⟨hk.1.2.1, hk.1.2.2⟩⟩⟩)), (by exact sR <| Kd.R_mono HO_1.out (fun _ hk => ⟨hk.1.1, ⟨hk.2, ⟨hk.1.2.1, hk.1.2.2⟩⟩⟩)), (by exact sB <| BK307.out), (by exact sIsS58), (by exact sK HK.out), (by exact bIsS58)⟩)
        ·skip
         refine Kd.R_lit_step k39 _ 39 ?hg (N := 71) ?hd (xs := ([(⟨1, wrap64 (1 + t276), a3, 0, 0, 0⟩ : S39)] : List (S39))) (inner := [.int .i64 1, .int .i64 (wrap64 (1 + t276)), .int .i64 a3, .int .i64 0, .int .i64 0, .int .i64 0]) (ok := fun _ => True) (okp := fun _ => True) ?hr ?hp (fun _ hk => hk) trivial (Below.refl _ _) (Nat.le_refl _) (by simp) ?_; (case hd => rfl); (case hg => rfl); (case hr => (go_simp; done)); (case hp => exact (Reps.c6 (show Kd.M k39 _ _ _ (⟨1, wrap64 (1 + t276), a3, 0, 0, 0⟩ : S39) [.int .i64 1, .int .i64 (wrap64 (1 + t276)), .int .i64 a3, .int .i64 0, .int .i64 0, .int .i64 0] from (k39_mkM _ _ _ (⟨1, wrap64 (1 + t276), a3, 0, 0, 0⟩ : S39) )) (Reps.none _ _)))
         intro v318 w52 ho53 hb hg_ hnew_
         clear hg_ hnew_
         (rw [← Ny317.out] at ho53)
         have n0_ := am (Kd.R_elder' (by exact sR <| HO_1.out) (Kd.R_base ho53) hb)
         have n1_ := am (Kd.R_lower (Kd.R_newB (Kd.R_new' (Kd.R_newM (M := fun k_ => (P1_ k_ ∨ w.heap.size ≤ k_)) ho53 (by exact HK.out.1) (fun k_ h_ => .inr h_)) (Kd.R_lt (by exact sR <| HO_1.out))) (g := gb307) (o := .cells #[.int .i64 1, .int .i64 (wrap64 (1 + t276)), .int .i64 a3, .int .i64 0, .int .i64 0, .int .i64 0] 39 (0, 0)) (by exact sB <| BK307.out)) (below_size (by exact bIsS58)))
         have n2_ := am (IsS58.below (by exact sIsS58) hb)
         have n3_ := am (blk_below (g := gb307) (o := .cells #[.int .i64 1, .int .i64 (wrap64 (1 + t276)), .int .i64 a3, .int .i64 0, .int .i64 0, .int .i64 0] 39 (0, 0)) (by exact sB <| BK307.out) hb)
         have n4_ := am (Kept.below (S := (fun k_ => (P1_ k_) ∨ k_ = g)) (by exact sK HK.out) hb)
         have n5_ := am (below_step (by exact bIsS58) hb)
         clear HO_1
         clear HI0
         clear BK307
         clear HK
         clear HB
         have HO_1 := n0_
         have HO319 := n1_
         have HI0 := n2_
         have BK307 := n3_
         have HK := n4_
         have HB := n5_
         clear n0_ n1_ n2_ n3_ n4_ n5_
         clear hb ho53
         refine hK.out _ _ ⟨(blk_cell BK307.out 0).trans rfl, (blk_cell BK307.out 1).trans rfl, (blk_cell BK307.out 2).trans rfl, (blk_cell BK307.out 3).trans rfl, (blk_cell BK307.out 4).trans rfl, (blk_cell BK307.out 5).trans rfl⟩ (fun hHeld => ?_)
         clear hK K
         refine norm_ (a' := ?_) ?_ ?_
         rotate_left
         ·show Act.put _ (some 71) _ = _
          simp only [Act.put, List.setIfInBounds_toArray, List.set_cons_zero, List.set_cons_succ, i64_w, i32_w]
          rfl
         refine one_ (i := 0) (N := some 67) #[true, true, false, true, true, false, false] rfl rfl (by kernel_rfl) (by decide) (fun K hK => ?_)
         refine Kd.R_lit_step k39 _ 39 ?hg (N := 67) ?hd (xs := ([] : List (S39))) (inner := []) (ok := fun _ => True) (okp := fun _ => True) ?hr ?hp (fun _ hk => hk) trivial (Below.refl _ _) (Nat.le_refl _) (by simp) ?_; (case hd => rfl); (case hg => rfl); (case hr => (go_simp; done)); (case hp => exact (Reps.none _ _))
         intro v312 w54 ho55 hb hg_ hnew_
         clear hg_ hnew_
         (rw [← Ny311.out] at ho55)
         have n0_ := am (Kd.R_elder' (by exact sR <| HO_1.out) (Kd.R_base ho55) hb)
         have n1_ := am (Kd.R_elder' (by exact sR <| HO319.out) (Kd.R_base ho55) hb)
         have n2_ := am (Kd.R_lower (Kd.R_newB (Kd.R_new' (Kd.R_new' (Kd.R_newM (M := fun k_ => (P1_ k_ ∨ w.heap.size ≤ k_)) ho55 (by exact HK.out.1) (fun k_ h_ => .inr h_)) (Kd.R_lt (by exact sR <| HO_1.out))) (Kd.R_lt (by exact sR <| HO319.out))) (g := gb307) (o := .cells #[.int .i64 1, .int .i64 (wrap64 (1 + t276)), .int .i64 a3, .int .i64 0, .int .i64 0, .int .i64 0] 39 (0, 0)) (by exact sB <| BK307.out)) (below_size (by exact bIsS58)))
         have n3_ := am (IsS58.below (by exact sIsS58) hb)
         have n4_ := am (blk_below (g := gb307) (o := .cells #[.int .i64 1, .int .i64 (wrap64 (1 + t276)), .int .i64 a3, .int .i64 0, .int .i64 0, .int .i64 0] 39 (0, 0)) (by exact sB <| BK307.out) hb)
         have n5_ := am (Kept.below (S := (fun k_ => (P1_ k_) ∨ k_ = g)) (by exact sK HK.out) hb)
         have n6_ := am (below_step (by exact bIsS58) hb)
         clear HO_1
         clear HO319
         clear HI0
         clear BK307
         clear HK
         clear HB
         have HO_1 := n0_
         have HO319 := n1_
         have HO313 := n2_
         have HI0 := n3_
         have BK307 := n4_
         have HK := n5_
         have HB := n6_
         clear n0_ n1_ n2_ n3_ n4_ n5_ n6_
         clear hb ho55
         refine hK.out _ _ ⟨(blk_cell BK307.out 0).trans rfl, (blk_cell BK307.out 1).trans rfl, (blk_cell BK307.out 2).trans rfl, (blk_cell BK307.out 3).trans rfl, (blk_cell BK307.out 4).trans rfl, (blk_cell BK307.out 5).trans rfl⟩ (fun hHeld => ?_)
         clear hK K
         refine norm_ (a' := ?_) ?_ ?_
         rotate_left
         ·show Act.put _ (some 67) _ = _
          simp only [Act.put, List.setIfInBounds_toArray, List.set_cons_zero, List.set_cons_succ, i64_w, i32_w]
          rfl
         refine one_ (i := 2) (N := some 69) #[true, true, true, true, true, false, false] rfl rfl (by kernel_rfl) (by decide) (fun K hK => ?_)
         refine Kd.R_append_rows_step k39 (w0 := w0) w0.heap.size (by rfl) (.tmp 67) (.tmp 68) 26 39 (.agg #[(.int .i64 0), (.int .i64 0), (.int .i64 0), (.int .i64 0), (.int .i64 0), (.int .i64 0)]) 48 rfl Try.underlying26 info39 rfl (by decide) (by omega) v312 y311 l2 _ _ _ (fun k_ => (P1_ k_ ∨ w.heap.size ≤ k_) ∧ some k_ ≠ (u9000_ : Value).ownBlock ∧ some k_ ≠ (v318 : Value).ownBlock ∧ k_ ≠ gb307) (fun _ => False) rfl rfl ?aO ?aR (fun _ _ h => h) (fun _ h => h.elim) ?aF ?aB ?aS ?aL ?_
         (case aR => exact Kd.C_kept_now HR2.out (by exact sK HK.out))
         (case aB => exact (by exact bIsS58))
         (case aF => exact (fun k_ hk => ⟨(.inr (Nat.le_trans (by exact HK.out.1) hk)), Kd.fresh' (Kd.R_lt (by exact sR <| HO_1.out)) k_ hk, Kd.fresh' (Kd.R_lt (by exact sR <| HO319.out)) k_ hk, Kd.freshB (g := gb307) (o := .cells #[.int .i64 1, .int .i64 (wrap64 (1 + t276)), .int .i64 a3, .int .i64 0, .int .i64 0, .int .i64 0] 39 (0, 0)) (by exact sB <| BK307.out) k_ hk⟩))
         (case aO => exact (by exact sR <| Kd.R_mono HO313.out (fun _ hk => ⟨hk.1.1.1.1, ⟨hk.1.1.2, ⟨hk.1.2, hk.2⟩⟩⟩)))
         (case aS => exact (below_size (by exact bIsS58)))
         (case aL => have := LMc42.out; omega)
         intro v315 w56 ho hb hg hat
         rw [← Ny314.out] at ho
         have n0_ := am (Kd.R_after (ok := (fun k_ => (P1_ k_ ∨ w.heap.size ≤ k_) ∧ some k_ ≠ (v318 : Value).ownBlock ∧ k_ ≠ gb307)) (by exact sR <| Kd.R_mono HO_1.out (fun _ hk => ⟨⟨hk.1.1.1, ⟨hk.1.2, hk.1.1.2⟩⟩, hk.2⟩)) hg hat)
         have n1_ := am (IsS58.grown (by exact sIsS58) hg (IsS58.own_ne HI0.out HO313.out (by decide)))
         have n2_ := am (blk_grown (g := gb307) (o := .cells #[.int .i64 1, .int .i64 (wrap64 (1 + t276)), .int .i64 a3, .int .i64 0, .int .i64 0, .int .i64 0] 39 (0, 0)) (by exact sB <| BK307.out) hg (Kd.R_away HO313.out (fun _ hk => hk.2)))
         have n3_ := am (Kd.R_after (ok := (fun k_ => (P1_ k_ ∨ w.heap.size ≤ k_) ∧ some k_ ≠ (u9000_ : Value).ownBlock ∧ k_ ≠ gb307)) (by exact sR <| Kd.R_mono HO319.out (fun _ hk => ⟨⟨hk.1.1.1.1, ⟨hk.1.1.2, hk.1.2⟩⟩, hk.2⟩)) hg hat)
         have n4_ := am (hb)
         have n5_ := am (Kept.of_grown (S := (fun k_ => (P1_ k_) ∨ k_ = g)) hg (by exact sK HK.out) (fun k_ e_ => Or.imp_left Or.inl ((HO313.out.1 k_ e_).1.1.1.1)))
         have n6_ := am (ho)
         clear HO_1
         clear HI0
         clear BK307
         clear HO319
         clear HB
         clear HK
         clear HO313
         have HO_1 := n0_
         have HI0 := n1_
         have BK307 := n2_
         have HO319 := n3_
         have HB := n4_
         have HK := n5_
         have HO316 := n6_
         clear n0_ n1_ n2_ n3_ n4_ n5_ n6_
         clear ho hb hg hat
         refine hK.out _ _ ⟨(blk_cell BK307.out 0).trans rfl, (blk_cell BK307.out 1).trans rfl, (blk_cell BK307.out 2).trans rfl, (blk_cell BK307.out 3).trans rfl, (blk_cell BK307.out 4).trans rfl, (blk_cell BK307.out 5).trans rfl⟩ (fun hHeld => ?_)
         clear hK K
         refine norm_ (a' := ?_) ?_ ?_
         rotate_left
         ·show Act.put _ (some 69) _ = _
          simp only [Act.put, List.setIfInBounds_toArray, List.set_cons_zero, List.set_cons_succ, i64_w, i32_w]
          rfl
         exact norm_ (by simp only [putAll, Act.put, List.setIfInBounds_toArray, List.set_cons_zero, List.set_cons_succ]) (hCont (v312, v315, v318) _ ⟨hHeld, (by exact sR <| Kd.R_mono HO316.out (fun _ hk => ⟨hk.1, ⟨hk.2.2.1, ⟨hk.2.1, hk.2.2.2⟩⟩⟩)), (by exact sR <| Kd.R_mono HO319.out (fun _ hk => ⟨hk.1.1, ⟨hk.2, ⟨hk.1.2.1, hk.1.2.2⟩⟩⟩)), (by exact sR <| Kd.R_mono HO_1.out (fun _ hk => ⟨hk.1.1, ⟨hk.2, ⟨hk.1.2.1, hk.1.2.2⟩⟩⟩)), (by exact sB <| BK307.out), (by exact sIsS58), (by exact sK HK.out), (by exact bIsS58)⟩)
       rintro ⟨v312, v315, v318⟩ w57 ⟨hS_, h0_, h1_, h2_, h3_, h4_, h5_, h6_⟩
       have n0_ : Aside0 (Kd.R k39 39 w57 w0.heap.size (fun k_ => (P1_ k_ ∨ w.heap.size ≤ k_) ∧ some k_ ≠ (v318 : Value).ownBlock ∧ some k_ ≠ (u9000_ : Value).ownBlock ∧ k_ ≠ gb307) v315 y314) := ⟨h0_⟩
       have n1_ : Aside0 (Kd.R k39 39 w57 w0.heap.size (fun k_ => (P1_ k_ ∨ w.heap.size ≤ k_) ∧ some k_ ≠ (v315 : Value).ownBlock ∧ some k_ ≠ (u9000_ : Value).ownBlock ∧ k_ ≠ gb307) v318 y317) := ⟨h1_⟩
       have n2_ : Aside0 (Kd.R k39 39 w57 w0.heap.size (fun k_ => (P1_ k_ ∨ w.heap.size ≤ k_) ∧ some k_ ≠ (v315 : Value).ownBlock ∧ some k_ ≠ (v318 : Value).ownBlock ∧ k_ ≠ gb307) u9000_ l1) := ⟨h2_⟩
       have n3_ : Aside0 (w57.heap[gb307]? = some (.cells #[.int .i64 1, .int .i64 (wrap64 (1 + t276)), .int .i64 a3, .int .i64 0, .int .i64 0, .int .i64 0] 39 (0, 0))) := ⟨h3_⟩
       have n4_ : Aside0 (IsS58 w0 w57 g s0_0 t309 t310) := ⟨h4_⟩
       have n5_ : Aside0 (Kept w w57 (fun k_ => (P1_ k_) ∨ k_ = g)) := ⟨h5_⟩
       have n6_ : Aside0 (Below w0.heap.size w0 w57) := ⟨h6_⟩
       clear HO_1
       clear BK307
       clear HI0
       clear HK
       clear HB
       clear h0_ h1_ h2_ h3_ h4_ h5_ h6_
       have HO316 := n0_
       have HO319 := n1_
       have HO_1 := n2_
       have BK307 := n3_
       have HI0 := n4_
       have HK := n5_
       have HB := n6_
       clear n0_ n1_ n2_ n3_ n4_ n5_ n6_
       have hHeld : w57.cell? ⟨gb307, 0, none⟩ = some (.int .i64 1) ∧ w57.cell? ⟨gb307, 1, none⟩ = some (.int .i64 (wrap64 (1 + t276))) ∧ w57.cell? ⟨gb307, 2, none⟩ = some (.int .i64 a3) ∧ w57.cell? ⟨gb307, 3, none⟩ = some (.int .i64 0) ∧ w57.cell? ⟨gb307, 4, none⟩ = some (.int .i64 0) ∧ w57.cell? ⟨gb307, 5, none⟩ = some (.int .i64 0) := hS_
       obtain ⟨Ao59, co59, eo59⟩ := Kd.R_slice HO319.out
       (subst eo59)
       refine norm_ (a' := ?_) ?_ ?_
       rotate_left
       ·simp only [putAll, Act.put, List.setIfInBounds_toArray, List.set_cons_zero, List.set_cons_succ]
        rfl
       refine one_ (i := 5) (N := some 72) #[true, true, true, true, true, true, false] rfl rfl (by kernel_rfl) (by decide) (fun K hK => ?_)
       refine Kd.R_append_rows_step k39 (w0 := w0) w0.heap.size (by rfl) (.tmp 69) (.tmp 71) 26 39 (.agg #[(.int .i64 0), (.int .i64 0), (.int .i64 0), (.int .i64 0), (.int .i64 0), (.int .i64 0)]) 48 rfl Try.underlying26 info39 rfl (by decide) (by omega) v315 y314 y317 _ _ _ (fun k_ => (P1_ k_ ∨ w.heap.size ≤ k_) ∧ some k_ ≠ (u9000_ : Value).ownBlock ∧ some k_ ≠ (.slice Ao59 y317.length co59 : Value).ownBlock ∧ k_ ≠ gb307) (fun _ => False) rfl rfl ?aO ?aR (fun _ _ h => h) (fun _ h => h.elim) ?aF ?aB ?aS ?aL ?_
       (case aR => exact sC (Kd.R_reads' HO319.out).2.2)
       (case aB => exact (by exact bIsS58))
       (case aF => exact (fun k_ hk => ⟨(.inr (Nat.le_trans (by exact HK.out.1) hk)), Kd.fresh' (Kd.R_lt (by exact sR <| HO_1.out)) k_ hk, Kd.fresh' (Kd.R_lt (by exact sR <| HO319.out)) k_ hk, Kd.freshB (g := gb307) (o := .cells #[.int .i64 1, .int .i64 (wrap64 (1 + t276)), .int .i64 a3, .int .i64 0, .int .i64 0, .int .i64 0] 39 (0, 0)) (by exact sB <| BK307.out) k_ hk⟩))
       (case aO => exact (by exact sR <| Kd.R_mono HO316.out (fun _ hk => ⟨hk.1, ⟨hk.2.2.1, ⟨hk.2.1, hk.2.2.2⟩⟩⟩)))
       (case aS => exact (below_size (by exact bIsS58)))
       (case aL => have := LMc43.out; omega)
       intro v321 w58 ho hb hg hat
       rw [← Ny320.out] at ho
       have n0_ := am (Kd.R_after (ok := (fun k_ => (P1_ k_ ∨ w.heap.size ≤ k_) ∧ some k_ ≠ (.slice Ao59 y317.length co59 : Value).ownBlock ∧ k_ ≠ gb307)) (by exact sR <| Kd.R_mono HO_1.out (fun _ hk => ⟨⟨hk.1, ⟨hk.2.2.1, hk.2.2.2⟩⟩, hk.2.1⟩)) hg hat)
       have n1_ := am (IsS58.grown (by exact sIsS58) hg (IsS58.own_ne HI0.out HO316.out (by decide)))
       have n2_ := am (blk_grown (g := gb307) (o := .cells #[.int .i64 1, .int .i64 (wrap64 (1 + t276)), .int .i64 a3, .int .i64 0, .int .i64 0, .int .i64 0] 39 (0, 0)) (by exact sB <| BK307.out) hg (Kd.R_away HO316.out (fun _ hk => hk.2.2.2)))
       have n3_ := am (Kd.R_after (ok := (fun k_ => (P1_ k_ ∨ w.heap.size ≤ k_) ∧ some k_ ≠ (u9000_ : Value).ownBlock ∧ k_ ≠ gb307)) (by exact sR <| Kd.R_mono HO319.out (fun _ hk => ⟨⟨hk.1, ⟨hk.2.2.1, hk.2.2.2⟩⟩, hk.2.1⟩)) hg hat)
       have n4_ := am (hb)
       have n5_ := am (Kept.of_grown (S := (fun k_ => (P1_ k_) ∨ k_ = g)) hg (by exact sK HK.out) (fun k_ e_ => Or.imp_left Or.inl ((HO316.out.1 k_ e_).1)))
       have n6_ := am (ho)
       clear HO_1
       clear HI0
       clear BK307
       clear HO319
       clear HB
       clear HK
       clear HO316
       have HO_1 := n0_
       have HI0 := n1_
       have BK307 := n2_
       have HO319 := n3_
       have HB := n4_
       have HK := n5_
       have HO322 := n6_
       clear n0_ n1_ n2_ n3_ n4_ n5_ n6_
       clear ho hb hg hat
       refine hK.out _ _ ⟨(blk_cell BK307.out 0).trans rfl, (blk_cell BK307.out 1).trans rfl, (blk_cell BK307.out 2).trans rfl, (blk_cell BK307.out 3).trans rfl, (blk_cell BK307.out 4).trans rfl, (blk_cell BK307.out 5).trans rfl⟩ (fun hHeld => ?_)
       clear hK K
       refine norm_ (a' := ?_) ?_ ?_
       rotate_left
       ·show Act.put _ (some 72) _ = _
        simp only [Act.put, List.setIfInBounds_toArray, List.set_cons_zero, List.set_cons_succ, i64_w, i32_w]
        rfl
       refine pS (i := 6) (N := some 19) #[true, true, true, true, true, true, true] ?_
       refine done_ (by kernel_rfl) ?_
       obtain ⟨Ao60, co60, eo60⟩ := Kd.R_slice HO_1.out
       subst eo60
       obtain ⟨Ao61, co61, eo61⟩ := Kd.R_slice HO322.out
       subst eo61
       try go_wp2_with (first | ((with_reducible refine gate_callee (f := 56) rfl ?_); refine goesL_ (some 84) rfl rfl Try.func56 (by kernel_rfl) rfl #[.pointer (some ⟨g, 0, none⟩), .slice Ao60 l1.length co60, .slice Ao61 y320.length co61, .int .i64 (wrap64 (a3 + 1)), .int .i64 (wrap64 (a4 - (wrap64 (1 + t276)))), .int .i64 (wrap64 (a5 - 1))] rfl tm ?_; (with_reducible refine (ih kj6 (by have := HJ6.out; omega) g s0_0 t309 t310 (fun k_ => some k_ = (.slice Ao60 l1.length co60 : Value).ownBlock) (.slice Ao60 l1.length co60) l1 _ _ y320 (wrap64 (a3 + 1)) (wrap64 (a4 - (wrap64 (1 + t276)))) (wrap64 (a5 - 1)) t323 t326 t327 t328 t329 t330 w0 _ ?side1 ?side2 ?side3 ?side4 ?side5 A44.out).mono ?_); (case side1 => exact sIsS58); (case side2 => exact bIsS58); (case side3 => exact Kd.R_tight rfl HO_1.out); (case side4 => exact Kd.C_kept_own ((IsS58.apart HI0.out HO322.out (by decide))) (fun k_ hk_ hs_ => Or.elim hs_ (fun hs_ => (hk_.1.2.1) hs_) (fun e_ => (hk_.2) e_))); (case side5 => exact (Kd.R_reads' HO322.out).2.1); rintro e w62 ⟨v324, rfl, ho0, hi, hb, hkp⟩; refine ⟨_, rfl, ?_⟩; have n0_ := am (hi); have n1_ := am (blk_kept (by exact sB <| BK307.out) hkp (fun hs_ => Or.elim hs_ (fun hs_ => (fun e_ => (Kd.R_away HO_1.out (fun _ hk => hk.1.2.2)) e_) hs_) (fun e_ => NB307_0.out e_))); have n2_ := am (Kd.R_mono (ok' := fun k_ => (P1_ k_ ∨ w.heap.size ≤ k_) ∧ some k_ ≠ (.slice Ao61 y320.length co61 : Value).ownBlock ∧ k_ ≠ gb307 ∧ some k_ ≠ (v324 : Value).ownBlock) (Kd.R_keptB ((IsS58.apart HI0.out HO319.out (by decide))) hkp (fun k_ hk_ hs_ => Or.elim hs_ (fun hs_ => (hk_.1.1.2.1) hs_) (fun e_ => (hk_.2) e_))) (fun k_ hk_ => ⟨hk_.1.1.1.1, hk_.1.1.2, hk_.1.1.1.2.2, fun e_ => Or.elim (ho0.1 k_ e_.symm) (fun hs_ => hk_.2.1 (by exact .inl hs_)) (fun hn_ => Nat.not_le.2 hk_.2.2 hn_)⟩)); have n3_ := am (Kd.R_mono (ok' := fun k_ => (P1_ k_ ∨ w.heap.size ≤ k_) ∧ some k_ ≠ (.slice Ao59 y317.length co59 : Value).ownBlock ∧ k_ ≠ gb307 ∧ some k_ ≠ (v324 : Value).ownBlock) (Kd.R_keptB ((IsS58.apart HI0.out HO322.out (by decide))) hkp (fun k_ hk_ hs_ => Or.elim hs_ (fun hs_ => (hk_.1.2.1) hs_) (fun e_ => (hk_.2) e_))) (fun k_ hk_ => ⟨hk_.1.1.1, hk_.1.1.2.2.1, hk_.1.1.2.2.2, fun e_ => Or.elim (ho0.1 k_ e_.symm) (fun hs_ => hk_.2.1 (by exact .inl hs_)) (fun hn_ => Nat.not_le.2 hk_.2.2 hn_)⟩)); have n4_ := am (Kd.R_mono (ok' := fun k_ => (P1_ k_ ∨ w.heap.size ≤ k_) ∧ some k_ ≠ (.slice Ao59 y317.length co59 : Value).ownBlock ∧ some k_ ≠ (.slice Ao61 y320.length co61 : Value).ownBlock ∧ k_ ≠ gb307) ho0 (fun k_ hk_ => ⟨Or.elim hk_ (fun hs_ => (HO_1.out.1 k_ (hs_).symm).1.1) (fun hn_ => (.inr (Nat.le_trans (by exact HK.out.1) hn_))), Or.elim hk_ (fun hs_ => fun e_ => ((((IsS58.apart HI0.out HO319.out (by decide))).1 k_ e_.symm).1.1.2.1) hs_) (fun hn_ => (Kd.fresh' (Kd.R_lt (by exact sR <| HO319.out)) k_ hn_)), Or.elim hk_ (fun hs_ => fun e_ => ((((IsS58.apart HI0.out HO322.out (by decide))).1 k_ e_.symm).1.2.1) hs_) (fun hn_ => (Kd.fresh' (Kd.R_lt (by exact sR <| HO322.out)) k_ hn_)), Or.elim hk_ (fun hs_ => fun e_ => (Kd.R_away HO_1.out (fun _ hk => hk.1.2.2)) (by rw [← e_]; exact hs_)) (fun hn_ => (Kd.freshB (g := gb307) (o := .cells #[.int .i64 1, .int .i64 (wrap64 (1 + t276)), .int .i64 a3, .int .i64 0, .int .i64 0, .int .i64 0] 39 (0, 0)) (by exact sB <| BK307.out) k_ hn_))⟩)); have n5_ := am (Kept.then_ (S := (fun k_ => (P1_ k_) ∨ k_ = g)) (by exact sK HK.out) hkp (fun k_ hs_ => Or.elim hs_ (fun hs_ => (fun e_ => Or.imp_left Or.inl ((HO_1.out.1 k_ e_.symm).1.1)) hs_) (fun e_ => .inl (.inr e_)))); have n6_ := am (hb); clear HI0; clear BK307; clear HO319; clear HO322; clear HK; clear HB; clear HO_1; have HI0 := n0_; have BK307 := n1_; have HO319 := n2_; have HO322 := n3_; have HO325 := n4_; have HK := n5_; have HB := n6_; clear n0_ n1_ n2_ n3_ n4_ n5_ n6_; (try clear hb); (try clear hkp); (try clear ho0); obtain ⟨hcz63_0, hcz63_1, hcz63_2, hcz63_3, hcz63_4, hcz63_5⟩ := cz6 BK307.out; obtain ⟨hfz63_0, hfz63_1, hfz63_2, hfz63_3, hfz63_4, hfz63_5⟩ := fz6 BK307.out; obtain ⟨Ao64, co64, eo64⟩ := Kd.R_slice HO325.out; subst eo64) | ((with_reducible refine gate_callee (f := 58) rfl ?_); refine goesL_ (some 97) rfl rfl Try.func58 (by kernel_rfl) rfl #[.slice Ao64 t323.length co64, .agg #[.int .i64 (wrap64 (19 + t308)), .int .i64 1, .int .i64 a3, .int .i64 t326, .int .i64 (wrap64 (1 + t276)), .int .i64 0]] rfl tm ?_; (with_reducible refine (spec_l02Push.calls (fun k_ => some k_ = (.slice Ao64 t323.length co64 : Value).ownBlock) (.slice Ao64 t323.length co64) t323 (wrap64 (19 + t308)) 1 a3 t326 (wrap64 (1 + t276)) 0 t331 t334 w0 _ ?side1 ?side2 A45.out).mono ?_); (case side1 => exact bIsS58); (case side2 => exact Kd.R_tight rfl HO325.out); rintro e w65 ⟨v332, rfl, ho0, hb, hkp⟩; refine ⟨_, rfl, ?_⟩; have n0_ := am (IsS58.kept (by exact sIsS58) hkp (fun hs_ => (fun e_ => (IsS58.own_ne HI0.out HO325.out (by decide)) e_) hs_)); have n1_ := am (blk_kept (by exact sB <| BK307.out) hkp (fun hs_ => (fun e_ => (Kd.R_away HO325.out (fun _ hk => hk.2.2.2)) e_) hs_)); have n2_ := am (Kd.R_mono (ok' := fun k_ => (P1_ k_ ∨ w.heap.size ≤ k_) ∧ some k_ ≠ (.slice Ao61 y320.length co61 : Value).ownBlock ∧ k_ ≠ gb307 ∧ some k_ ≠ (v332 : Value).ownBlock) (Kd.R_keptB (HO319.out) hkp (fun k_ hk_ hs_ => (hk_.2.2.2) hs_)) (fun k_ hk_ => ⟨hk_.1.1, hk_.1.2.1, hk_.1.2.2.1, fun e_ => Or.elim (ho0.1 k_ e_.symm) (fun hs_ => hk_.2.1 (by exact hs_)) (fun hn_ => Nat.not_le.2 hk_.2.2 hn_)⟩)); have n3_ := am (Kd.R_mono (ok' := fun k_ => (P1_ k_ ∨ w.heap.size ≤ k_) ∧ some k_ ≠ (.slice Ao59 y317.length co59 : Value).ownBlock ∧ k_ ≠ gb307 ∧ some k_ ≠ (v332 : Value).ownBlock) (Kd.R_keptB (HO322.out) hkp (fun k_ hk_ hs_ => (hk_.2.2.2) hs_)) (fun k_ hk_ => ⟨hk_.1.1, hk_.1.2.1, hk_.1.2.2.1, fun e_ => Or.elim (ho0.1 k_ e_.symm) (fun hs_ => hk_.2.1 (by exact hs_)) (fun hn_ => Nat.not_le.2 hk_.2.2 hn_)⟩)); have n4_ := am (Kd.R_mono (ok' := fun k_ => (P1_ k_ ∨ w.heap.size ≤ k_) ∧ some k_ ≠ (.slice Ao59 y317.length co59 : Value).ownBlock ∧ some k_ ≠ (.slice Ao61 y320.length co61 : Value).ownBlock ∧ k_ ≠ gb307) ho0 (fun k_ hk_ => ⟨Or.elim hk_ (fun hs_ => (HO325.out.1 k_ (hs_).symm).1) (fun hn_ => (.inr (Nat.le_trans (by exact HK.out.1) hn_))), Or.elim hk_ (fun hs_ => fun e_ => (((HO319.out).1 k_ e_.symm).2.2.2) hs_) (fun hn_ => (Kd.fresh' (Kd.R_lt (by exact sR <| HO319.out)) k_ hn_)), Or.elim hk_ (fun hs_ => fun e_ => (((HO322.out).1 k_ e_.symm).2.2.2) hs_) (fun hn_ => (Kd.fresh' (Kd.R_lt (by exact sR <| HO322.out)) k_ hn_)), Or.elim hk_ (fun hs_ => fun e_ => (Kd.R_away HO325.out (fun _ hk => hk.2.2.2)) (by rw [← e_]; exact hs_)) (fun hn_ => (Kd.freshB (g := gb307) (o := .cells #[.int .i64 1, .int .i64 (wrap64 (1 + t276)), .int .i64 a3, .int .i64 0, .int .i64 0, .int .i64 0] 39 (0, 0)) (by exact sB <| BK307.out) k_ hn_))⟩)); have n5_ := am (Kept.then_ (S := (fun k_ => (P1_ k_) ∨ k_ = g)) (by exact sK HK.out) hkp (fun k_ hs_ => (fun e_ => Or.imp_left Or.inl ((HO325.out.1 k_ e_.symm).1)) hs_)); have n6_ := am (hb); clear HI0; clear BK307; clear HO319; clear HO322; clear HK; clear HB; clear HO325; have HI0 := n0_; have BK307 := n1_; have HO319 := n2_; have HO322 := n3_; have HO333 := n4_; have HK := n5_; have HB := n6_; clear n0_ n1_ n2_ n3_ n4_ n5_ n6_; (try clear hb); (try clear hkp); (try clear ho0)))
       refine bodyPost_ret (results_list (rs := [.tmp 12, .tmp 13, .tmp 14, .tmp 15]) rfl (by simp) (.tmp (.tmp (.tmp (.tmp .nil))))) rfl ?_
       exact ⟨_, by rfl, by exact sR <| Kd.R_mono HO333.out (fun _ hk => hk.1), by exact sIsS58, by exact bIsS58, by exact sK HK.out⟩
      ·rw [if_neg c43] at H
       exact absurd H (by simp)
     ·rw [if_neg c42] at H
      exact absurd H (by simp)
   ·replace c13 := Bool.eq_false_iff.mpr c13
    subst c13
    rw [if_neg (show ¬ (false = true) by decide)] at H
    replace H := oB H
    obtain ⟨⟨t335, t336, t337⟩, A660, H⟩ := H
    try dsimp only at H
    have A66 := am A660
    clear A660
    by_cases c67 : t335 = 0
    ·rw [if_pos c67] at H
     have c67b0 : (t335 == 0) = true := beq_iff_eq.mpr c67
     have c67b1 : (t335 != 0) = false := bne_eq_false_iff_eq.mpr c67
     clear c67
     by_cases c68 : a5 > 0
     ·rw [if_pos c68] at H
      have c68b0 : decide (0 < a5) = true := decide_eq_true c68
      clear c68
      replace H := oB H
      obtain ⟨⟨t338, t341, t342, t343, t344, t345⟩, A690, H⟩ := H
      try dsimp only at H
      have A69 := am A690
      clear A690
      replace H := oB H
      obtain ⟨⟨t346, t349⟩, A700, H⟩ := H
      try dsimp only at H
      have A70 := am A700
      clear A700
      simp only [Option.some.injEq, Prod.mk.injEq] at H
      obtain ⟨rfl, rfl, rfl, rfl, rfl, rfl⟩ := H
      go_wp2_with (first | ((with_reducible refine gate_callee (f := 43) rfl ?_); refine goesL_ (some 105) rfl rfl Try.func43 (by kernel_rfl) rfl #[.pointer (some ⟨g, 0, none⟩), .int .i64 5] rfl tm ?_; (with_reducible refine (spec_l01Below.calls g s0_0 x1001_6 x1002_6 5 t335 t336 t337 w0 _ ?side1 ?side2 A66.out).mono ?_); (case side1 => exact sIsS58); (case side2 => exact bIsS58); rintro e w71 ⟨rfl, hi, hb, hk⟩; refine ⟨_, rfl, ?_⟩; have n0_ := am (Kd.R_mono (Kd.R_keep (IsS58.apart (show IsS58 w0 _ g s0_0 x1001_6 x1002_6 from by exact sIsS58) (by exact sR <| HO_1.out) (by decide)) hk (fun _ h => h.2)) (fun _ h => h.1)); have n1_ := am (Kept.of_keep (S := (fun k_ => (P1_ k_) ∨ k_ = g)) (by exact sK HK.out) hk (.inl (.inr rfl))); have n2_ := am (hb); have n3_ := am (hi); clear HO_1; clear HK; clear HB; clear HI0; have HO_1 := n0_; have HK := n1_; have HB := n2_; have HI0 := n3_; clear n0_ n1_ n2_ n3_; (try clear hb); (try clear hb2); (try clear hk); (try clear hi); obtain ⟨Ao72, co72, eo72⟩ := Kd.R_slice HO_1.out; subst eo72) | ((with_reducible refine gate_callee (f := 56) rfl ?_); refine goesL_ (some 118) rfl rfl Try.func56 (by kernel_rfl) rfl #[.pointer (some ⟨g, 0, none⟩), .slice Ao72 l1.length co72, .slice A2 l2.length c2, .int .i64 a3, .int .i64 a4, .int .i64 (wrap64 (a5 - 1))] rfl tm ?_; (with_reducible refine (ih kj6 (by have := HJ6.out; omega) g s0_0 t336 t337 (fun k_ => some k_ = (.slice Ao72 l1.length co72 : Value).ownBlock) (.slice Ao72 l1.length co72) l1 _ _ l2 a3 a4 (wrap64 (a5 - 1)) t338 t341 t342 t343 t344 t345 w0 _ ?side1 ?side2 ?side3 ?side4 ?side5 A69.out).mono ?_); (case side1 => exact sIsS58); (case side2 => exact bIsS58); (case side3 => exact Kd.R_tight rfl HO_1.out); (case side4 => exact Kd.C_kept_call HR2.out (by exact sK HK.out) (fun k_ hs_ => Or.elim hs_ (fun hs_ => (fun e_ => Or.imp_left Or.inl ((HO_1.out.1 k_ e_.symm))) hs_) (fun e_ => .inl (.inr e_)))); (case side5 => exact HC2.out); rintro e w73 ⟨v339, rfl, ho0, hi, hb, hkp⟩; refine ⟨_, rfl, ?_⟩; have n0_ := am (hi); have n1_ := am (Kd.R_mono (ok' := fun k_ => (P1_ k_ ∨ w.heap.size ≤ k_)) ho0 (fun k_ hk_ => Or.elim hk_ (fun hs_ => (HO_1.out.1 k_ (hs_).symm)) (fun hn_ => (.inr (Nat.le_trans (by exact HK.out.1) hn_))))); have n2_ := am (Kept.then_ (S := (fun k_ => (P1_ k_) ∨ k_ = g)) (by exact sK HK.out) hkp (fun k_ hs_ => Or.elim hs_ (fun hs_ => (fun e_ => Or.imp_left Or.inl ((HO_1.out.1 k_ e_.symm))) hs_) (fun e_ => .inl (.inr e_)))); have n3_ := am (hb); clear HI0; clear HK; clear HB; clear HO_1; have HI0 := n0_; have HO340 := n1_; have HK := n2_; have HB := n3_; clear n0_ n1_ n2_ n3_; (try clear hb); (try clear hkp); (try clear ho0); obtain ⟨Ao74, co74, eo74⟩ := Kd.R_slice HO340.out; subst eo74) | ((with_reducible refine gate_callee (f := 58) rfl ?_); refine goesL_ (some 127) rfl rfl Try.func58 (by kernel_rfl) rfl #[.slice Ao74 t338.length co74, .agg #[.int .i64 2, .int .i64 1, .int .i64 0, .int .i64 t341, .int .i64 0, .int .i64 0]] rfl tm ?_; (with_reducible refine (spec_l02Push.calls (fun k_ => some k_ = (.slice Ao74 t338.length co74 : Value).ownBlock) (.slice Ao74 t338.length co74) t338 2 1 0 t341 0 0 t346 t349 w0 _ ?side1 ?side2 A70.out).mono ?_); (case side1 => exact bIsS58); (case side2 => exact Kd.R_tight rfl HO340.out); rintro e w75 ⟨v347, rfl, ho0, hb, hkp⟩; refine ⟨_, rfl, ?_⟩; have n0_ := am (IsS58.kept (by exact sIsS58) hkp (fun hs_ => (fun e_ => (IsS58.own_ne HI0.out HO340.out (by decide)) e_) hs_)); have n1_ := am (Kd.R_mono (ok' := fun k_ => (P1_ k_ ∨ w.heap.size ≤ k_)) ho0 (fun k_ hk_ => Or.elim hk_ (fun hs_ => (HO340.out.1 k_ (hs_).symm)) (fun hn_ => (.inr (Nat.le_trans (by exact HK.out.1) hn_))))); have n2_ := am (Kept.then_ (S := (fun k_ => (P1_ k_) ∨ k_ = g)) (by exact sK HK.out) hkp (fun k_ hs_ => (fun e_ => Or.imp_left Or.inl ((HO340.out.1 k_ e_.symm))) hs_)); have n3_ := am (hb); clear HI0; clear HK; clear HB; clear HO340; have HI0 := n0_; have HO348 := n1_; have HK := n2_; have HB := n3_; clear n0_ n1_ n2_ n3_; (try clear hb); (try clear hkp); (try clear ho0)))
      refine bodyPost_ret (results_list (rs := [.tmp 12, .tmp 13, .tmp 14, .tmp 15]) rfl (by simp) (.tmp (.tmp (.tmp (.tmp .nil))))) rfl ?_
      exact ⟨_, by rfl, by exact sR <| HO348.out, by exact sIsS58, by exact bIsS58, by exact sK HK.out⟩
     ·rw [if_neg c68] at H
      have c68b0 : decide (0 < a5) = false := decide_eq_false c68
      clear c68
      replace H := oB H
      obtain ⟨⟨t350, t353, t354, t355⟩, A760, H⟩ := H
      try dsimp only at H
      have A76 := am A760
      clear A760
      simp only [Option.some.injEq, Prod.mk.injEq] at H
      obtain ⟨rfl, rfl, rfl, rfl, rfl, rfl⟩ := H
      go_wp2_with (first | ((with_reducible refine gate_callee (f := 43) rfl ?_); refine goesL_ (some 105) rfl rfl Try.func43 (by kernel_rfl) rfl #[.pointer (some ⟨g, 0, none⟩), .int .i64 5] rfl tm ?_; (with_reducible refine (spec_l01Below.calls g s0_0 x1001_6 x1002_6 5 t335 t336 t337 w0 _ ?side1 ?side2 A66.out).mono ?_); (case side1 => exact sIsS58); (case side2 => exact bIsS58); rintro e w77 ⟨rfl, hi, hb, hk⟩; refine ⟨_, rfl, ?_⟩; have n0_ := am (Kd.R_mono (Kd.R_keep (IsS58.apart (show IsS58 w0 _ g s0_0 x1001_6 x1002_6 from by exact sIsS58) (by exact sR <| HO_1.out) (by decide)) hk (fun _ h => h.2)) (fun _ h => h.1)); have n1_ := am (Kept.of_keep (S := (fun k_ => (P1_ k_) ∨ k_ = g)) (by exact sK HK.out) hk (.inl (.inr rfl))); have n2_ := am (hb); have n3_ := am (hi); clear HO_1; clear HK; clear HB; clear HI0; have HO_1 := n0_; have HK := n1_; have HB := n2_; have HI0 := n3_; clear n0_ n1_ n2_ n3_; (try clear hb); (try clear hb2); (try clear hk); (try clear hi); obtain ⟨Ao78, co78, eo78⟩ := Kd.R_slice HO_1.out; subst eo78) | ((with_reducible refine gate_callee (f := 59) rfl ?_); refine goesL_ (some 184) rfl rfl Try.func59 (by kernel_rfl) rfl #[.pointer (some ⟨g, 0, none⟩), .slice Ao78 l1.length co78, .slice A2 l2.length c2, .int .i64 1, .int .i64 3] rfl tm ?_; (with_reducible refine (spec_l02Deep.calls kj6 g s0_0 t336 t337 (fun k_ => some k_ = (.slice Ao78 l1.length co78 : Value).ownBlock) (.slice Ao78 l1.length co78) l1 _ _ l2 1 3 t350 t353 t354 t355 w0 _ ?side1 ?side2 ?side3 ?side4 ?side5 A76.out).mono ?_); (case side1 => exact sIsS58); (case side2 => exact bIsS58); (case side3 => exact Kd.R_tight rfl HO_1.out); (case side4 => exact Kd.C_kept_call HR2.out (by exact sK HK.out) (fun k_ hs_ => Or.elim hs_ (fun hs_ => (fun e_ => Or.imp_left Or.inl ((HO_1.out.1 k_ e_.symm))) hs_) (fun e_ => .inl (.inr e_)))); (case side5 => exact HC2.out); rintro e w79 ⟨v351, rfl, ho0, hi, hb, hkp⟩; refine ⟨_, rfl, ?_⟩; have n0_ := am (hi); have n1_ := am (Kd.R_mono (ok' := fun k_ => (P1_ k_ ∨ w.heap.size ≤ k_)) ho0 (fun k_ hk_ => Or.elim hk_ (fun hs_ => (HO_1.out.1 k_ (hs_).symm)) (fun hn_ => (.inr (Nat.le_trans (by exact HK.out.1) hn_))))); have n2_ := am (Kept.then_ (S := (fun k_ => (P1_ k_) ∨ k_ = g)) (by exact sK HK.out) hkp (fun k_ hs_ => Or.elim hs_ (fun hs_ => (fun e_ => Or.imp_left Or.inl ((HO_1.out.1 k_ e_.symm))) hs_) (fun e_ => .inl (.inr e_)))); have n3_ := am (hb); clear HI0; clear HK; clear HB; clear HO_1; have HI0 := n0_; have HO352 := n1_; have HK := n2_; have HB := n3_; clear n0_ n1_ n2_ n3_; (try clear hb); (try clear hkp); (try clear ho0)))
      refine bodyPost_ret (results_list (rs := [.tmp 12, .tmp 13, .tmp 14, .tmp 15]) rfl (by simp) (.tmp (.tmp (.tmp (.tmp .nil))))) rfl ?_
      exact ⟨_, by rfl, by exact sR <| HO352.out, by exact sIsS58, by exact bIsS58, by exact sK HK.out⟩
    ·rw [if_neg c67] at H
     have c67b0 : (t335 == 0) = false := beq_eq_false_iff_ne.mpr c67
     have c67b1 : (t335 != 0) = true := bne_iff_ne.mpr c67
     have HC80 := am H
     clear H
     go_upto_if 134 with (first | ((with_reducible refine gate_callee (f := 43) rfl ?_); refine goesL_ (some 105) rfl rfl Try.func43 (by kernel_rfl) rfl #[.pointer (some ⟨g, 0, none⟩), .int .i64 5] rfl tn ?_; (with_reducible refine (spec_l01Below.calls g s0_0 x1001_6 x1002_6 5 t335 t336 t337 w0 _ ?side1 ?side2 A66.out).mono ?_); (case side1 => exact sIsS58); (case side2 => exact bIsS58); rintro e w81 ⟨rfl, hi, hb, hk⟩; refine ⟨_, rfl, ?_⟩; have n0_ := am (Kd.R_mono (Kd.R_keep (IsS58.apart (show IsS58 w0 _ g s0_0 x1001_6 x1002_6 from by exact sIsS58) (by exact sR <| HO_1.out) (by decide)) hk (fun _ h => h.2)) (fun _ h => h.1)); have n1_ := am (Kept.of_keep (S := (fun k_ => (P1_ k_) ∨ k_ = g)) (by exact sK HK.out) hk (.inl (.inr rfl))); have n2_ := am (hb); have n3_ := am (hi); clear HO_1; clear HK; clear HB; clear HI0; have HO_1 := n0_; have HK := n1_; have HB := n2_; have HI0 := n3_; clear n0_ n1_ n2_ n3_; (try clear hi))); clear hb hk
     (try simp only [Act.put, List.setIfInBounds_toArray, List.set_cons_zero, List.set_cons_succ])
     go_cut [134] (fun v134 wc => ∃ (kq : Nat) (x134_79 : Bool), v134 = .bool x134_79 ∧ Aside0 (spec_l02Made.j1 kq l1 l2 a3 a4 a5 x134_79 s0_0 t336 t337 = some (r1, r2, r3, r4, r5, r6)) ∧ Aside0 (kq ≤ kj6) ∧ Aside0 (Kd.R k39 39 wc w0.heap.size (fun k_ => (P1_ k_ ∨ w.heap.size ≤ k_)) u9000_ l1) ∧ Aside0 (IsS58 w0 wc g s0_0 t336 t337) ∧ Aside0 (Kept w wc (fun k_ => (P1_ k_) ∨ k_ = g)) ∧ Aside0 (Below w0.heap.size w0 wc))
     case first =>
      have H := HC80.out
      clear HC80
      by_cases c82 : t335 = 1
      ·rw [if_pos c82] at H
       have c82b0 : (t335 == 1) = true := beq_iff_eq.mpr c82
       have c82b1 : (t335 != 1) = false := bne_eq_false_iff_eq.mpr c82
       clear c82
       (rw [c82b0])
       have H' := am H
       clear H
       go_wp2
       go_meet
       case rel => exact ⟨_, ((t335 == 1)), (by (simp [*]; done)), H', ⟨by have := HJ6.out; omega⟩, ⟨by exact sR <| HO_1.out⟩, ⟨by exact sIsS58⟩, ⟨by exact sK HK.out⟩, ⟨by exact bIsS58⟩⟩
      ·rw [if_neg c82] at H
       have c82b0 : (t335 == 1) = false := beq_eq_false_iff_ne.mpr c82
       have c82b1 : (t335 != 1) = true := bne_iff_ne.mpr c82
       (rw [c82b0])
       have H' := am H
       clear H
       go_wp2
       go_meet
       case rel => exact ⟨_, ((t335 == 2)), (by rfl), H', ⟨by have := HJ6.out; omega⟩, ⟨by exact sR <| HO_1.out⟩, ⟨by exact sIsS58⟩, ⟨by exact sK HK.out⟩, ⟨by exact bIsS58⟩⟩
     case rest =>
      clear HC80
      clear c67 c67b0 c67b1
      obtain ⟨kq, x134_79, rfl, HA, HJ79, HO_1, HI0, HK, HB⟩ := hcut
      cases kq with
      | zero => exact absurd HA.out (by simp [spec_l02Made.j1])
      | succ kj79 =>
       have H := HA.out
       clear HA
       simp only [spec_l02Made.j1] at H
       by_cases c83 : x134_79 = true
       ·subst c83
        rw [if_pos rfl] at H
        by_cases c84 : a5 > 0
        ·rw [if_pos c84] at H
         have c84b0 : decide (0 < a5) = true := decide_eq_true c84
         clear c84
         replace H := oB H
         obtain ⟨⟨t356, t359, t360, t361, t362, t363⟩, A850, H⟩ := H
         try dsimp only at H
         have A85 := am A850
         clear A850
         replace H := oB H
         obtain ⟨⟨t364, t367, t368, t369, t370, t371⟩, A860, H⟩ := H
         try dsimp only at H
         have A86 := am A860
         clear A860
         replace H := oB H
         obtain ⟨⟨t372, t373, t374⟩, A870, H⟩ := H
         try dsimp only at H
         have A87 := am A870
         clear A870
         replace H := oB H
         obtain ⟨⟨t375, t378⟩, A880, H⟩ := H
         try dsimp only at H
         have A88 := am A880
         clear A880
         simp only [Option.some.injEq, Prod.mk.injEq] at H
         obtain ⟨rfl, rfl, rfl, rfl, rfl, rfl⟩ := H
         obtain ⟨Ao89, co89, eo89⟩ := Kd.R_slice HO_1.out
         subst eo89
         go_wp2_with (first | ((with_reducible refine gate_callee (f := 56) rfl ?_); refine goesL_ (some 147) rfl rfl Try.func56 (by kernel_rfl) rfl #[.pointer (some ⟨g, 0, none⟩), .slice Ao89 l1.length co89, .slice A2 l2.length c2, .int .i64 a3, .int .i64 a4, .int .i64 (wrap64 (a5 - 1))] rfl tm ?_; (with_reducible refine (ih kj79 (by have := HJ6.out; have := HJ79.out; omega) g s0_0 t336 t337 (fun k_ => some k_ = (.slice Ao89 l1.length co89 : Value).ownBlock) (.slice Ao89 l1.length co89) l1 _ _ l2 a3 a4 (wrap64 (a5 - 1)) t356 t359 t360 t361 t362 t363 w0 _ ?side1 ?side2 ?side3 ?side4 ?side5 A85.out).mono ?_); (case side1 => exact sIsS58); (case side2 => exact bIsS58); (case side3 => exact Kd.R_tight rfl HO_1.out); (case side4 => exact Kd.C_kept_call HR2.out (by exact sK HK.out) (fun k_ hs_ => Or.elim hs_ (fun hs_ => (fun e_ => Or.imp_left Or.inl ((HO_1.out.1 k_ e_.symm))) hs_) (fun e_ => .inl (.inr e_)))); (case side5 => exact HC2.out); rintro e w90 ⟨v357, rfl, ho0, hi, hb, hkp⟩; refine ⟨_, rfl, ?_⟩; have n0_ := am (hi); have n1_ := am (Kd.R_mono (ok' := fun k_ => (P1_ k_ ∨ w.heap.size ≤ k_)) ho0 (fun k_ hk_ => Or.elim hk_ (fun hs_ => (HO_1.out.1 k_ (hs_).symm)) (fun hn_ => (.inr (Nat.le_trans (by exact HK.out.1) hn_))))); have n2_ := am (Kept.then_ (S := (fun k_ => (P1_ k_) ∨ k_ = g)) (by exact sK HK.out) hkp (fun k_ hs_ => Or.elim hs_ (fun hs_ => (fun e_ => Or.imp_left Or.inl ((HO_1.out.1 k_ e_.symm))) hs_) (fun e_ => .inl (.inr e_)))); have n3_ := am (hb); clear HI0; clear HK; clear HB; clear HO_1; have HI0 := n0_; have HO358 := n1_; have HK := n2_; have HB := n3_; clear n0_ n1_ n2_ n3_; (try clear hb); (try clear hkp); (try clear ho0); obtain ⟨Ao91, co91, eo91⟩ := Kd.R_slice HO358.out; subst eo91) | ((with_reducible refine gate_callee (f := 56) rfl ?_); refine goesL_ (some 160) rfl rfl Try.func56 (by kernel_rfl) rfl #[.pointer (some ⟨g, 0, none⟩), .slice Ao91 t356.length co91, .slice A2 l2.length c2, .int .i64 t360, .int .i64 t361, .int .i64 (wrap64 (a5 - 1))] rfl tm ?_; (with_reducible refine (ih kj79 (by have := HJ6.out; have := HJ79.out; omega) g s0_0 t362 t363 (fun k_ => some k_ = (.slice Ao91 t356.length co91 : Value).ownBlock) (.slice Ao91 t356.length co91) t356 _ _ l2 t360 t361 (wrap64 (a5 - 1)) t364 t367 t368 t369 t370 t371 w0 _ ?side1 ?side2 ?side3 ?side4 ?side5 A86.out).mono ?_); (case side1 => exact sIsS58); (case side2 => exact bIsS58); (case side3 => exact Kd.R_tight rfl HO358.out); (case side4 => exact Kd.C_kept_call HR2.out (by exact sK HK.out) (fun k_ hs_ => Or.elim hs_ (fun hs_ => (fun e_ => Or.imp_left Or.inl ((HO358.out.1 k_ e_.symm))) hs_) (fun e_ => .inl (.inr e_)))); (case side5 => exact HC2.out); rintro e w92 ⟨v365, rfl, ho0, hi, hb, hkp⟩; refine ⟨_, rfl, ?_⟩; have n0_ := am (hi); have n1_ := am (Kd.R_mono (ok' := fun k_ => (P1_ k_ ∨ w.heap.size ≤ k_)) ho0 (fun k_ hk_ => Or.elim hk_ (fun hs_ => (HO358.out.1 k_ (hs_).symm)) (fun hn_ => (.inr (Nat.le_trans (by exact HK.out.1) hn_))))); have n2_ := am (Kept.then_ (S := (fun k_ => (P1_ k_) ∨ k_ = g)) (by exact sK HK.out) hkp (fun k_ hs_ => Or.elim hs_ (fun hs_ => (fun e_ => Or.imp_left Or.inl ((HO358.out.1 k_ e_.symm))) hs_) (fun e_ => .inl (.inr e_)))); have n3_ := am (hb); clear HI0; clear HK; clear HB; clear HO358; have HI0 := n0_; have HO366 := n1_; have HK := n2_; have HB := n3_; clear n0_ n1_ n2_ n3_; (try clear hb); (try clear hkp); (try clear ho0)) | ((with_reducible refine gate_callee (f := 43) rfl ?_); refine goesL_ (some 168) rfl rfl Try.func43 (by kernel_rfl) rfl #[.pointer (some ⟨g, 0, none⟩), .int .i64 2] rfl tm ?_; (with_reducible refine (spec_l01Below.calls g s0_0 t370 t371 2 t372 t373 t374 w0 _ ?side1 ?side2 A87.out).mono ?_); (case side1 => exact sIsS58); (case side2 => exact bIsS58); rintro e w93 ⟨rfl, hi, hb, hk⟩; refine ⟨_, rfl, ?_⟩; have n0_ := am (Kd.R_mono (Kd.R_keep (IsS58.apart (show IsS58 w0 _ g s0_0 t370 t371 from by exact sIsS58) (by exact sR <| HO366.out) (by decide)) hk (fun _ h => h.2)) (fun _ h => h.1)); have n1_ := am (Kept.of_keep (S := (fun k_ => (P1_ k_) ∨ k_ = g)) (by exact sK HK.out) hk (.inl (.inr rfl))); have n2_ := am (hb); have n3_ := am (hi); clear HO366; clear HK; clear HB; clear HI0; have HO366 := n0_; have HK := n1_; have HB := n2_; have HI0 := n3_; clear n0_ n1_ n2_ n3_; (try clear hb); (try clear hb2); (try clear hk); (try clear hi); obtain ⟨Ao94, co94, eo94⟩ := Kd.R_slice HO366.out; subst eo94) | ((with_reducible refine gate_callee (f := 58) rfl ?_); refine goesL_ (some 173) rfl rfl Try.func58 (by kernel_rfl) rfl #[.slice Ao94 t364.length co94, .agg #[.int .i64 (wrap64 (3 + t372)), .int .i64 1, .int .i64 0, .int .i64 t359, .int .i64 t367, .int .i64 0]] rfl tm ?_; (with_reducible refine (spec_l02Push.calls (fun k_ => some k_ = (.slice Ao94 t364.length co94 : Value).ownBlock) (.slice Ao94 t364.length co94) t364 (wrap64 (3 + t372)) 1 0 t359 t367 0 t375 t378 w0 _ ?side1 ?side2 A88.out).mono ?_); (case side1 => exact bIsS58); (case side2 => exact Kd.R_tight rfl HO366.out); rintro e w95 ⟨v376, rfl, ho0, hb, hkp⟩; refine ⟨_, rfl, ?_⟩; have n0_ := am (IsS58.kept (by exact sIsS58) hkp (fun hs_ => (fun e_ => (IsS58.own_ne HI0.out HO366.out (by decide)) e_) hs_)); have n1_ := am (Kd.R_mono (ok' := fun k_ => (P1_ k_ ∨ w.heap.size ≤ k_)) ho0 (fun k_ hk_ => Or.elim hk_ (fun hs_ => (HO366.out.1 k_ (hs_).symm)) (fun hn_ => (.inr (Nat.le_trans (by exact HK.out.1) hn_))))); have n2_ := am (Kept.then_ (S := (fun k_ => (P1_ k_) ∨ k_ = g)) (by exact sK HK.out) hkp (fun k_ hs_ => (fun e_ => Or.imp_left Or.inl ((HO366.out.1 k_ e_.symm))) hs_)); have n3_ := am (hb); clear HI0; clear HK; clear HB; clear HO366; have HI0 := n0_; have HO377 := n1_; have HK := n2_; have HB := n3_; clear n0_ n1_ n2_ n3_; (try clear hb); (try clear hkp); (try clear ho0)))
         refine bodyPost_ret (results_list (rs := [.tmp 12, .tmp 13, .tmp 14, .tmp 15]) rfl (by simp) (.tmp (.tmp (.tmp (.tmp .nil))))) rfl ?_
         exact ⟨_, by rfl, by exact sR <| HO377.out, by exact sIsS58, by exact bIsS58, by exact sK HK.out⟩
        ·rw [if_neg c84] at H
         have c84b0 : decide (0 < a5) = false := decide_eq_false c84
         clear c84
         replace H := oB H
         obtain ⟨⟨t379, t382, t383, t384⟩, A960, H⟩ := H
         try dsimp only at H
         have A96 := am A960
         clear A960
         simp only [Option.some.injEq, Prod.mk.injEq] at H
         obtain ⟨rfl, rfl, rfl, rfl, rfl, rfl⟩ := H
         obtain ⟨Ao97, co97, eo97⟩ := Kd.R_slice HO_1.out
         subst eo97
         go_wp2_with (first | ((with_reducible refine gate_callee (f := 59) rfl ?_); refine goesL_ (some 184) rfl rfl Try.func59 (by kernel_rfl) rfl #[.pointer (some ⟨g, 0, none⟩), .slice Ao97 l1.length co97, .slice A2 l2.length c2, .int .i64 1, .int .i64 3] rfl tm ?_; (with_reducible refine (spec_l02Deep.calls kj79 g s0_0 t336 t337 (fun k_ => some k_ = (.slice Ao97 l1.length co97 : Value).ownBlock) (.slice Ao97 l1.length co97) l1 _ _ l2 1 3 t379 t382 t383 t384 w0 _ ?side1 ?side2 ?side3 ?side4 ?side5 A96.out).mono ?_); (case side1 => exact sIsS58); (case side2 => exact bIsS58); (case side3 => exact Kd.R_tight rfl HO_1.out); (case side4 => exact Kd.C_kept_call HR2.out (by exact sK HK.out) (fun k_ hs_ => Or.elim hs_ (fun hs_ => (fun e_ => Or.imp_left Or.inl ((HO_1.out.1 k_ e_.symm))) hs_) (fun e_ => .inl (.inr e_)))); (case side5 => exact HC2.out); rintro e w98 ⟨v380, rfl, ho0, hi, hb, hkp⟩; refine ⟨_, rfl, ?_⟩; have n0_ := am (hi); have n1_ := am (Kd.R_mono (ok' := fun k_ => (P1_ k_ ∨ w.heap.size ≤ k_)) ho0 (fun k_ hk_ => Or.elim hk_ (fun hs_ => (HO_1.out.1 k_ (hs_).symm)) (fun hn_ => (.inr (Nat.le_trans (by exact HK.out.1) hn_))))); have n2_ := am (Kept.then_ (S := (fun k_ => (P1_ k_) ∨ k_ = g)) (by exact sK HK.out) hkp (fun k_ hs_ => Or.elim hs_ (fun hs_ => (fun e_ => Or.imp_left Or.inl ((HO_1.out.1 k_ e_.symm))) hs_) (fun e_ => .inl (.inr e_)))); have n3_ := am (hb); clear HI0; clear HK; clear HB; clear HO_1; have HI0 := n0_; have HO381 := n1_; have HK := n2_; have HB := n3_; clear n0_ n1_ n2_ n3_; (try clear hb); (try clear hkp); (try clear ho0)))
         refine bodyPost_ret (results_list (rs := [.tmp 12, .tmp 13, .tmp 14, .tmp 15]) rfl (by simp) (.tmp (.tmp (.tmp (.tmp .nil))))) rfl ?_
         exact ⟨_, by rfl, by exact sR <| HO381.out, by exact sIsS58, by exact bIsS58, by exact sK HK.out⟩
       ·replace c83 := Bool.eq_false_iff.mpr c83
        subst c83
        rw [if_neg (show ¬ (false = true) by decide)] at H
        replace H := oB H
        obtain ⟨⟨t385, t388, t389, t390⟩, A990, H⟩ := H
        try dsimp only at H
        have A99 := am A990
        clear A990
        simp only [Option.some.injEq, Prod.mk.injEq] at H
        obtain ⟨rfl, rfl, rfl, rfl, rfl, rfl⟩ := H
        obtain ⟨Ao100, co100, eo100⟩ := Kd.R_slice HO_1.out
        subst eo100
        go_wp2_with (first | ((with_reducible refine gate_callee (f := 59) rfl ?_); refine goesL_ (some 184) rfl rfl Try.func59 (by kernel_rfl) rfl #[.pointer (some ⟨g, 0, none⟩), .slice Ao100 l1.length co100, .slice A2 l2.length c2, .int .i64 1, .int .i64 3] rfl tm ?_; (with_reducible refine (spec_l02Deep.calls kj79 g s0_0 t336 t337 (fun k_ => some k_ = (.slice Ao100 l1.length co100 : Value).ownBlock) (.slice Ao100 l1.length co100) l1 _ _ l2 1 3 t385 t388 t389 t390 w0 _ ?side1 ?side2 ?side3 ?side4 ?side5 A99.out).mono ?_); (case side1 => exact sIsS58); (case side2 => exact bIsS58); (case side3 => exact Kd.R_tight rfl HO_1.out); (case side4 => exact Kd.C_kept_call HR2.out (by exact sK HK.out) (fun k_ hs_ => Or.elim hs_ (fun hs_ => (fun e_ => Or.imp_left Or.inl ((HO_1.out.1 k_ e_.symm))) hs_) (fun e_ => .inl (.inr e_)))); (case side5 => exact HC2.out); rintro e w101 ⟨v386, rfl, ho0, hi, hb, hkp⟩; refine ⟨_, rfl, ?_⟩; have n0_ := am (hi); have n1_ := am (Kd.R_mono (ok' := fun k_ => (P1_ k_ ∨ w.heap.size ≤ k_)) ho0 (fun k_ hk_ => Or.elim hk_ (fun hs_ => (HO_1.out.1 k_ (hs_).symm)) (fun hn_ => (.inr (Nat.le_trans (by exact HK.out.1) hn_))))); have n2_ := am (Kept.then_ (S := (fun k_ => (P1_ k_) ∨ k_ = g)) (by exact sK HK.out) hkp (fun k_ hs_ => Or.elim hs_ (fun hs_ => (fun e_ => Or.imp_left Or.inl ((HO_1.out.1 k_ e_.symm))) hs_) (fun e_ => .inl (.inr e_)))); have n3_ := am (hb); clear HI0; clear HK; clear HB; clear HO_1; have HI0 := n0_; have HO387 := n1_; have HK := n2_; have HB := n3_; clear n0_ n1_ n2_ n3_; (try clear hb); (try clear hkp); (try clear ho0)))
        refine bodyPost_ret (results_list (rs := [.tmp 12, .tmp 13, .tmp 14, .tmp 15]) rfl (by simp) (.tmp (.tmp (.tmp (.tmp .nil))))) rfl ?_
        exact ⟨_, by rfl, by exact sR <| HO387.out, by exact sIsS58, by exact bIsS58, by exact sK HK.out⟩
end Go.Proofs.Ytjjjbifbibabgaa.PAll
