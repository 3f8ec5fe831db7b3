/- Written by a program of this session over the loaded program, and by hand: Go functions as plain Lean functions, and that a call comes to what they say. -/
import Derived.Test.YtjjjbifbibabgaaVFree0
import Derived.Test.YtjjjbifbibabgaaVFree1
import Derived.Test.YtjjjbifbibabgaaBase
import Derived.Test.YtjjjbifbibabgaaSq
namespace Go.Proofs.Ytjjjbifbibabgaa.PAll
open Go.RowKit Go.Proofs.YtjjjbifbibabgaaW.PrintWords Go.Proofs.YtjjjbifbibabgaaW.PrintLast Go.Proofs.YtjjjbifbibabgaaW.PrintMore Go.Proofs.YtjjjbifbibabgaaW.Sq
attribute [local go_sem] max2_int min2_int max_two min_two max_three min_three max_four min_four   -- for this text's walks alone
set_option linter.unusedVariables false
set_option linter.unusedSimpArgs false

/-! ### spec_l02Deep: function 59 -/
mutual
def spec_l02Deep.l0 : Nat → List (S39) → List (S39) → Int → Int → List Int → Int → List Int → Int → Int → Option ((List (S39)) × Int × Int × Int)
 | 0, _, _, _, _, _, _, _, _, _ => none
 | k + 1, x1, x2, x3, x4, x12, x13, x1000, x1001, x1002 => if x13 < (x2.length : Int) then (if 0 ≤ x13 then (if ((rd_T39 x2 x13).f1) = x3 then (if x12.length < 17592186044416 then (spec_l02Deep.l0 k x1 x2 x3 x4 (x12 ++ [x13]) (wrap64 (x13 + 1)) x1000 x1001 x1002) else (none)) else (spec_l02Deep.l0 k x1 x2 x3 x4 x12 (wrap64 (x13 + 1)) x1000 x1001 x1002)) else (none)) else (if x4 = 0 then (spec_l02Deep.j1 k x1 x2 x3 x4 x12 true x1000 x1001 x1002) else (if (x1.length : Int) > 40 then (spec_l02Deep.j1 k x1 x2 x3 x4 x12 true x1000 x1001 x1002) else ((spec_l01Once.f x1000 x1001 x1002 5).bind fun bt134 => (spec_l02Deep.j1 k x1 x2 x3 x4 x12 bt134.1 x1000 bt134.2.1 bt134.2.2))))
def spec_l02Deep.j1 : Nat → List (S39) → List (S39) → Int → Int → List Int → Bool → List Int → Int → Int → Option ((List (S39)) × Int × Int × Int)
 | 0, _, _, _, _, _, _, _, _, _ => none
 | k + 1, x1, x2, x3, x4, x12, x48, x1000, x1001, x1002 => if x48 = true then (if (x12.length : Int) > 0 then ((spec_l01Once.f x1000 x1001 x1002 4).bind fun bt137 => (spec_l02Deep.j2 k x1 x2 x3 x12 (!bt137.1) x1000 bt137.2.1 bt137.2.2)) else (spec_l02Deep.j2 k x1 x2 x3 x12 false x1000 x1001 x1002)) else (if x3 = 1 then (if (x2.length : Int) > 0 then ((spec_l01Once.f x1000 x1001 x1002 2).bind fun bt157 => (spec_l02Deep.j3 k x1 x2 x3 x4 bt157.1 x1000 bt157.2.1 bt157.2.2)) else (spec_l02Deep.j3 k x1 x2 x3 x4 false x1000 x1001 x1002)) else (spec_l02Deep.j3 k x1 x2 x3 x4 false x1000 x1001 x1002))
def spec_l02Deep.j2 : Nat → List (S39) → List (S39) → Int → List Int → Bool → List Int → Int → Int → Option ((List (S39)) × Int × Int × Int)
 | 0, _, _, _, _, _, _, _, _ => none
 | k + 1, x1, x2, x3, x12, x56, x1000, x1001, x1002 => if x56 = true then ((spec_l01Below.f x1000 x1001 x1002 (x12.length : Int)).bind fun bt140 => (if 0 ≤ bt140.1 then (if bt140.1 < (x12.length : Int) then (if 0 ≤ (rd x12 bt140.1) then (if (rd x12 bt140.1) < (x2.length : Int) then ((spec_l02Push.f x1 ((rd_T39 x2 (rd x12 bt140.1)).f0) ((rd_T39 x2 (rd x12 bt140.1)).f1) ((rd_T39 x2 (rd x12 bt140.1)).f2) ((rd_T39 x2 (rd x12 bt140.1)).f3) ((rd_T39 x2 (rd x12 bt140.1)).f4) ((rd_T39 x2 (rd x12 bt140.1)).f5)).bind fun bt145 => (some (bt145.1, bt145.2, bt140.2.1, bt140.2.2))) else (none)) else (none)) else (none)) else (none))) else ((spec_l01Pow2.f k x3).bind fun t149 => ((spec_l01Below.f x1000 x1001 x1002 t149).bind fun bt150 => ((spec_l02Push.f x1 0 x3 bt150.1 0 0 0).bind fun bt153 => (some (bt153.1, bt153.2, bt150.2.1, bt150.2.2)))))
def spec_l02Deep.j3 : Nat → List (S39) → List (S39) → Int → Int → Bool → List Int → Int → Int → Option ((List (S39)) × Int × Int × Int)
 | 0, _, _, _, _, _, _, _, _ => none
 | k + 1, x1, x2, x3, x4, x91, x1000, x1001, x1002 => if x91 = true then ((spec_l01Below.f x1000 x1001 x1002 (x2.length : Int)).bind fun bt160 => (if 0 ≤ bt160.1 then (if bt160.1 < (x2.length : Int) then ((spec_l02Deep.f k x1000 bt160.2.1 bt160.2.2 x1 x2 ((rd_T39 x2 bt160.1).f1) (wrap64 (x4 - 1))).bind fun bt164 => ((spec_l02Deep.f k x1000 bt164.2.2.1 bt164.2.2.2 bt164.1 x2 ((rd_T39 x2 bt160.1).f1) (wrap64 (x4 - 1))).bind fun bt170 => ((spec_l01Below.f x1000 bt170.2.2.1 bt170.2.2.2 3).bind fun bt176 => ((spec_l02Push.f bt170.1 (wrap64 (13 + bt176.1)) 1 0 bt164.2.1 bt170.2.1 0).bind fun bt179 => (some (bt179.1, bt179.2, bt176.2.1, bt176.2.2)))))) else (none)) else (none))) else ((spec_l01Below.f x1000 x1001 x1002 8).bind fun bt183 => (if bt183.1 = 0 then ((spec_l02Deep.f k x1000 bt183.2.1 bt183.2.2 x1 x2 x3 (wrap64 (x4 - 1))).bind fun bt186 => ((spec_l02Push.f bt186.1 2 x3 0 bt186.2.1 0 0).bind fun bt192 => (some (bt192.1, bt192.2, bt186.2.2.1, bt186.2.2.2)))) else (if bt183.1 = 1 then (if x3 > 1 then ((spec_l01Below.f x1000 bt183.2.1 bt183.2.2 (wrap64 (x3 - 1))).bind fun bt196 => ((spec_l02Deep.f k x1000 bt196.2.1 bt196.2.2 x1 x2 (wrap64 (1 + bt196.1)) (wrap64 (x4 - 1))).bind fun bt199 => ((spec_l02Deep.f k x1000 bt199.2.2.1 bt199.2.2.2 bt199.1 x2 (wrap64 (x3 - (wrap64 (1 + bt196.1)))) (wrap64 (x4 - 1))).bind fun bt205 => ((spec_l02Push.f bt205.1 16 x3 0 bt199.2.1 bt205.2.1 0).bind fun bt211 => (some (bt211.1, bt211.2, bt205.2.2.1, bt205.2.2.2)))))) else (spec_l02Deep.j4 k x1 x2 x3 x4 x1000 bt183.2.1 bt183.2.2)) else (if bt183.1 = 2 then (if (x2.length : Int) > 0 then ((spec_l01Below.f x1000 bt183.2.1 bt183.2.2 (x2.length : Int)).bind fun bt215 => (if 0 ≤ bt215.1 then (if bt215.1 < (x2.length : Int) then (if ((rd_T39 x2 bt215.1).f1) > x3 then ((spec_l02Deep.f k x1000 bt215.2.1 bt215.2.2 x1 x2 ((rd_T39 x2 bt215.1).f1) (wrap64 (x4 - 1))).bind fun bt219 => ((spec_l01Below.f x1000 bt219.2.2.1 bt219.2.2.2 (wrap64 ((wrap64 (((rd_T39 x2 bt215.1).f1) - x3)) + 1))).bind fun bt225 => ((spec_l02Push.f bt219.1 17 x3 bt225.1 bt219.2.1 0 0).bind fun bt228 => (some (bt228.1, bt228.2, bt225.2.1, bt225.2.2))))) else (spec_l02Deep.j4 k x1 x2 x3 x4 x1000 bt215.2.1 bt215.2.2)) else (none)) else (none))) else (spec_l02Deep.j4 k x1 x2 x3 x4 x1000 bt183.2.1 bt183.2.2)) else (if bt183.1 = 3 then ((spec_l02Deep.f k x1000 bt183.2.1 bt183.2.2 x1 x2 1 (wrap64 (x4 - 1))).bind fun bt232 => ((spec_l02Deep.f k x1000 bt232.2.2.1 bt232.2.2.2 bt232.1 x2 x3 (wrap64 (x4 - 1))).bind fun bt238 => ((spec_l02Deep.f k x1000 bt238.2.2.1 bt238.2.2.2 bt238.1 x2 x3 (wrap64 (x4 - 1))).bind fun bt244 => ((spec_l02Push.f bt244.1 18 x3 0 bt232.2.1 bt238.2.1 bt244.2.1).bind fun bt250 => (some (bt250.1, bt250.2, bt244.2.2.1, bt244.2.2.2)))))) else (spec_l02Deep.j4 k x1 x2 x3 x4 x1000 bt183.2.1 bt183.2.2))))))
def spec_l02Deep.j4 : Nat → List (S39) → List (S39) → Int → Int → List Int → Int → Int → Option ((List (S39)) × Int × Int × Int)
 | 0, _, _, _, _, _, _, _ => none
 | k + 1, x1, x2, x3, x4, x1000, x1001, x1002 => (spec_l02Deep.f k x1000 x1001 x1002 x1 x2 x3 (wrap64 (x4 - 1))).bind fun bt254 => ((spec_l02Deep.f k x1000 bt254.2.2.1 bt254.2.2.2 bt254.1 x2 x3 (wrap64 (x4 - 1))).bind fun bt260 => ((spec_l01Below.f x1000 bt260.2.2.1 bt260.2.2.2 10).bind fun bt266 => ((spec_l02Push.f bt260.1 (wrap64 (3 + bt266.1)) x3 0 bt254.2.1 bt260.2.1 0).bind fun bt269 => (some (bt269.1, bt269.2, bt266.2.1, bt266.2.2)))))
def spec_l02Deep.f : Nat → List Int → Int → Int → List (S39) → List (S39) → Int → Int → Option ((List (S39)) × Int × Int × Int)
 | 0, _, _, _, _, _, _, _ => none
 | k + 1, s0_0, s0_1, s0_2, l1, l2, a3, a4 => spec_l02Deep.l0 k l1 l2 a3 a4 (([] : List Int)) 0 s0_0 s0_1 s0_2
end
set_option maxHeartbeats 8000000 in
set_option maxRecDepth 100000 in
theorem spec_l02Deep.calls (k : Nat) : ∀ (g : Nat) (s0_0 : List Int) (s0_1 : Int) (s0_2 : Int) (P1_ : Nat → Prop) (u9000_ : Value) (l1 : List (S39)) (A2 : Option Addr) (c2 : Nat) (l2 : List (S39)) (a3 : Int) (a4 : Int) (r1 : List (S39)) (r2 : Int) (r3 : Int) (r4 : Int) (w0 w : World) (hI : IsS58 w0 w g s0_0 s0_1 s0_2) (hB : Below w0.heap.size w0 w) (ho1 : Kd.R k39 39 w w0.heap.size P1_ u9000_ l1) (hr2 : ∀ W_, Kept w W_ (fun k_ => (P1_ k_) ∨ k_ = g) → Kd.C k39 W_ A2 l2.length l2) (hc2 : l2.length ≤ c2) (h : spec_l02Deep.f k s0_0 s0_1 s0_2 l1 l2 a3 a4 = some (r1, r2, r3, r4)),
  Calls Try.prog 59 #[.pointer (some ⟨g, 0, none⟩), u9000_, .slice A2 l2.length c2, .int .i64 a3, .int .i64 a4] w fun e w' => ∃ v0_ : Value, e = .returned (.tuple #[v0_, .int .i64 r2]) ∧ Kd.R k39 39 w' w0.heap.size (fun k_ => (P1_ k_ ∨ w.heap.size ≤ k_)) v0_ r1 ∧ IsS58 w0 w' g s0_0 r3 r4 ∧ Below w0.heap.size w0 w' ∧ Kept w w' (fun k_ => (P1_ k_) ∨ k_ = g) := by
 induction k using Nat.strongRecOn with
 | _ k ih =>
 intro g s0_0 s0_1 s0_2 P1_ u9000_ l1 A2 c2 l2 a3 a4 r1 r2 r3 r4 w0 w hI hB ho1 hr2 hc2 h
 cases k with
 | zero => exact absurd h (by simp [spec_l02Deep.f])
 | succ k =>
 simp only [spec_l02Deep.f] at h
 have hu39 := Try.underlying39
 have HO1 := am (show Kd.R k39 39 w w0.heap.size (fun k_ => (P1_ k_ ∨ w.heap.size ≤ k_)) u9000_ l1 from Kd.R_mono ho1 (fun k_ hk => (.inl hk)))
 have HR2 := am hr2
 have HC2 := am hc2
 clear hr2 hc2
 have HI0 := am hI
 have HL := am hB.size
 clear hI
 have HK := am (Kept.refl w (fun k_ => (P1_ k_) ∨ k_ = g))
 have HW0 := am hB.size
 have HB := am hB
 clear hB
 have H : (spec_l02Deep.l0 k l1 l2 a3 a4 (([] : List Int)) 0 s0_0 s0_1 s0_2) = some (r1, r2, r3, r4) := h
 clear h
 obtain ⟨y127, hy127⟩ : ∃ y_ : List Int, y_ = (([] : List Int)) := ⟨_, rfl⟩
 replace H : (spec_l02Deep.l0 k l1 l2 a3 a4 y127 0 s0_0 s0_1 s0_2) = some (r1, r2, r3, r4) := by (rw [hy127]; with_reducible exact H)
 have Ny127 := am hy127
 clear hy127
 have H' := am H
 clear H
 go_enter Try.func59, Try.ntmps59
 go_wp2_with (first | ((with_reducible refine gate_dst (N := 20) rfl ?_); (try (refine gate_guard (by rfl) ?_; dsimp only)); refine Kd.R_lit (Kd.int .i64) _ 3 ?hg (N := 20) ?hd (xs := ([] : List Int)) (inner := []) (ok := fun _ => True) (okp := fun _ => True) ?hr ?hp (fun _ hk => hk) trivial (Below.refl _ _) (Nat.le_refl _) (by simp) ?_; (case hd => rfl); (case hg => rfl); (case hr => (go_simp; done)); (case hp => exact (Reps.none _ _)); intro v128 w6 ho7 hb hg_ hnew_; clear hg_ hnew_; (rw [← Ny127.out] at ho7); have n0_ := am (Kd.R_below (by exact sR <| HO1.out) hb); have n1_ := am (Kd.R_lower (Kd.R_newM (M := fun k_ => (P1_ k_ ∨ w.heap.size ≤ k_)) ho7 (by exact HK.out.1) (fun k_ h_ => .inr h_)) (below_size (by exact bIsS58))); have n2_ := am (IsS58.below (by exact sIsS58) hb); have n3_ := am (Kept.below (S := (fun k_ => (P1_ k_) ∨ k_ = g)) (by exact kI) hb); have n4_ := am (below_step (by exact bIsS58) hb); clear HO1; clear HI0; clear HK; clear HB; have HO1 := n0_; have HO129 := n1_; have HI0 := n2_; have HK := n3_; have HB := n4_; clear n0_ n1_ n2_ n3_ n4_; clear hb ho7))
 go_loopg [12, 13] k (fun kq v12 v13 w' => ∃ (x12_1 : List Int) (x13_1 : Int), v13 = .int .i64 x13_1 ∧ Aside0 (spec_l02Deep.l0 kq l1 l2 a3 a4 x12_1 x13_1 s0_0 s0_1 s0_2 = some (r1, r2, r3, r4)) ∧ Aside0 (kq ≤ k) ∧ Aside0 (Kd.R k39 39 w' w0.heap.size (fun k_ => (P1_ k_ ∨ w.heap.size ≤ k_)) u9000_ l1) ∧ Aside0 (Kd.R (Kd.int .i64) 3 w' w0.heap.size (fun k_ => (P1_ k_ ∨ w.heap.size ≤ k_)) v12 x12_1) ∧ Aside0 (IsS58 w0 w' g s0_0 s0_1 s0_2) ∧ Aside0 (Kept w w' (fun k_ => (P1_ k_) ∨ k_ = g)) ∧ Aside0 (Below w0.heap.size w0 w'))
 case atStart => exact ⟨(y127), (0), (by rfl), H', ⟨Nat.le_refl _⟩, ⟨by exact sR <| HO1.out⟩, ⟨by exact sR <| Kd.R_mono HO129.out (fun _ hk => hk.1)⟩, ⟨by exact sIsS58⟩, ⟨by exact kI⟩, ⟨by exact bIsS58⟩⟩
 case round => as_aux_lemma =>
  clear H'
  obtain ⟨x12_1, x13_1, rfl, HA, HK1, HO_1, HO_12, HI0, HK, HB⟩ := hrel
  cases gk with
  | zero => exact absurd HA.out (by simp [spec_l02Deep.l0])
  | succ k1 =>
   have H := HA.out
   clear HA
   simp only [spec_l02Deep.l0] at H
   by_cases c8 : x13_1 < (l2.length : Int)
   ·rw [if_pos c8] at H
    have c8b0 : decide (x13_1 < (l2.length : Int)) = true := decide_eq_true c8
    clear c8
    by_cases c9 : 0 ≤ x13_1
    ·rw [if_pos c9] at H
     have c9b0 : decide (0 ≤ x13_1) = true := decide_eq_true c9
     clear c9
     by_cases c10 : ((rd_T39 l2 x13_1).f1) = a3
     ·rw [if_pos c10] at H
      have c10b0 : (((rd_T39 l2 x13_1).f1) == a3) = true := beq_iff_eq.mpr c10
      have c10b1 : (((rd_T39 l2 x13_1).f1) != a3) = false := bne_eq_false_iff_eq.mpr c10
      clear c10
      by_cases c11 : x12_1.length < 17592186044416
      ·rw [if_pos c11] at H
       have LMc11 := am c11
       clear c11
       obtain ⟨y131, hy131⟩ : ∃ y_ : List Int, y_ = (x12_1 ++ [x13_1]) := ⟨_, rfl⟩
       replace H : (spec_l02Deep.l0 k1 l1 l2 a3 a4 y131 (wrap64 (x13_1 + 1)) s0_0 s0_1 s0_2) = some (r1, r2, r3, r4) := by (rw [hy131]; with_reducible exact H)
       have Ny131 := am hy131
       clear hy131
       have H' := am H
       clear H
       have p130 : 0 ≤ (x13_1 : Int) := oD (by assumption)
       have q130 : x13_1 < (l2.length : Int) := oD (by assumption)
       obtain ⟨ad130, e130, hx130_0, hx130_1, hx130_2, hx130_3, hx130_4, hx130_5⟩ := at_T39 (Kd.C_kept_now HR2.out HK.out) x13_1 p130 q130
       cases e130
       replace p130 := eq_true p130
       replace q130 := eq_true q130
       go_wp2_with (first | ((with_reducible refine gate_builtin (b := .append) (xs := #[.tmp 34, .tmp 36]) rfl ?_); (try (refine gate_guard (by rfl) ?_; dsimp only)); at_builtin; refine Kd.R_append (Kd.int .i64) (w0 := w0) w0.heap.size rfl (.tmp 34) (.tmp 36) 24 3 (.int .i64 0) 8 rfl Try.underlying24 info3 rfl (by decide) (by omega) u12 x12_1 x13_1 [.int .i64 x13_1] (fun k_ => (P1_ k_ ∨ w.heap.size ≤ k_)) (fun _ => False) rfl rfl ?aP (fun _ hk => hk.elim) ?aF ?aO ?aB ?aS ?aL ?_; (case aP => exact rfl); (case aB => exact (by exact bIsS58)); (case aF => exact (fun k_ hk => (.inr (Nat.le_trans (by exact HK.out.1) hk)))); (case aO => exact (by exact sR <| HO_12.out)); (case aS => exact (below_size (by exact bIsS58))); (case aL => have := LMc11.out; omega); intro v132 w12 ho hb hg hat; rw [← Ny131.out] at ho; have n0_ := am (Kd.R_over' (by exact sR <| HO_1.out) (Kd.R_typed (by exact sR <| HO_12.out)) (by decide) hg); have n1_ := am (IsS58.grown (by exact sIsS58) hg (IsS58.own_ne HI0.out HO_12.out (by decide))); have n2_ := am (hb); have n3_ := am (Kept.of_grown (S := (fun k_ => (P1_ k_) ∨ k_ = g)) hg (by exact kI) (fun k_ e_ => Or.imp_left Or.inl ((HO_12.out.1 k_ e_)))); have n4_ := am (ho); clear HO_1; clear HI0; clear HB; clear HK; clear HO_12; have HO_1 := n0_; have HI0 := n1_; have HB := n2_; have HK := n3_; have HO133 := n4_; clear n0_ n1_ n2_ n3_ n4_; clear ho hb hg hat))
       go_roundg k1
       case measure => have := HK1.out; omega
       case rel => exact ⟨(y131), (wrap64 (x13_1 + 1)), (by rfl), H', ⟨by have := HK1.out; omega⟩, ⟨by exact sR <| HO_1.out⟩, ⟨by exact sR <| HO133.out⟩, ⟨by exact sIsS58⟩, ⟨by exact kI⟩, ⟨by exact bIsS58⟩⟩
      ·rw [if_neg c11] at H
       exact absurd H (by simp)
     ·rw [if_neg c10] at H
      have c10b0 : (((rd_T39 l2 x13_1).f1) == a3) = false := beq_eq_false_iff_ne.mpr c10
      have c10b1 : (((rd_T39 l2 x13_1).f1) != a3) = true := bne_iff_ne.mpr c10
      have H' := am H
      clear H
      have p130 : 0 ≤ (x13_1 : Int) := oD (by assumption)
      have q130 : x13_1 < (l2.length : Int) := oD (by assumption)
      obtain ⟨ad130, e130, hx130_0, hx130_1, hx130_2, hx130_3, hx130_4, hx130_5⟩ := at_T39 (Kd.C_kept_now HR2.out HK.out) x13_1 p130 q130
      cases e130
      replace p130 := eq_true p130
      replace q130 := eq_true q130
      go_wp2
      go_roundg k1
      case measure => have := HK1.out; omega
      case rel => exact ⟨(x12_1), (wrap64 (x13_1 + 1)), (by rfl), H', ⟨by have := HK1.out; omega⟩, ⟨by exact sR <| HO_1.out⟩, ⟨by exact sR <| HO_12.out⟩, ⟨by exact sIsS58⟩, ⟨by exact kI⟩, ⟨by exact bIsS58⟩⟩
    ·rw [if_neg c9] at H
     exact absurd H (by simp)
   ·rw [if_neg c8] at H
    have c8b0 : decide (x13_1 < (l2.length : Int)) = false := decide_eq_false c8
    clear c8
    have HC13 := am H
    clear H
    go_upto_region 7 with (fail)
    go_cut [48] (fun v48 wc => ∃ (kq : Nat) (x48_12 : Bool) (x1001_12 : Int) (x1002_12 : Int), v48 = .bool x48_12 ∧ Aside0 (spec_l02Deep.j1 kq l1 l2 a3 a4 x12_1 x48_12 s0_0 x1001_12 x1002_12 = some (r1, r2, r3, r4)) ∧ Aside0 (kq ≤ k1) ∧ Aside0 (Kd.R k39 39 wc w0.heap.size (fun k_ => (P1_ k_ ∨ w.heap.size ≤ k_)) u9000_ l1) ∧ Aside0 (Kd.R (Kd.int .i64) 3 wc w0.heap.size (fun k_ => (P1_ k_ ∨ w.heap.size ≤ k_)) u12 x12_1) ∧ Aside0 (IsS58 w0 wc g s0_0 x1001_12 x1002_12) ∧ Aside0 (Kept w wc (fun k_ => (P1_ k_) ∨ k_ = g)) ∧ Aside0 (Below w0.heap.size w0 wc))
    case first => as_aux_lemma =>
     have H := HC13.out
     clear HC13
     by_cases c14 : a4 = 0
     ·rw [if_pos c14] at H
      have c14b0 : (a4 == 0) = true := beq_iff_eq.mpr c14
      have c14b1 : (a4 != 0) = false := bne_eq_false_iff_eq.mpr c14
      clear c14
      (skip)
      have H' := am H
      clear H
      go_wp2
      go_meet
      case rel => exact ⟨_, (true), (s0_1), (s0_2), (by rfl), H', ⟨by have := HK1.out; omega⟩, ⟨by exact sR <| HO_1.out⟩, ⟨by exact sR <| HO_12.out⟩, ⟨by exact sIsS58⟩, ⟨by exact kI⟩, ⟨by exact bIsS58⟩⟩
     ·rw [if_neg c14] at H
      have c14b0 : (a4 == 0) = false := beq_eq_false_iff_ne.mpr c14
      have c14b1 : (a4 != 0) = true := bne_iff_ne.mpr c14
      (skip)
      by_cases c15 : (l1.length : Int) > 40
      ·rw [if_pos c15] at H
       have c15b0 : decide (40 < (l1.length : Int)) = true := decide_eq_true c15
       have c15b1 : decide (40 < l1.length) = true := decide_eq_true (by omega)
       clear c15
       have H' := am H
       clear H
       obtain ⟨Ao16, co16, eo16⟩ := Kd.R_slice HO_1.out
       subst eo16
       go_wp2
       go_meet
       case rel => exact ⟨_, (true), (s0_1), (s0_2), (by rfl), H', ⟨by have := HK1.out; omega⟩, ⟨by exact sR <| HO_1.out⟩, ⟨by exact sR <| HO_12.out⟩, ⟨by exact sIsS58⟩, ⟨by exact kI⟩, ⟨by exact bIsS58⟩⟩
      ·rw [if_neg c15] at H
       have c15b0 : decide (40 < (l1.length : Int)) = false := decide_eq_false c15
       have c15b1 : decide (40 < l1.length) = false := decide_eq_false (by omega)
       clear c15
       replace H := oB H
       obtain ⟨⟨t134, t135, t136⟩, A170, H⟩ := H
       try dsimp only at H
       have A17 := am A170
       clear A170
       have H' := am H
       clear H
       obtain ⟨Ao18, co18, eo18⟩ := Kd.R_slice HO_1.out
       subst eo18
       go_wp2_with (first | (go_at_call 42; (with_reducible refine (spec_l01Once.calls g s0_0 s0_1 s0_2 5 t134 t135 t136 w0 _ ?side1 ?side2 A17.out).mono ?_); (case side1 => exact sIsS58); (case side2 => exact bIsS58); rintro e w19 ⟨rfl, hi, hb, hk⟩; have n0_ := am (Kd.R_mono (Kd.R_keep (IsS58.apart (show IsS58 w0 _ g s0_0 s0_1 s0_2 from by exact sIsS58) (by exact sR <| HO_1.out) (by decide)) hk (fun _ h => h.2)) (fun _ h => h.1)); have n1_ := am (Kd.R_mono (Kd.R_keep (IsS58.apart (show IsS58 w0 _ g s0_0 s0_1 s0_2 from by exact sIsS58) (by exact sR <| HO_12.out) (by decide)) hk (fun _ h => h.2)) (fun _ h => h.1)); have n2_ := am (Kept.of_keep (S := (fun k_ => (P1_ k_) ∨ k_ = g)) (by exact kI) hk (.inl (.inr rfl))); have n3_ := am (hb); have n4_ := am (hi); clear HO_1; clear HO_12; clear HK; clear HB; clear HI0; have HO_1 := n0_; have HO_12 := n1_; have HK := n2_; have HB := n3_; have HI0 := n4_; clear n0_ n1_ n2_ n3_ n4_; (try clear hb); (try clear hb2); (try clear hk); (try clear hi)))
       go_meet
       case rel => exact ⟨_, (t134), (t135), (t136), (by rfl), H', ⟨by have := HK1.out; omega⟩, ⟨by exact sR <| HO_1.out⟩, ⟨by exact sR <| HO_12.out⟩, ⟨by exact sIsS58⟩, ⟨by exact kI⟩, ⟨by exact bIsS58⟩⟩
    case rest => as_aux_lemma =>
     clear HC13
     clear c8b0
     obtain ⟨kq, x48_12, x1001_12, x1002_12, rfl, HA, HJ12, HO_1, HO_12, HI0, HK, HB⟩ := hcut
     cases kq with
     | zero => exact absurd HA.out (by simp [spec_l02Deep.j1])
     | succ kj12 =>
      have H := HA.out
      clear HA
      simp only [spec_l02Deep.j1] at H
      by_cases c20 : x48_12 = true
      ·subst c20
       rw [if_pos rfl] at H
       have HC21 := am H
       clear H
       go_upto_region 8 with (fail)
       go_cut [56] (fun v56 wc => ∃ (kq : Nat) (x56_20 : Bool) (x1001_20 : Int) (x1002_20 : Int), v56 = .bool x56_20 ∧ Aside0 (spec_l02Deep.j2 kq l1 l2 a3 x12_1 x56_20 s0_0 x1001_20 x1002_20 = some (r1, r2, r3, r4)) ∧ Aside0 (kq ≤ kj12) ∧ Aside0 (Kd.R k39 39 wc w0.heap.size (fun k_ => (P1_ k_ ∨ w.heap.size ≤ k_)) u9000_ l1) ∧ Aside0 (Kd.R (Kd.int .i64) 3 wc w0.heap.size (fun k_ => (P1_ k_ ∨ w.heap.size ≤ k_)) u12 x12_1) ∧ Aside0 (IsS58 w0 wc g s0_0 x1001_20 x1002_20) ∧ Aside0 (Kept w wc (fun k_ => (P1_ k_) ∨ k_ = g)) ∧ Aside0 (Below w0.heap.size w0 wc))
       case first => as_aux_lemma =>
        have H := HC21.out
        clear HC21
        by_cases c22 : (x12_1.length : Int) > 0
        ·rw [if_pos c22] at H
         have c22b0 : decide (0 < (x12_1.length : Int)) = true := decide_eq_true c22
         have c22b1 : decide (0 < x12_1.length) = true := decide_eq_true (by omega)
         have c22p : 0 < x12_1.length := by omega
         clear c22
         (skip)
         replace H := oB H
         obtain ⟨⟨t137, t138, t139⟩, A230, H⟩ := H
         try dsimp only at H
         have A23 := am A230
         clear A230
         have H' := am H
         clear H
         obtain ⟨Ao24, co24, eo24⟩ := Kd.R_slice HO_12.out
         subst eo24
         go_wp2_with (first | (go_at_call 42; (with_reducible refine (spec_l01Once.calls g s0_0 x1001_12 x1002_12 4 t137 t138 t139 w0 _ ?side1 ?side2 A23.out).mono ?_); (case side1 => exact sIsS58); (case side2 => exact bIsS58); rintro e w25 ⟨rfl, hi, hb, hk⟩; have n0_ := am (Kd.R_mono (Kd.R_keep (IsS58.apart (show IsS58 w0 _ g s0_0 x1001_12 x1002_12 from by exact sIsS58) (by exact sR <| HO_1.out) (by decide)) hk (fun _ h => h.2)) (fun _ h => h.1)); have n1_ := am (Kd.R_mono (Kd.R_keep (IsS58.apart (show IsS58 w0 _ g s0_0 x1001_12 x1002_12 from by exact sIsS58) (by exact sR <| HO_12.out) (by decide)) hk (fun _ h => h.2)) (fun _ h => h.1)); have n2_ := am (Kept.of_keep (S := (fun k_ => (P1_ k_) ∨ k_ = g)) (by exact kI) hk (.inl (.inr rfl))); have n3_ := am (hb); have n4_ := am (hi); clear HO_1; clear HO_12; clear HK; clear HB; clear HI0; have HO_1 := n0_; have HO_12 := n1_; have HK := n2_; have HB := n3_; have HI0 := n4_; clear n0_ n1_ n2_ n3_ n4_; (try clear hb); (try clear hb2); (try clear hk); (try clear hi)))
         go_meet
         case rel => exact ⟨_, (!t137), (t138), (t139), (by rfl), H', ⟨by have := HK1.out; have := HJ12.out; omega⟩, ⟨by exact sR <| HO_1.out⟩, ⟨by exact sR <| HO_12.out⟩, ⟨by exact sIsS58⟩, ⟨by exact kI⟩, ⟨by exact bIsS58⟩⟩
        ·rw [if_neg c22] at H
         have c22b0 : decide (0 < (x12_1.length : Int)) = false := decide_eq_false c22
         have c22b1 : decide (0 < x12_1.length) = false := decide_eq_false (by omega)
         have c22p : ¬ 0 < x12_1.length := by omega
         clear c22
         (skip)
         have H' := am H
         clear H
         obtain ⟨Ao26, co26, eo26⟩ := Kd.R_slice HO_12.out
         subst eo26
         go_wp2
         go_meet
         case rel => exact ⟨_, (false), (x1001_12), (x1002_12), (by rfl), H', ⟨by have := HK1.out; have := HJ12.out; omega⟩, ⟨by exact sR <| HO_1.out⟩, ⟨by exact sR <| HO_12.out⟩, ⟨by exact sIsS58⟩, ⟨by exact kI⟩, ⟨by exact bIsS58⟩⟩
       case rest => as_aux_lemma =>
        clear HC21
        obtain ⟨kq, x56_20, x1001_20, x1002_20, rfl, HA, HJ20, HO_1, HO_12, HI0, HK, HB⟩ := hcut
        cases kq with
        | zero => exact absurd HA.out (by simp [spec_l02Deep.j2])
        | succ kj20 =>
         have H := HA.out
         clear HA
         simp only [spec_l02Deep.j2] at H
         by_cases c27 : x56_20 = true
         ·subst c27
          rw [if_pos rfl] at H
          replace H := oB H
          obtain ⟨⟨t140, t141, t142⟩, A280, H⟩ := H
          try dsimp only at H
          have A28 := am A280
          clear A280
          by_cases c29 : 0 ≤ t140
          ·rw [if_pos c29] at H
           have c29b0 : decide (0 ≤ t140) = true := decide_eq_true c29
           clear c29
           by_cases c30 : t140 < (x12_1.length : Int)
           ·rw [if_pos c30] at H
            have c30b0 : decide (t140 < (x12_1.length : Int)) = true := decide_eq_true c30
            clear c30
            by_cases c31 : 0 ≤ (rd x12_1 t140)
            ·rw [if_pos c31] at H
             have c31b0 : decide (0 ≤ (rd x12_1 t140)) = true := decide_eq_true c31
             clear c31
             by_cases c32 : (rd x12_1 t140) < (l2.length : Int)
             ·rw [if_pos c32] at H
              have c32b0 : decide ((rd x12_1 t140) < (l2.length : Int)) = true := decide_eq_true c32
              clear c32
              replace H := oB H
              obtain ⟨⟨t145, t148⟩, A330, H⟩ := H
              try dsimp only at H
              have A33 := am A330
              clear A330
              simp only [Option.some.injEq, Prod.mk.injEq] at H
              obtain ⟨rfl, rfl, rfl, rfl⟩ := H
              obtain ⟨Ao34, co34, eo34⟩ := Kd.R_slice HO_12.out
              subst eo34
              go_wp2_with (first | ((with_reducible refine gate_callee (f := 43) rfl ?_); refine goesL_ (some 63) rfl rfl Try.func43 (by kernel_rfl) rfl #[.pointer (some ⟨g, 0, none⟩), .int .i64 (x12_1.length : Int)] rfl tm ?_; (with_reducible refine (spec_l01Below.calls g s0_0 x1001_20 x1002_20 (x12_1.length : Int) t140 t141 t142 w0 _ ?side1 ?side2 A28.out).mono ?_); (case side1 => exact sIsS58); (case side2 => exact bIsS58); rintro e w35 ⟨rfl, hi, hb, hk⟩; refine ⟨_, rfl, ?_⟩; have n0_ := am (Kd.R_mono (Kd.R_keep (IsS58.apart (show IsS58 w0 _ g s0_0 x1001_20 x1002_20 from by exact sIsS58) (by exact sR <| HO_1.out) (by decide)) hk (fun _ h => h.2)) (fun _ h => h.1)); have n1_ := am (Kd.R_mono (Kd.R_keep (IsS58.apart (show IsS58 w0 _ g s0_0 x1001_20 x1002_20 from by exact sIsS58) (by exact sR <| HO_12.out) (by decide)) hk (fun _ h => h.2)) (fun _ h => h.1)); have n2_ := am (Kept.of_keep (S := (fun k_ => (P1_ k_) ∨ k_ = g)) (by exact kI) hk (.inl (.inr rfl))); have n3_ := am (hb); have n4_ := am (hi); clear HO_1; clear HO_12; clear HK; clear HB; clear HI0; have HO_1 := n0_; have HO_12 := n1_; have HK := n2_; have HB := n3_; have HI0 := n4_; clear n0_ n1_ n2_ n3_ n4_; (try clear hb); (try clear hb2); (try clear hk); (try clear hi); have p143 : 0 ≤ (t140 : Int) := oD (by assumption); have q143 : t140 < (x12_1.length : Int) := oD (by assumption); obtain ⟨ad143, e143, hx143_0⟩ := Kd.at_int (Kd.R_reads' HO_12.out).2.2 t140 p143 q143; cases e143; replace p143 := eq_true p143; replace q143 := eq_true q143; have p144 : 0 ≤ ((rd x12_1 t140) : Int) := oD (by assumption); have q144 : (rd x12_1 t140) < (l2.length : Int) := oD (by assumption); obtain ⟨ad144, e144, hx144_0, hx144_1, hx144_2, hx144_3, hx144_4, hx144_5⟩ := at_T39 (Kd.C_kept_now HR2.out HK.out) (rd x12_1 t140) p144 q144; cases e144; replace p144 := eq_true p144; replace q144 := eq_true q144; obtain ⟨Ao36, co36, eo36⟩ := Kd.R_slice HO_1.out; subst eo36) | ((with_reducible refine gate_callee (f := 58) rfl ?_); refine goesL_ (some 68) rfl rfl Try.func58 (by kernel_rfl) rfl #[.slice Ao36 l1.length co36, .agg #[.int .i64 ((rd_T39 l2 (rd x12_1 t140)).f0), .int .i64 ((rd_T39 l2 (rd x12_1 t140)).f1), .int .i64 ((rd_T39 l2 (rd x12_1 t140)).f2), .int .i64 ((rd_T39 l2 (rd x12_1 t140)).f3), .int .i64 ((rd_T39 l2 (rd x12_1 t140)).f4), .int .i64 ((rd_T39 l2 (rd x12_1 t140)).f5)]] rfl tm ?_; (with_reducible refine (spec_l02Push.calls (fun k_ => some k_ = (.slice Ao36 l1.length co36 : Value).ownBlock) (.slice Ao36 l1.length co36) l1 ((rd_T39 l2 (rd x12_1 t140)).f0) ((rd_T39 l2 (rd x12_1 t140)).f1) ((rd_T39 l2 (rd x12_1 t140)).f2) ((rd_T39 l2 (rd x12_1 t140)).f3) ((rd_T39 l2 (rd x12_1 t140)).f4) ((rd_T39 l2 (rd x12_1 t140)).f5) t145 t148 w0 _ ?side1 ?side2 A33.out).mono ?_); (case side1 => exact bIsS58); (case side2 => exact Kd.R_tight rfl HO_1.out); rintro e w37 ⟨v146, rfl, ho0, hb, hkp⟩; refine ⟨_, rfl, ?_⟩; have n0_ := am (Kd.R_mono (ok' := fun k_ => (P1_ k_ ∨ w.heap.size ≤ k_)) (Kd.R_keptB ((Kd.R_apart' HO_12.out (Kd.R_typed HO_1.out) (by decide))) hkp (fun k_ hk_ hs_ => (hk_.2) hs_)) (fun k_ hk_ => hk_.1.1)); have n1_ := am (IsS58.kept (by exact sIsS58) hkp (fun hs_ => (fun e_ => (IsS58.own_ne HI0.out HO_1.out (by decide)) e_) hs_)); have n2_ := am (Kd.R_mono (ok' := fun k_ => (P1_ k_ ∨ w.heap.size ≤ k_)) ho0 (fun k_ hk_ => Or.elim hk_ (fun hs_ => (HO_1.out.1 k_ (hs_).symm)) (fun hn_ => (.inr (Nat.le_trans (by exact HK.out.1) hn_))))); have n3_ := am (Kept.then_ (S := (fun k_ => (P1_ k_) ∨ k_ = g)) (by exact kI) hkp (fun k_ hs_ => (fun e_ => Or.imp_left Or.inl ((HO_1.out.1 k_ e_.symm))) hs_)); have n4_ := am (hb); clear HO_12; clear HI0; clear HK; clear HB; clear HO_1; have HO_12 := n0_; have HI0 := n1_; have HO147 := n2_; have HK := n3_; have HB := n4_; clear n0_ n1_ n2_ n3_ n4_; (try clear hb); (try clear hkp); (try clear ho0)))
              go_ret2
              exact ⟨_, by rfl, by exact sR <| HO147.out, by exact sIsS58, by exact bIsS58, by exact kI⟩
             ·rw [if_neg c32] at H
              exact absurd H (by simp)
            ·rw [if_neg c31] at H
             exact absurd H (by simp)
           ·rw [if_neg c30] at H
            exact absurd H (by simp)
          ·rw [if_neg c29] at H
           exact absurd H (by simp)
         ·replace c27 := Bool.eq_false_iff.mpr c27
          subst c27
          rw [if_neg (show ¬ (false = true) by decide)] at H
          replace H := oB H
          obtain ⟨t149, A380, H⟩ := H
          have A38 := am A380
          clear A380
          replace H := oB H
          obtain ⟨⟨t150, t151, t152⟩, A390, H⟩ := H
          try dsimp only at H
          have A39 := am A390
          clear A390
          replace H := oB H
          obtain ⟨⟨t153, t156⟩, A400, H⟩ := H
          try dsimp only at H
          have A40 := am A400
          clear A400
          simp only [Option.some.injEq, Prod.mk.injEq] at H
          obtain ⟨rfl, rfl, rfl, rfl⟩ := H
          go_wp2_with (first | ((with_reducible refine gate_callee (f := 54) rfl ?_); refine goesL_ (some 75) rfl rfl Try.func54 (by kernel_rfl) rfl #[.int .i64 a3] rfl tm ?_; (with_reducible refine (spec_l01Pow2.calls kj20 a3 t149 _ A38.out).mono ?_); rintro e w' ⟨rfl, ⟨nd, rfl⟩⟩; refine ⟨_, rfl, ?_⟩) | ((with_reducible refine gate_callee (f := 43) rfl ?_); refine goesL_ (some 76) rfl rfl Try.func43 (by kernel_rfl) rfl #[.pointer (some ⟨g, 0, none⟩), .int .i64 t149] rfl tm ?_; (with_reducible refine (spec_l01Below.calls g s0_0 x1001_20 x1002_20 t149 t150 t151 t152 w0 _ ?side1 ?side2 A39.out).mono ?_); (case side1 => exact sIsS58); (case side2 => exact bIsS58); rintro e w41 ⟨rfl, hi, hb, hk⟩; refine ⟨_, rfl, ?_⟩; have n0_ := am (Kd.R_mono (Kd.R_keep (IsS58.apart (show IsS58 w0 _ g s0_0 x1001_20 x1002_20 from by exact sIsS58) (by exact sR <| HO_1.out) (by decide)) hk (fun _ h => h.2)) (fun _ h => h.1)); have n1_ := am (Kd.R_mono (Kd.R_keep (IsS58.apart (show IsS58 w0 _ g s0_0 x1001_20 x1002_20 from by exact sIsS58) (by exact sR <| HO_12.out) (by decide)) hk (fun _ h => h.2)) (fun _ h => h.1)); have n2_ := am (Kept.of_keep (S := (fun k_ => (P1_ k_) ∨ k_ = g)) (by exact kI) hk (.inl (.inr rfl))); have n3_ := am (hb); have n4_ := am (hi); clear HO_1; clear HO_12; clear HK; clear HB; clear HI0; have HO_1 := n0_; have HO_12 := n1_; have HK := n2_; have HB := n3_; have HI0 := n4_; clear n0_ n1_ n2_ n3_ n4_; (try clear hb); (try clear hb2); (try clear hk); (try clear hi); obtain ⟨Ao42, co42, eo42⟩ := Kd.R_slice HO_1.out; subst eo42) | ((with_reducible refine gate_callee (f := 58) rfl ?_); refine goesL_ (some 78) rfl rfl Try.func58 (by kernel_rfl) rfl #[.slice Ao42 l1.length co42, .agg #[.int .i64 0, .int .i64 a3, .int .i64 t150, .int .i64 0, .int .i64 0, .int .i64 0]] rfl tm ?_; (with_reducible refine (spec_l02Push.calls (fun k_ => some k_ = (.slice Ao42 l1.length co42 : Value).ownBlock) (.slice Ao42 l1.length co42) l1 0 a3 t150 0 0 0 t153 t156 w0 _ ?side1 ?side2 A40.out).mono ?_); (case side1 => exact bIsS58); (case side2 => exact Kd.R_tight rfl HO_1.out); rintro e w43 ⟨v154, rfl, ho0, hb, hkp⟩; refine ⟨_, rfl, ?_⟩; have n0_ := am (Kd.R_mono (ok' := fun k_ => (P1_ k_ ∨ w.heap.size ≤ k_)) (Kd.R_keptB ((Kd.R_apart' HO_12.out (Kd.R_typed HO_1.out) (by decide))) hkp (fun k_ hk_ hs_ => (hk_.2) hs_)) (fun k_ hk_ => hk_.1.1)); have n1_ := am (IsS58.kept (by exact sIsS58) hkp (fun hs_ => (fun e_ => (IsS58.own_ne HI0.out HO_1.out (by decide)) e_) hs_)); have n2_ := am (Kd.R_mono (ok' := fun k_ => (P1_ k_ ∨ w.heap.size ≤ k_)) ho0 (fun k_ hk_ => Or.elim hk_ (fun hs_ => (HO_1.out.1 k_ (hs_).symm)) (fun hn_ => (.inr (Nat.le_trans (by exact HK.out.1) hn_))))); have n3_ := am (Kept.then_ (S := (fun k_ => (P1_ k_) ∨ k_ = g)) (by exact kI) hkp (fun k_ hs_ => (fun e_ => Or.imp_left Or.inl ((HO_1.out.1 k_ e_.symm))) hs_)); have n4_ := am (hb); clear HO_12; clear HI0; clear HK; clear HB; clear HO_1; have HO_12 := n0_; have HI0 := n1_; have HO155 := n2_; have HK := n3_; have HB := n4_; clear n0_ n1_ n2_ n3_ n4_; (try clear hb); (try clear hkp); (try clear ho0)))
          go_ret2
          exact ⟨_, by rfl, by exact sR <| HO155.out, by exact sIsS58, by exact bIsS58, by exact kI⟩
      ·replace c20 := Bool.eq_false_iff.mpr c20
       subst c20
       rw [if_neg (show ¬ (false = true) by decide)] at H
       have HC44 := am H
       clear H
       go_upto_region 12 with (fail)
       go_cut [91] (fun v91 wc => ∃ (kq : Nat) (x91_43 : Bool) (x1001_43 : Int) (x1002_43 : Int), v91 = .bool x91_43 ∧ Aside0 (spec_l02Deep.j3 kq l1 l2 a3 a4 x91_43 s0_0 x1001_43 x1002_43 = some (r1, r2, r3, r4)) ∧ Aside0 (kq ≤ kj12) ∧ Aside0 (Kd.R k39 39 wc w0.heap.size (fun k_ => (P1_ k_ ∨ w.heap.size ≤ k_)) u9000_ l1) ∧ Aside0 (IsS58 w0 wc g s0_0 x1001_43 x1002_43) ∧ Aside0 (Kept w wc (fun k_ => (P1_ k_) ∨ k_ = g)) ∧ Aside0 (Below w0.heap.size w0 wc))
       case first => as_aux_lemma =>
        have H := HC44.out
        clear HC44
        by_cases c45 : a3 = 1
        ·rw [if_pos c45] at H
         have c45b0 : (a3 == 1) = true := beq_iff_eq.mpr c45
         have c45b1 : (a3 != 1) = false := bne_eq_false_iff_eq.mpr c45
         clear c45
         (skip)
         by_cases c46 : (l2.length : Int) > 0
         ·rw [if_pos c46] at H
          have c46b0 : decide (0 < (l2.length : Int)) = true := decide_eq_true c46
          have c46b1 : decide (0 < l2.length) = true := decide_eq_true (by omega)
          have c46p : 0 < l2.length := by omega
          clear c46
          replace H := oB H
          obtain ⟨⟨t157, t158, t159⟩, A470, H⟩ := H
          try dsimp only at H
          have A47 := am A470
          clear A470
          have H' := am H
          clear H
          go_wp2_with (first | (go_at_call 42; (with_reducible refine (spec_l01Once.calls g s0_0 x1001_12 x1002_12 2 t157 t158 t159 w0 _ ?side1 ?side2 A47.out).mono ?_); (case side1 => exact sIsS58); (case side2 => exact bIsS58); rintro e w48 ⟨rfl, hi, hb, hk⟩; have n0_ := am (Kd.R_mono (Kd.R_keep (IsS58.apart (show IsS58 w0 _ g s0_0 x1001_12 x1002_12 from by exact sIsS58) (by exact sR <| HO_1.out) (by decide)) hk (fun _ h => h.2)) (fun _ h => h.1)); have n1_ := am (Kd.R_mono (Kd.R_keep (IsS58.apart (show IsS58 w0 _ g s0_0 x1001_12 x1002_12 from by exact sIsS58) (by exact sR <| HO_12.out) (by decide)) hk (fun _ h => h.2)) (fun _ h => h.1)); have n2_ := am (Kept.of_keep (S := (fun k_ => (P1_ k_) ∨ k_ = g)) (by exact kI) hk (.inl (.inr rfl))); have n3_ := am (hb); have n4_ := am (hi); clear HO_1; clear HO_12; clear HK; clear HB; clear HI0; have HO_1 := n0_; have HO_12 := n1_; have HK := n2_; have HB := n3_; have HI0 := n4_; clear n0_ n1_ n2_ n3_ n4_; (try clear hb); (try clear hb2); (try clear hk); (try clear hi)))
          go_meet
          case rel => exact ⟨_, (t157), (t158), (t159), (by rfl), H', ⟨by have := HK1.out; have := HJ12.out; omega⟩, ⟨by exact sR <| HO_1.out⟩, ⟨by exact sIsS58⟩, ⟨by exact kI⟩, ⟨by exact bIsS58⟩⟩
         ·rw [if_neg c46] at H
          have c46b0 : decide (0 < (l2.length : Int)) = false := decide_eq_false c46
          have c46b1 : decide (0 < l2.length) = false := decide_eq_false (by omega)
          have c46p : ¬ 0 < l2.length := by omega
          clear c46
          have H' := am H
          clear H
          go_wp2
          go_meet
          case rel => exact ⟨_, (false), (x1001_12), (x1002_12), (by rfl), H', ⟨by have := HK1.out; have := HJ12.out; omega⟩, ⟨by exact sR <| HO_1.out⟩, ⟨by exact sIsS58⟩, ⟨by exact kI⟩, ⟨by exact bIsS58⟩⟩
        ·rw [if_neg c45] at H
         have c45b0 : (a3 == 1) = false := beq_eq_false_iff_ne.mpr c45
         have c45b1 : (a3 != 1) = true := bne_iff_ne.mpr c45
         (skip)
         have H' := am H
         clear H
         go_wp2
         go_meet
         case rel => exact ⟨_, (false), (x1001_12), (x1002_12), (by rfl), H', ⟨by have := HK1.out; have := HJ12.out; omega⟩, ⟨by exact sR <| HO_1.out⟩, ⟨by exact sIsS58⟩, ⟨by exact kI⟩, ⟨by exact bIsS58⟩⟩
       case rest => as_aux_lemma =>
        clear HC44
        obtain ⟨kq, x91_43, x1001_43, x1002_43, rfl, HA, HJ43, HO_1, HI0, HK, HB⟩ := hcut
        cases kq with
        | zero => exact absurd HA.out (by simp [spec_l02Deep.j3])
        | succ kj43 =>
         have H := HA.out
         clear HA
         simp only [spec_l02Deep.j3] at H
         by_cases c49 : x91_43 = true
         ·subst c49
          rw [if_pos rfl] at H
          replace H := oB H
          obtain ⟨⟨t160, t161, t162⟩, A500, H⟩ := H
          try dsimp only at H
          have A50 := am A500
          clear A500
          by_cases c51 : 0 ≤ t160
          ·rw [if_pos c51] at H
           have c51b0 : decide (0 ≤ t160) = true := decide_eq_true c51
           clear c51
           by_cases c52 : t160 < (l2.length : Int)
           ·rw [if_pos c52] at H
            have c52b0 : decide (t160 < (l2.length : Int)) = true := decide_eq_true c52
            clear c52
            replace H := oB H
            obtain ⟨⟨t164, t167, t168, t169⟩, A530, H⟩ := H
            try dsimp only at H
            have A53 := am A530
            clear A530
            replace H := oB H
            obtain ⟨⟨t170, t173, t174, t175⟩, A540, H⟩ := H
            try dsimp only at H
            have A54 := am A540
            clear A540
            replace H := oB H
            obtain ⟨⟨t176, t177, t178⟩, A550, H⟩ := H
            try dsimp only at H
            have A55 := am A550
            clear A550
            replace H := oB H
            obtain ⟨⟨t179, t182⟩, A560, H⟩ := H
            try dsimp only at H
            have A56 := am A560
            clear A560
            simp only [Option.some.injEq, Prod.mk.injEq] at H
            obtain ⟨rfl, rfl, rfl, rfl⟩ := H
            go_wp2_with (first | ((with_reducible refine gate_callee (f := 43) rfl ?_); refine goesL_ (some 96) rfl rfl Try.func43 (by kernel_rfl) rfl #[.pointer (some ⟨g, 0, none⟩), .int .i64 (l2.length : Int)] rfl tm ?_; (with_reducible refine (spec_l01Below.calls g s0_0 x1001_43 x1002_43 (l2.length : Int) t160 t161 t162 w0 _ ?side1 ?side2 A50.out).mono ?_); (case side1 => exact sIsS58); (case side2 => exact bIsS58); rintro e w57 ⟨rfl, hi, hb, hk⟩; refine ⟨_, rfl, ?_⟩; have n0_ := am (Kd.R_mono (Kd.R_keep (IsS58.apart (show IsS58 w0 _ g s0_0 x1001_43 x1002_43 from by exact sIsS58) (by exact sR <| HO_1.out) (by decide)) hk (fun _ h => h.2)) (fun _ h => h.1)); have n1_ := am (Kept.of_keep (S := (fun k_ => (P1_ k_) ∨ k_ = g)) (by exact kI) hk (.inl (.inr rfl))); have n2_ := am (hb); have n3_ := am (hi); clear HO_1; clear HK; clear HB; clear HI0; have HO_1 := n0_; have HK := n1_; have HB := n2_; have HI0 := n3_; clear n0_ n1_ n2_ n3_; (try clear hb); (try clear hb2); (try clear hk); (try clear hi); have p163 : 0 ≤ (t160 : Int) := oD (by assumption); have q163 : t160 < (l2.length : Int) := oD (by assumption); obtain ⟨ad163, e163, hx163_0, hx163_1, hx163_2, hx163_3, hx163_4, hx163_5⟩ := at_T39 (Kd.C_kept_now HR2.out HK.out) t160 p163 q163; cases e163; replace p163 := eq_true p163; replace q163 := eq_true q163; obtain ⟨Ao58, co58, eo58⟩ := Kd.R_slice HO_1.out; subst eo58) | ((with_reducible refine gate_callee (f := 59) rfl ?_); refine goesL_ (some 107) rfl rfl Try.func59 (by kernel_rfl) rfl #[.pointer (some ⟨g, 0, none⟩), .slice Ao58 l1.length co58, .slice (some ad163) l2.length c2, .int .i64 ((rd_T39 l2 t160).f1), .int .i64 (wrap64 (a4 - 1))] rfl tm ?_; (with_reducible refine (ih kj43 (by have := HK1.out; have := HJ12.out; have := HJ43.out; omega) g s0_0 t161 t162 (fun k_ => some k_ = (.slice Ao58 l1.length co58 : Value).ownBlock) (.slice Ao58 l1.length co58) l1 _ _ l2 ((rd_T39 l2 t160).f1) (wrap64 (a4 - 1)) t164 t167 t168 t169 w0 _ ?side1 ?side2 ?side3 ?side4 ?side5 A53.out).mono ?_); (case side1 => exact sIsS58); (case side2 => exact bIsS58); (case side3 => exact Kd.R_tight rfl HO_1.out); (case side4 => exact Kd.C_kept_call HR2.out (by exact kI) (fun k_ hs_ => Or.elim hs_ (fun hs_ => (fun e_ => Or.imp_left Or.inl ((HO_1.out.1 k_ e_.symm))) hs_) (fun e_ => .inl (.inr e_)))); (case side5 => exact HC2.out); rintro e w59 ⟨v165, rfl, ho0, hi, hb, hkp⟩; refine ⟨_, rfl, ?_⟩; have n0_ := am (hi); have n1_ := am (Kd.R_mono (ok' := fun k_ => (P1_ k_ ∨ w.heap.size ≤ k_)) ho0 (fun k_ hk_ => Or.elim hk_ (fun hs_ => (HO_1.out.1 k_ (hs_).symm)) (fun hn_ => (.inr (Nat.le_trans (by exact HK.out.1) hn_))))); have n2_ := am (Kept.then_ (S := (fun k_ => (P1_ k_) ∨ k_ = g)) (by exact kI) hkp (fun k_ hs_ => Or.elim hs_ (fun hs_ => (fun e_ => Or.imp_left Or.inl ((HO_1.out.1 k_ e_.symm))) hs_) (fun e_ => .inl (.inr e_)))); have n3_ := am (hb); clear HI0; clear HK; clear HB; clear HO_1; have HI0 := n0_; have HO166 := n1_; have HK := n2_; have HB := n3_; clear n0_ n1_ n2_ n3_; (try clear hb); (try clear hkp); (try clear ho0); obtain ⟨Ao60, co60, eo60⟩ := Kd.R_slice HO166.out; subst eo60) | ((with_reducible refine gate_callee (f := 59) rfl ?_); refine goesL_ (some 117) rfl rfl Try.func59 (by kernel_rfl) rfl #[.pointer (some ⟨g, 0, none⟩), .slice Ao60 t164.length co60, .slice (some ad163) l2.length c2, .int .i64 ((rd_T39 l2 t160).f1), .int .i64 (wrap64 (a4 - 1))] rfl tm ?_; (with_reducible refine (ih kj43 (by have := HK1.out; have := HJ12.out; have := HJ43.out; omega) g s0_0 t168 t169 (fun k_ => some k_ = (.slice Ao60 t164.length co60 : Value).ownBlock) (.slice Ao60 t164.length co60) t164 _ _ l2 ((rd_T39 l2 t160).f1) (wrap64 (a4 - 1)) t170 t173 t174 t175 w0 _ ?side1 ?side2 ?side3 ?side4 ?side5 A54.out).mono ?_); (case side1 => exact sIsS58); (case side2 => exact bIsS58); (case side3 => exact Kd.R_tight rfl HO166.out); (case side4 => exact Kd.C_kept_call HR2.out (by exact kI) (fun k_ hs_ => Or.elim hs_ (fun hs_ => (fun e_ => Or.imp_left Or.inl ((HO166.out.1 k_ e_.symm))) hs_) (fun e_ => .inl (.inr e_)))); (case side5 => exact HC2.out); rintro e w61 ⟨v171, rfl, ho0, hi, hb, hkp⟩; refine ⟨_, rfl, ?_⟩; have n0_ := am (hi); have n1_ := am (Kd.R_mono (ok' := fun k_ => (P1_ k_ ∨ w.heap.size ≤ k_)) ho0 (fun k_ hk_ => Or.elim hk_ (fun hs_ => (HO166.out.1 k_ (hs_).symm)) (fun hn_ => (.inr (Nat.le_trans (by exact HK.out.1) hn_))))); have n2_ := am (Kept.then_ (S := (fun k_ => (P1_ k_) ∨ k_ = g)) (by exact kI) hkp (fun k_ hs_ => Or.elim hs_ (fun hs_ => (fun e_ => Or.imp_left Or.inl ((HO166.out.1 k_ e_.symm))) hs_) (fun e_ => .inl (.inr e_)))); have n3_ := am (hb); clear HI0; clear HK; clear HB; clear HO166; have HI0 := n0_; have HO172 := n1_; have HK := n2_; have HB := n3_; clear n0_ n1_ n2_ n3_; (try clear hb); (try clear hkp); (try clear ho0)) | ((with_reducible refine gate_callee (f := 43) rfl ?_); refine goesL_ (some 122) rfl rfl Try.func43 (by kernel_rfl) rfl #[.pointer (some ⟨g, 0, none⟩), .int .i64 3] rfl tm ?_; (with_reducible refine (spec_l01Below.calls g s0_0 t174 t175 3 t176 t177 t178 w0 _ ?side1 ?side2 A55.out).mono ?_); (case side1 => exact sIsS58); (case side2 => exact bIsS58); rintro e w62 ⟨rfl, hi, hb, hk⟩; refine ⟨_, rfl, ?_⟩; have n0_ := am (Kd.R_mono (Kd.R_keep (IsS58.apart (show IsS58 w0 _ g s0_0 t174 t175 from by exact sIsS58) (by exact sR <| HO172.out) (by decide)) hk (fun _ h => h.2)) (fun _ h => h.1)); have n1_ := am (Kept.of_keep (S := (fun k_ => (P1_ k_) ∨ k_ = g)) (by exact kI) hk (.inl (.inr rfl))); have n2_ := am (hb); have n3_ := am (hi); clear HO172; clear HK; clear HB; clear HI0; have HO172 := n0_; have HK := n1_; have HB := n2_; have HI0 := n3_; clear n0_ n1_ n2_ n3_; (try clear hb); (try clear hb2); (try clear hk); (try clear hi); obtain ⟨Ao63, co63, eo63⟩ := Kd.R_slice HO172.out; subst eo63) | ((with_reducible refine gate_callee (f := 58) rfl ?_); refine goesL_ (some 127) rfl rfl Try.func58 (by kernel_rfl) rfl #[.slice Ao63 t170.length co63, .agg #[.int .i64 (wrap64 (13 + t176)), .int .i64 1, .int .i64 0, .int .i64 t167, .int .i64 t173, .int .i64 0]] rfl tm ?_; (with_reducible refine (spec_l02Push.calls (fun k_ => some k_ = (.slice Ao63 t170.length co63 : Value).ownBlock) (.slice Ao63 t170.length co63) t170 (wrap64 (13 + t176)) 1 0 t167 t173 0 t179 t182 w0 _ ?side1 ?side2 A56.out).mono ?_); (case side1 => exact bIsS58); (case side2 => exact Kd.R_tight rfl HO172.out); rintro e w64 ⟨v180, rfl, ho0, hb, hkp⟩; refine ⟨_, rfl, ?_⟩; have n0_ := am (IsS58.kept (by exact sIsS58) hkp (fun hs_ => (fun e_ => (IsS58.own_ne HI0.out HO172.out (by decide)) e_) hs_)); have n1_ := am (Kd.R_mono (ok' := fun k_ => (P1_ k_ ∨ w.heap.size ≤ k_)) ho0 (fun k_ hk_ => Or.elim hk_ (fun hs_ => (HO172.out.1 k_ (hs_).symm)) (fun hn_ => (.inr (Nat.le_trans (by exact HK.out.1) hn_))))); have n2_ := am (Kept.then_ (S := (fun k_ => (P1_ k_) ∨ k_ = g)) (by exact kI) hkp (fun k_ hs_ => (fun e_ => Or.imp_left Or.inl ((HO172.out.1 k_ e_.symm))) hs_)); have n3_ := am (hb); clear HI0; clear HK; clear HB; clear HO172; have HI0 := n0_; have HO181 := n1_; have HK := n2_; have HB := n3_; clear n0_ n1_ n2_ n3_; (try clear hb); (try clear hkp); (try clear ho0)))
            go_ret2
            exact ⟨_, by rfl, by exact sR <| HO181.out, by exact sIsS58, by exact bIsS58, by exact kI⟩
           ·rw [if_neg c52] at H
            exact absurd H (by simp)
          ·rw [if_neg c51] at H
           exact absurd H (by simp)
         ·replace c49 := Bool.eq_false_iff.mpr c49
          subst c49
          rw [if_neg (show ¬ (false = true) by decide)] at H
          replace H := oB H
          obtain ⟨⟨t183, t184, t185⟩, A650, H⟩ := H
          try dsimp only at H
          have A65 := am A650
          clear A650
          have HC66 := am H
          clear H
          go_upto_block 2 with (first | ((with_reducible refine gate_callee (f := 43) rfl ?_); refine goesL_ (some 131) rfl rfl Try.func43 (by kernel_rfl) rfl #[.pointer (some ⟨g, 0, none⟩), .int .i64 8] rfl tn ?_; (with_reducible refine (spec_l01Below.calls g s0_0 x1001_43 x1002_43 8 t183 t184 t185 w0 _ ?side1 ?side2 A65.out).mono ?_); (case side1 => exact sIsS58); (case side2 => exact bIsS58); rintro e w67 ⟨rfl, hi, hb, hk⟩; refine ⟨_, rfl, ?_⟩; have n0_ := am (Kd.R_mono (Kd.R_keep (IsS58.apart (show IsS58 w0 _ g s0_0 x1001_43 x1002_43 from by exact sIsS58) (by exact sR <| HO_1.out) (by decide)) hk (fun _ h => h.2)) (fun _ h => h.1)); have n1_ := am (Kept.of_keep (S := (fun k_ => (P1_ k_) ∨ k_ = g)) (by exact kI) hk (.inl (.inr rfl))); have n2_ := am (hb); have n3_ := am (hi); clear HO_1; clear HK; clear HB; clear HI0; have HO_1 := n0_; have HK := n1_; have HB := n2_; have HI0 := n3_; clear n0_ n1_ n2_ n3_; (try clear hi))); clear hb hk
          (try simp only [Act.put, List.setIfInBounds_toArray, List.set_cons_zero, List.set_cons_succ])
          go_cut [1] (fun v1 wc => ∃ (kq : Nat) (x1_65 : List (S39)) (x1001_65 : Int) (x1002_65 : Int), Aside0 (spec_l02Deep.j4 kq x1_65 l2 a3 a4 s0_0 x1001_65 x1002_65 = some (r1, r2, r3, r4)) ∧ Aside0 (kq ≤ kj43) ∧ Aside0 (Kd.R k39 39 wc w0.heap.size (fun k_ => (P1_ k_ ∨ w.heap.size ≤ k_)) v1 x1_65) ∧ Aside0 (IsS58 w0 wc g s0_0 x1001_65 x1002_65) ∧ Aside0 (Kept w wc (fun k_ => (P1_ k_) ∨ k_ = g)) ∧ Aside0 (Below w0.heap.size w0 wc))
          case first => as_aux_lemma =>
           have H := HC66.out
           clear HC66
           by_cases c68 : t183 = 0
           ·rw [if_pos c68] at H
            have c68b0 : (t183 == 0) = true := beq_iff_eq.mpr c68
            have c68b1 : (t183 != 0) = false := bne_eq_false_iff_eq.mpr c68
            clear c68
            (skip)
            replace H := oB H
            obtain ⟨⟨t186, t189, t190, t191⟩, A690, H⟩ := H
            try dsimp only at H
            have A69 := am A690
            clear A690
            replace H := oB H
            obtain ⟨⟨t192, t195⟩, A700, H⟩ := H
            try dsimp only at H
            have A70 := am A700
            clear A700
            simp only [Option.some.injEq, Prod.mk.injEq] at H
            obtain ⟨rfl, rfl, rfl, rfl⟩ := H
            obtain ⟨Ao71, co71, eo71⟩ := Kd.R_slice HO_1.out
            subst eo71
            go_wp2_with (first | ((with_reducible refine gate_callee (f := 59) rfl ?_); refine goesL_ (some 141) rfl rfl Try.func59 (by kernel_rfl) rfl #[.pointer (some ⟨g, 0, none⟩), .slice Ao71 l1.length co71, .slice A2 l2.length c2, .int .i64 a3, .int .i64 (wrap64 (a4 - 1))] rfl tm ?_; (with_reducible refine (ih kj43 (by have := HK1.out; have := HJ12.out; have := HJ43.out; omega) g s0_0 t184 t185 (fun k_ => some k_ = (.slice Ao71 l1.length co71 : Value).ownBlock) (.slice Ao71 l1.length co71) l1 _ _ l2 a3 (wrap64 (a4 - 1)) t186 t189 t190 t191 w0 _ ?side1 ?side2 ?side3 ?side4 ?side5 A69.out).mono ?_); (case side1 => exact sIsS58); (case side2 => exact bIsS58); (case side3 => exact Kd.R_tight rfl HO_1.out); (case side4 => exact Kd.C_kept_call HR2.out (by exact kI) (fun k_ hs_ => Or.elim hs_ (fun hs_ => (fun e_ => Or.imp_left Or.inl ((HO_1.out.1 k_ e_.symm))) hs_) (fun e_ => .inl (.inr e_)))); (case side5 => exact HC2.out); rintro e w72 ⟨v187, rfl, ho0, hi, hb, hkp⟩; refine ⟨_, rfl, ?_⟩; have n0_ := am (hi); have n1_ := am (Kd.R_mono (ok' := fun k_ => (P1_ k_ ∨ w.heap.size ≤ k_)) ho0 (fun k_ hk_ => Or.elim hk_ (fun hs_ => (HO_1.out.1 k_ (hs_).symm)) (fun hn_ => (.inr (Nat.le_trans (by exact HK.out.1) hn_))))); have n2_ := am (Kept.then_ (S := (fun k_ => (P1_ k_) ∨ k_ = g)) (by exact kI) hkp (fun k_ hs_ => Or.elim hs_ (fun hs_ => (fun e_ => Or.imp_left Or.inl ((HO_1.out.1 k_ e_.symm))) hs_) (fun e_ => .inl (.inr e_)))); have n3_ := am (hb); clear HI0; clear HK; clear HB; clear HO_1; have HI0 := n0_; have HO188 := n1_; have HK := n2_; have HB := n3_; clear n0_ n1_ n2_ n3_; (try clear hb); (try clear hkp); (try clear ho0); obtain ⟨Ao73, co73, eo73⟩ := Kd.R_slice HO188.out; subst eo73) | ((with_reducible refine gate_callee (f := 58) rfl ?_); refine goesL_ (some 148) rfl rfl Try.func58 (by kernel_rfl) rfl #[.slice Ao73 t186.length co73, .agg #[.int .i64 2, .int .i64 a3, .int .i64 0, .int .i64 t189, .int .i64 0, .int .i64 0]] rfl tm ?_; (with_reducible refine (spec_l02Push.calls (fun k_ => some k_ = (.slice Ao73 t186.length co73 : Value).ownBlock) (.slice Ao73 t186.length co73) t186 2 a3 0 t189 0 0 t192 t195 w0 _ ?side1 ?side2 A70.out).mono ?_); (case side1 => exact bIsS58); (case side2 => exact Kd.R_tight rfl HO188.out); rintro e w74 ⟨v193, rfl, ho0, hb, hkp⟩; refine ⟨_, rfl, ?_⟩; have n0_ := am (IsS58.kept (by exact sIsS58) hkp (fun hs_ => (fun e_ => (IsS58.own_ne HI0.out HO188.out (by decide)) e_) hs_)); have n1_ := am (Kd.R_mono (ok' := fun k_ => (P1_ k_ ∨ w.heap.size ≤ k_)) ho0 (fun k_ hk_ => Or.elim hk_ (fun hs_ => (HO188.out.1 k_ (hs_).symm)) (fun hn_ => (.inr (Nat.le_trans (by exact HK.out.1) hn_))))); have n2_ := am (Kept.then_ (S := (fun k_ => (P1_ k_) ∨ k_ = g)) (by exact kI) hkp (fun k_ hs_ => (fun e_ => Or.imp_left Or.inl ((HO188.out.1 k_ e_.symm))) hs_)); have n3_ := am (hb); clear HI0; clear HK; clear HB; clear HO188; have HI0 := n0_; have HO194 := n1_; have HK := n2_; have HB := n3_; clear n0_ n1_ n2_ n3_; (try clear hb); (try clear hkp); (try clear ho0)))
            go_ret2
            exact ⟨_, by rfl, by exact sR <| HO194.out, by exact sIsS58, by exact bIsS58, by exact kI⟩
           ·rw [if_neg c68] at H
            have c68b0 : (t183 == 0) = false := beq_eq_false_iff_ne.mpr c68
            have c68b1 : (t183 != 0) = true := bne_iff_ne.mpr c68
            (skip)
            by_cases c75 : t183 = 1
            ·rw [if_pos c75] at H
             have c75b0 : (t183 == 1) = true := beq_iff_eq.mpr c75
             have c75b1 : (t183 != 1) = false := bne_eq_false_iff_eq.mpr c75
             clear c75
             by_cases c76 : a3 > 1
             ·rw [if_pos c76] at H
              have c76b0 : decide (1 < a3) = true := decide_eq_true c76
              clear c76
              replace H := oB H
              obtain ⟨⟨t196, t197, t198⟩, A770, H⟩ := H
              try dsimp only at H
              have A77 := am A770
              clear A770
              replace H := oB H
              obtain ⟨⟨t199, t202, t203, t204⟩, A780, H⟩ := H
              try dsimp only at H
              have A78 := am A780
              clear A780
              replace H := oB H
              obtain ⟨⟨t205, t208, t209, t210⟩, A790, H⟩ := H
              try dsimp only at H
              have A79 := am A790
              clear A790
              replace H := oB H
              obtain ⟨⟨t211, t214⟩, A800, H⟩ := H
              try dsimp only at H
              have A80 := am A800
              clear A800
              simp only [Option.some.injEq, Prod.mk.injEq] at H
              obtain ⟨rfl, rfl, rfl, rfl⟩ := H
              go_wp2_with (first | ((with_reducible refine gate_callee (f := 43) rfl ?_); refine goesL_ (some 158) rfl rfl Try.func43 (by kernel_rfl) rfl #[.pointer (some ⟨g, 0, none⟩), .int .i64 (wrap64 (a3 - 1))] rfl tm ?_; (with_reducible refine (spec_l01Below.calls g s0_0 t184 t185 (wrap64 (a3 - 1)) t196 t197 t198 w0 _ ?side1 ?side2 A77.out).mono ?_); (case side1 => exact sIsS58); (case side2 => exact bIsS58); rintro e w81 ⟨rfl, hi, hb, hk⟩; refine ⟨_, rfl, ?_⟩; have n0_ := am (Kd.R_mono (Kd.R_keep (IsS58.apart (show IsS58 w0 _ g s0_0 t184 t185 from by exact sIsS58) (by exact sR <| HO_1.out) (by decide)) hk (fun _ h => h.2)) (fun _ h => h.1)); have n1_ := am (Kept.of_keep (S := (fun k_ => (P1_ k_) ∨ k_ = g)) (by exact kI) hk (.inl (.inr rfl))); have n2_ := am (hb); have n3_ := am (hi); clear HO_1; clear HK; clear HB; clear HI0; have HO_1 := n0_; have HK := n1_; have HB := n2_; have HI0 := n3_; clear n0_ n1_ n2_ n3_; (try clear hb); (try clear hb2); (try clear hk); (try clear hi); obtain ⟨Ao82, co82, eo82⟩ := Kd.R_slice HO_1.out; subst eo82) | ((with_reducible refine gate_callee (f := 59) rfl ?_); refine goesL_ (some 167) rfl rfl Try.func59 (by kernel_rfl) rfl #[.pointer (some ⟨g, 0, none⟩), .slice Ao82 l1.length co82, .slice A2 l2.length c2, .int .i64 (wrap64 (1 + t196)), .int .i64 (wrap64 (a4 - 1))] rfl tm ?_; (with_reducible refine (ih kj43 (by have := HK1.out; have := HJ12.out; have := HJ43.out; omega) g s0_0 t197 t198 (fun k_ => some k_ = (.slice Ao82 l1.length co82 : Value).ownBlock) (.slice Ao82 l1.length co82) l1 _ _ l2 (wrap64 (1 + t196)) (wrap64 (a4 - 1)) t199 t202 t203 t204 w0 _ ?side1 ?side2 ?side3 ?side4 ?side5 A78.out).mono ?_); (case side1 => exact sIsS58); (case side2 => exact bIsS58); (case side3 => exact Kd.R_tight rfl HO_1.out); (case side4 => exact Kd.C_kept_call HR2.out (by exact kI) (fun k_ hs_ => Or.elim hs_ (fun hs_ => (fun e_ => Or.imp_left Or.inl ((HO_1.out.1 k_ e_.symm))) hs_) (fun e_ => .inl (.inr e_)))); (case side5 => exact HC2.out); rintro e w83 ⟨v200, rfl, ho0, hi, hb, hkp⟩; refine ⟨_, rfl, ?_⟩; have n0_ := am (hi); have n1_ := am (Kd.R_mono (ok' := fun k_ => (P1_ k_ ∨ w.heap.size ≤ k_)) ho0 (fun k_ hk_ => Or.elim hk_ (fun hs_ => (HO_1.out.1 k_ (hs_).symm)) (fun hn_ => (.inr (Nat.le_trans (by exact HK.out.1) hn_))))); have n2_ := am (Kept.then_ (S := (fun k_ => (P1_ k_) ∨ k_ = g)) (by exact kI) hkp (fun k_ hs_ => Or.elim hs_ (fun hs_ => (fun e_ => Or.imp_left Or.inl ((HO_1.out.1 k_ e_.symm))) hs_) (fun e_ => .inl (.inr e_)))); have n3_ := am (hb); clear HI0; clear HK; clear HB; clear HO_1; have HI0 := n0_; have HO201 := n1_; have HK := n2_; have HB := n3_; clear n0_ n1_ n2_ n3_; (try clear hb); (try clear hkp); (try clear ho0); obtain ⟨Ao84, co84, eo84⟩ := Kd.R_slice HO201.out; subst eo84) | ((with_reducible refine gate_callee (f := 59) rfl ?_); refine goesL_ (some 179) rfl rfl Try.func59 (by kernel_rfl) rfl #[.pointer (some ⟨g, 0, none⟩), .slice Ao84 t199.length co84, .slice A2 l2.length c2, .int .i64 (wrap64 (a3 - (wrap64 (1 + t196)))), .int .i64 (wrap64 (a4 - 1))] rfl tm ?_; (with_reducible refine (ih kj43 (by have := HK1.out; have := HJ12.out; have := HJ43.out; omega) g s0_0 t203 t204 (fun k_ => some k_ = (.slice Ao84 t199.length co84 : Value).ownBlock) (.slice Ao84 t199.length co84) t199 _ _ l2 (wrap64 (a3 - (wrap64 (1 + t196)))) (wrap64 (a4 - 1)) t205 t208 t209 t210 w0 _ ?side1 ?side2 ?side3 ?side4 ?side5 A79.out).mono ?_); (case side1 => exact sIsS58); (case side2 => exact bIsS58); (case side3 => exact Kd.R_tight rfl HO201.out); (case side4 => exact Kd.C_kept_call HR2.out (by exact kI) (fun k_ hs_ => Or.elim hs_ (fun hs_ => (fun e_ => Or.imp_left Or.inl ((HO201.out.1 k_ e_.symm))) hs_) (fun e_ => .inl (.inr e_)))); (case side5 => exact HC2.out); rintro e w85 ⟨v206, rfl, ho0, hi, hb, hkp⟩; refine ⟨_, rfl, ?_⟩; have n0_ := am (hi); have n1_ := am (Kd.R_mono (ok' := fun k_ => (P1_ k_ ∨ w.heap.size ≤ k_)) ho0 (fun k_ hk_ => Or.elim hk_ (fun hs_ => (HO201.out.1 k_ (hs_).symm)) (fun hn_ => (.inr (Nat.le_trans (by exact HK.out.1) hn_))))); have n2_ := am (Kept.then_ (S := (fun k_ => (P1_ k_) ∨ k_ = g)) (by exact kI) hkp (fun k_ hs_ => Or.elim hs_ (fun hs_ => (fun e_ => Or.imp_left Or.inl ((HO201.out.1 k_ e_.symm))) hs_) (fun e_ => .inl (.inr e_)))); have n3_ := am (hb); clear HI0; clear HK; clear HB; clear HO201; have HI0 := n0_; have HO207 := n1_; have HK := n2_; have HB := n3_; clear n0_ n1_ n2_ n3_; (try clear hb); (try clear hkp); (try clear ho0); obtain ⟨Ao86, co86, eo86⟩ := Kd.R_slice HO207.out; subst eo86) | ((with_reducible refine gate_callee (f := 58) rfl ?_); refine goesL_ (some 187) rfl rfl Try.func58 (by kernel_rfl) rfl #[.slice Ao86 t205.length co86, .agg #[.int .i64 16, .int .i64 a3, .int .i64 0, .int .i64 t202, .int .i64 t208, .int .i64 0]] rfl tm ?_; (with_reducible refine (spec_l02Push.calls (fun k_ => some k_ = (.slice Ao86 t205.length co86 : Value).ownBlock) (.slice Ao86 t205.length co86) t205 16 a3 0 t202 t208 0 t211 t214 w0 _ ?side1 ?side2 A80.out).mono ?_); (case side1 => exact bIsS58); (case side2 => exact Kd.R_tight rfl HO207.out); rintro e w87 ⟨v212, rfl, ho0, hb, hkp⟩; refine ⟨_, rfl, ?_⟩; have n0_ := am (IsS58.kept (by exact sIsS58) hkp (fun hs_ => (fun e_ => (IsS58.own_ne HI0.out HO207.out (by decide)) e_) hs_)); have n1_ := am (Kd.R_mono (ok' := fun k_ => (P1_ k_ ∨ w.heap.size ≤ k_)) ho0 (fun k_ hk_ => Or.elim hk_ (fun hs_ => (HO207.out.1 k_ (hs_).symm)) (fun hn_ => (.inr (Nat.le_trans (by exact HK.out.1) hn_))))); have n2_ := am (Kept.then_ (S := (fun k_ => (P1_ k_) ∨ k_ = g)) (by exact kI) hkp (fun k_ hs_ => (fun e_ => Or.imp_left Or.inl ((HO207.out.1 k_ e_.symm))) hs_)); have n3_ := am (hb); clear HI0; clear HK; clear HB; clear HO207; have HI0 := n0_; have HO213 := n1_; have HK := n2_; have HB := n3_; clear n0_ n1_ n2_ n3_; (try clear hb); (try clear hkp); (try clear ho0)))
              go_ret2
              exact ⟨_, by rfl, by exact sR <| HO213.out, by exact sIsS58, by exact bIsS58, by exact kI⟩
             ·rw [if_neg c76] at H
              have c76b0 : decide (1 < a3) = false := decide_eq_false c76
              clear c76
              have H' := am H
              clear H
              go_wp2
              go_meet
              case rel => exact ⟨_, (l1), (t184), (t185), H', ⟨by have := HK1.out; have := HJ12.out; have := HJ43.out; omega⟩, ⟨by exact sR <| HO_1.out⟩, ⟨by exact sIsS58⟩, ⟨by exact kI⟩, ⟨by exact bIsS58⟩⟩
            ·rw [if_neg c75] at H
             have c75b0 : (t183 == 1) = false := beq_eq_false_iff_ne.mpr c75
             have c75b1 : (t183 != 1) = true := bne_iff_ne.mpr c75
             by_cases c88 : t183 = 2
             ·rw [if_pos c88] at H
              have c88b0 : (t183 == 2) = true := beq_iff_eq.mpr c88
              have c88b1 : (t183 != 2) = false := bne_eq_false_iff_eq.mpr c88
              clear c88
              by_cases c89 : (l2.length : Int) > 0
              ·rw [if_pos c89] at H
               have c89b0 : decide (0 < (l2.length : Int)) = true := decide_eq_true c89
               have c89b1 : decide (0 < l2.length) = true := decide_eq_true (by omega)
               have c89p : 0 < l2.length := by omega
               clear c89
               replace H := oB H
               obtain ⟨⟨t215, t216, t217⟩, A900, H⟩ := H
               try dsimp only at H
               have A90 := am A900
               clear A900
               by_cases c91 : 0 ≤ t215
               ·rw [if_pos c91] at H
                have c91b0 : decide (0 ≤ t215) = true := decide_eq_true c91
                clear c91
                by_cases c92 : t215 < (l2.length : Int)
                ·rw [if_pos c92] at H
                 have c92b0 : decide (t215 < (l2.length : Int)) = true := decide_eq_true c92
                 clear c92
                 by_cases c93 : ((rd_T39 l2 t215).f1) > a3
                 ·rw [if_pos c93] at H
                  have c93b0 : decide (a3 < ((rd_T39 l2 t215).f1)) = true := decide_eq_true c93
                  clear c93
                  replace H := oB H
                  obtain ⟨⟨t219, t222, t223, t224⟩, A940, H⟩ := H
                  try dsimp only at H
                  have A94 := am A940
                  clear A940
                  replace H := oB H
                  obtain ⟨⟨t225, t226, t227⟩, A950, H⟩ := H
                  try dsimp only at H
                  have A95 := am A950
                  clear A950
                  replace H := oB H
                  obtain ⟨⟨t228, t231⟩, A960, H⟩ := H
                  try dsimp only at H
                  have A96 := am A960
                  clear A960
                  simp only [Option.some.injEq, Prod.mk.injEq] at H
                  obtain ⟨rfl, rfl, rfl, rfl⟩ := H
                  go_wp2_with (first | ((with_reducible refine gate_callee (f := 43) rfl ?_); refine goesL_ (some 199) rfl rfl Try.func43 (by kernel_rfl) rfl #[.pointer (some ⟨g, 0, none⟩), .int .i64 (l2.length : Int)] rfl tm ?_; (with_reducible refine (spec_l01Below.calls g s0_0 t184 t185 (l2.length : Int) t215 t216 t217 w0 _ ?side1 ?side2 A90.out).mono ?_); (case side1 => exact sIsS58); (case side2 => exact bIsS58); rintro e w97 ⟨rfl, hi, hb, hk⟩; refine ⟨_, rfl, ?_⟩; have n0_ := am (Kd.R_mono (Kd.R_keep (IsS58.apart (show IsS58 w0 _ g s0_0 t184 t185 from by exact sIsS58) (by exact sR <| HO_1.out) (by decide)) hk (fun _ h => h.2)) (fun _ h => h.1)); have n1_ := am (Kept.of_keep (S := (fun k_ => (P1_ k_) ∨ k_ = g)) (by exact kI) hk (.inl (.inr rfl))); have n2_ := am (hb); have n3_ := am (hi); clear HO_1; clear HK; clear HB; clear HI0; have HO_1 := n0_; have HK := n1_; have HB := n2_; have HI0 := n3_; clear n0_ n1_ n2_ n3_; (try clear hb); (try clear hb2); (try clear hk); (try clear hi); have p218 : 0 ≤ (t215 : Int) := oD (by assumption); have q218 : t215 < (l2.length : Int) := oD (by assumption); obtain ⟨ad218, e218, hx218_0, hx218_1, hx218_2, hx218_3, hx218_4, hx218_5⟩ := at_T39 (Kd.C_kept_now HR2.out HK.out) t215 p218 q218; cases e218; replace p218 := eq_true p218; replace q218 := eq_true q218; obtain ⟨Ao98, co98, eo98⟩ := Kd.R_slice HO_1.out; subst eo98) | ((with_reducible refine gate_callee (f := 59) rfl ?_); refine goesL_ (some 213) rfl rfl Try.func59 (by kernel_rfl) rfl #[.pointer (some ⟨g, 0, none⟩), .slice Ao98 l1.length co98, .slice (some ad218) l2.length c2, .int .i64 ((rd_T39 l2 t215).f1), .int .i64 (wrap64 (a4 - 1))] rfl tm ?_; (with_reducible refine (ih kj43 (by have := HK1.out; have := HJ12.out; have := HJ43.out; omega) g s0_0 t216 t217 (fun k_ => some k_ = (.slice Ao98 l1.length co98 : Value).ownBlock) (.slice Ao98 l1.length co98) l1 _ _ l2 ((rd_T39 l2 t215).f1) (wrap64 (a4 - 1)) t219 t222 t223 t224 w0 _ ?side1 ?side2 ?side3 ?side4 ?side5 A94.out).mono ?_); (case side1 => exact sIsS58); (case side2 => exact bIsS58); (case side3 => exact Kd.R_tight rfl HO_1.out); (case side4 => exact Kd.C_kept_call HR2.out (by exact kI) (fun k_ hs_ => Or.elim hs_ (fun hs_ => (fun e_ => Or.imp_left Or.inl ((HO_1.out.1 k_ e_.symm))) hs_) (fun e_ => .inl (.inr e_)))); (case side5 => exact HC2.out); rintro e w99 ⟨v220, rfl, ho0, hi, hb, hkp⟩; refine ⟨_, rfl, ?_⟩; have n0_ := am (hi); have n1_ := am (Kd.R_mono (ok' := fun k_ => (P1_ k_ ∨ w.heap.size ≤ k_)) ho0 (fun k_ hk_ => Or.elim hk_ (fun hs_ => (HO_1.out.1 k_ (hs_).symm)) (fun hn_ => (.inr (Nat.le_trans (by exact HK.out.1) hn_))))); have n2_ := am (Kept.then_ (S := (fun k_ => (P1_ k_) ∨ k_ = g)) (by exact kI) hkp (fun k_ hs_ => Or.elim hs_ (fun hs_ => (fun e_ => Or.imp_left Or.inl ((HO_1.out.1 k_ e_.symm))) hs_) (fun e_ => .inl (.inr e_)))); have n3_ := am (hb); clear HI0; clear HK; clear HB; clear HO_1; have HI0 := n0_; have HO221 := n1_; have HK := n2_; have HB := n3_; clear n0_ n1_ n2_ n3_; (try clear hb); (try clear hkp); (try clear ho0)) | ((with_reducible refine gate_callee (f := 43) rfl ?_); refine goesL_ (some 223) rfl rfl Try.func43 (by kernel_rfl) rfl #[.pointer (some ⟨g, 0, none⟩), .int .i64 (wrap64 ((wrap64 (((rd_T39 l2 t215).f1) - a3)) + 1))] rfl tm ?_; (with_reducible refine (spec_l01Below.calls g s0_0 t223 t224 (wrap64 ((wrap64 (((rd_T39 l2 t215).f1) - a3)) + 1)) t225 t226 t227 w0 _ ?side1 ?side2 A95.out).mono ?_); (case side1 => exact sIsS58); (case side2 => exact bIsS58); rintro e w100 ⟨rfl, hi, hb, hk⟩; refine ⟨_, rfl, ?_⟩; have n0_ := am (Kd.R_mono (Kd.R_keep (IsS58.apart (show IsS58 w0 _ g s0_0 t223 t224 from by exact sIsS58) (by exact sR <| HO221.out) (by decide)) hk (fun _ h => h.2)) (fun _ h => h.1)); have n1_ := am (Kept.of_keep (S := (fun k_ => (P1_ k_) ∨ k_ = g)) (by exact kI) hk (.inl (.inr rfl))); have n2_ := am (hb); have n3_ := am (hi); clear HO221; clear HK; clear HB; clear HI0; have HO221 := n0_; have HK := n1_; have HB := n2_; have HI0 := n3_; clear n0_ n1_ n2_ n3_; (try clear hb); (try clear hb2); (try clear hk); (try clear hi); obtain ⟨Ao101, co101, eo101⟩ := Kd.R_slice HO221.out; subst eo101) | ((with_reducible refine gate_callee (f := 58) rfl ?_); refine goesL_ (some 226) rfl rfl Try.func58 (by kernel_rfl) rfl #[.slice Ao101 t219.length co101, .agg #[.int .i64 17, .int .i64 a3, .int .i64 t225, .int .i64 t222, .int .i64 0, .int .i64 0]] rfl tm ?_; (with_reducible refine (spec_l02Push.calls (fun k_ => some k_ = (.slice Ao101 t219.length co101 : Value).ownBlock) (.slice Ao101 t219.length co101) t219 17 a3 t225 t222 0 0 t228 t231 w0 _ ?side1 ?side2 A96.out).mono ?_); (case side1 => exact bIsS58); (case side2 => exact Kd.R_tight rfl HO221.out); rintro e w102 ⟨v229, rfl, ho0, hb, hkp⟩; refine ⟨_, rfl, ?_⟩; have n0_ := am (IsS58.kept (by exact sIsS58) hkp (fun hs_ => (fun e_ => (IsS58.own_ne HI0.out HO221.out (by decide)) e_) hs_)); have n1_ := am (Kd.R_mono (ok' := fun k_ => (P1_ k_ ∨ w.heap.size ≤ k_)) ho0 (fun k_ hk_ => Or.elim hk_ (fun hs_ => (HO221.out.1 k_ (hs_).symm)) (fun hn_ => (.inr (Nat.le_trans (by exact HK.out.1) hn_))))); have n2_ := am (Kept.then_ (S := (fun k_ => (P1_ k_) ∨ k_ = g)) (by exact kI) hkp (fun k_ hs_ => (fun e_ => Or.imp_left Or.inl ((HO221.out.1 k_ e_.symm))) hs_)); have n3_ := am (hb); clear HI0; clear HK; clear HB; clear HO221; have HI0 := n0_; have HO230 := n1_; have HK := n2_; have HB := n3_; clear n0_ n1_ n2_ n3_; (try clear hb); (try clear hkp); (try clear ho0)))
                  go_ret2
                  exact ⟨_, by rfl, by exact sR <| HO230.out, by exact sIsS58, by exact bIsS58, by exact kI⟩
                 ·rw [if_neg c93] at H
                  have c93b0 : decide (a3 < ((rd_T39 l2 t215).f1)) = false := decide_eq_false c93
                  clear c93
                  have H' := am H
                  clear H
                  go_wp2_with (first | ((with_reducible refine gate_callee (f := 43) rfl ?_); refine goesL_ (some 199) rfl rfl Try.func43 (by kernel_rfl) rfl #[.pointer (some ⟨g, 0, none⟩), .int .i64 (l2.length : Int)] rfl tm ?_; (with_reducible refine (spec_l01Below.calls g s0_0 t184 t185 (l2.length : Int) t215 t216 t217 w0 _ ?side1 ?side2 A90.out).mono ?_); (case side1 => exact sIsS58); (case side2 => exact bIsS58); rintro e w103 ⟨rfl, hi, hb, hk⟩; refine ⟨_, rfl, ?_⟩; have n0_ := am (Kd.R_mono (Kd.R_keep (IsS58.apart (show IsS58 w0 _ g s0_0 t184 t185 from by exact sIsS58) (by exact sR <| HO_1.out) (by decide)) hk (fun _ h => h.2)) (fun _ h => h.1)); have n1_ := am (Kept.of_keep (S := (fun k_ => (P1_ k_) ∨ k_ = g)) (by exact kI) hk (.inl (.inr rfl))); have n2_ := am (hb); have n3_ := am (hi); clear HO_1; clear HK; clear HB; clear HI0; have HO_1 := n0_; have HK := n1_; have HB := n2_; have HI0 := n3_; clear n0_ n1_ n2_ n3_; (try clear hb); (try clear hb2); (try clear hk); (try clear hi); have p218 : 0 ≤ (t215 : Int) := oD (by assumption); have q218 : t215 < (l2.length : Int) := oD (by assumption); obtain ⟨ad218, e218, hx218_0, hx218_1, hx218_2, hx218_3, hx218_4, hx218_5⟩ := at_T39 (Kd.C_kept_now HR2.out HK.out) t215 p218 q218; cases e218; replace p218 := eq_true p218; replace q218 := eq_true q218))
                  go_meet
                  case rel => exact ⟨_, (l1), (t216), (t217), H', ⟨by have := HK1.out; have := HJ12.out; have := HJ43.out; omega⟩, ⟨by exact sR <| HO_1.out⟩, ⟨by exact sIsS58⟩, ⟨by exact kI⟩, ⟨by exact bIsS58⟩⟩
                ·rw [if_neg c92] at H
                 exact absurd H (by simp)
               ·rw [if_neg c91] at H
                exact absurd H (by simp)
              ·rw [if_neg c89] at H
               have c89b0 : decide (0 < (l2.length : Int)) = false := decide_eq_false c89
               have c89b1 : decide (0 < l2.length) = false := decide_eq_false (by omega)
               have c89p : ¬ 0 < l2.length := by omega
               clear c89
               have H' := am H
               clear H
               go_wp2
               go_meet
               case rel => exact ⟨_, (l1), (t184), (t185), H', ⟨by have := HK1.out; have := HJ12.out; have := HJ43.out; omega⟩, ⟨by exact sR <| HO_1.out⟩, ⟨by exact sIsS58⟩, ⟨by exact kI⟩, ⟨by exact bIsS58⟩⟩
             ·rw [if_neg c88] at H
              have c88b0 : (t183 == 2) = false := beq_eq_false_iff_ne.mpr c88
              have c88b1 : (t183 != 2) = true := bne_iff_ne.mpr c88
              by_cases c104 : t183 = 3
              ·rw [if_pos c104] at H
               have c104b0 : (t183 == 3) = true := beq_iff_eq.mpr c104
               have c104b1 : (t183 != 3) = false := bne_eq_false_iff_eq.mpr c104
               clear c104
               replace H := oB H
               obtain ⟨⟨t232, t235, t236, t237⟩, A1050, H⟩ := H
               try dsimp only at H
               have A105 := am A1050
               clear A1050
               replace H := oB H
               obtain ⟨⟨t238, t241, t242, t243⟩, A1060, H⟩ := H
               try dsimp only at H
               have A106 := am A1060
               clear A1060
               replace H := oB H
               obtain ⟨⟨t244, t247, t248, t249⟩, A1070, H⟩ := H
               try dsimp only at H
               have A107 := am A1070
               clear A1070
               replace H := oB H
               obtain ⟨⟨t250, t253⟩, A1080, H⟩ := H
               try dsimp only at H
               have A108 := am A1080
               clear A1080
               simp only [Option.some.injEq, Prod.mk.injEq] at H
               obtain ⟨rfl, rfl, rfl, rfl⟩ := H
               obtain ⟨Ao109, co109, eo109⟩ := Kd.R_slice HO_1.out
               subst eo109
               go_wp2_with (first | ((with_reducible refine gate_callee (f := 59) rfl ?_); refine goesL_ (some 237) rfl rfl Try.func59 (by kernel_rfl) rfl #[.pointer (some ⟨g, 0, none⟩), .slice Ao109 l1.length co109, .slice A2 l2.length c2, .int .i64 1, .int .i64 (wrap64 (a4 - 1))] rfl tm ?_; (with_reducible refine (ih kj43 (by have := HK1.out; have := HJ12.out; have := HJ43.out; omega) g s0_0 t184 t185 (fun k_ => some k_ = (.slice Ao109 l1.length co109 : Value).ownBlock) (.slice Ao109 l1.length co109) l1 _ _ l2 1 (wrap64 (a4 - 1)) t232 t235 t236 t237 w0 _ ?side1 ?side2 ?side3 ?side4 ?side5 A105.out).mono ?_); (case side1 => exact sIsS58); (case side2 => exact bIsS58); (case side3 => exact Kd.R_tight rfl HO_1.out); (case side4 => exact Kd.C_kept_call HR2.out (by exact kI) (fun k_ hs_ => Or.elim hs_ (fun hs_ => (fun e_ => Or.imp_left Or.inl ((HO_1.out.1 k_ e_.symm))) hs_) (fun e_ => .inl (.inr e_)))); (case side5 => exact HC2.out); rintro e w110 ⟨v233, rfl, ho0, hi, hb, hkp⟩; refine ⟨_, rfl, ?_⟩; have n0_ := am (hi); have n1_ := am (Kd.R_mono (ok' := fun k_ => (P1_ k_ ∨ w.heap.size ≤ k_)) ho0 (fun k_ hk_ => Or.elim hk_ (fun hs_ => (HO_1.out.1 k_ (hs_).symm)) (fun hn_ => (.inr (Nat.le_trans (by exact HK.out.1) hn_))))); have n2_ := am (Kept.then_ (S := (fun k_ => (P1_ k_) ∨ k_ = g)) (by exact kI) hkp (fun k_ hs_ => Or.elim hs_ (fun hs_ => (fun e_ => Or.imp_left Or.inl ((HO_1.out.1 k_ e_.symm))) hs_) (fun e_ => .inl (.inr e_)))); have n3_ := am (hb); clear HI0; clear HK; clear HB; clear HO_1; have HI0 := n0_; have HO234 := n1_; have HK := n2_; have HB := n3_; clear n0_ n1_ n2_ n3_; (try clear hb); (try clear hkp); (try clear ho0); obtain ⟨Ao111, co111, eo111⟩ := Kd.R_slice HO234.out; subst eo111) | ((with_reducible refine gate_callee (f := 59) rfl ?_); refine goesL_ (some 247) rfl rfl Try.func59 (by kernel_rfl) rfl #[.pointer (some ⟨g, 0, none⟩), .slice Ao111 t232.length co111, .slice A2 l2.length c2, .int .i64 a3, .int .i64 (wrap64 (a4 - 1))] rfl tm ?_; (with_reducible refine (ih kj43 (by have := HK1.out; have := HJ12.out; have := HJ43.out; omega) g s0_0 t236 t237 (fun k_ => some k_ = (.slice Ao111 t232.length co111 : Value).ownBlock) (.slice Ao111 t232.length co111) t232 _ _ l2 a3 (wrap64 (a4 - 1)) t238 t241 t242 t243 w0 _ ?side1 ?side2 ?side3 ?side4 ?side5 A106.out).mono ?_); (case side1 => exact sIsS58); (case side2 => exact bIsS58); (case side3 => exact Kd.R_tight rfl HO234.out); (case side4 => exact Kd.C_kept_call HR2.out (by exact kI) (fun k_ hs_ => Or.elim hs_ (fun hs_ => (fun e_ => Or.imp_left Or.inl ((HO234.out.1 k_ e_.symm))) hs_) (fun e_ => .inl (.inr e_)))); (case side5 => exact HC2.out); rintro e w112 ⟨v239, rfl, ho0, hi, hb, hkp⟩; refine ⟨_, rfl, ?_⟩; have n0_ := am (hi); have n1_ := am (Kd.R_mono (ok' := fun k_ => (P1_ k_ ∨ w.heap.size ≤ k_)) ho0 (fun k_ hk_ => Or.elim hk_ (fun hs_ => (HO234.out.1 k_ (hs_).symm)) (fun hn_ => (.inr (Nat.le_trans (by exact HK.out.1) hn_))))); have n2_ := am (Kept.then_ (S := (fun k_ => (P1_ k_) ∨ k_ = g)) (by exact kI) hkp (fun k_ hs_ => Or.elim hs_ (fun hs_ => (fun e_ => Or.imp_left Or.inl ((HO234.out.1 k_ e_.symm))) hs_) (fun e_ => .inl (.inr e_)))); have n3_ := am (hb); clear HI0; clear HK; clear HB; clear HO234; have HI0 := n0_; have HO240 := n1_; have HK := n2_; have HB := n3_; clear n0_ n1_ n2_ n3_; (try clear hb); (try clear hkp); (try clear ho0); obtain ⟨Ao113, co113, eo113⟩ := Kd.R_slice HO240.out; subst eo113) | ((with_reducible refine gate_callee (f := 59) rfl ?_); refine goesL_ (some 257) rfl rfl Try.func59 (by kernel_rfl) rfl #[.pointer (some ⟨g, 0, none⟩), .slice Ao113 t238.length co113, .slice A2 l2.length c2, .int .i64 a3, .int .i64 (wrap64 (a4 - 1))] rfl tm ?_; (with_reducible refine (ih kj43 (by have := HK1.out; have := HJ12.out; have := HJ43.out; omega) g s0_0 t242 t243 (fun k_ => some k_ = (.slice Ao113 t238.length co113 : Value).ownBlock) (.slice Ao113 t238.length co113) t238 _ _ l2 a3 (wrap64 (a4 - 1)) t244 t247 t248 t249 w0 _ ?side1 ?side2 ?side3 ?side4 ?side5 A107.out).mono ?_); (case side1 => exact sIsS58); (case side2 => exact bIsS58); (case side3 => exact Kd.R_tight rfl HO240.out); (case side4 => exact Kd.C_kept_call HR2.out (by exact kI) (fun k_ hs_ => Or.elim hs_ (fun hs_ => (fun e_ => Or.imp_left Or.inl ((HO240.out.1 k_ e_.symm))) hs_) (fun e_ => .inl (.inr e_)))); (case side5 => exact HC2.out); rintro e w114 ⟨v245, rfl, ho0, hi, hb, hkp⟩; refine ⟨_, rfl, ?_⟩; have n0_ := am (hi); have n1_ := am (Kd.R_mono (ok' := fun k_ => (P1_ k_ ∨ w.heap.size ≤ k_)) ho0 (fun k_ hk_ => Or.elim hk_ (fun hs_ => (HO240.out.1 k_ (hs_).symm)) (fun hn_ => (.inr (Nat.le_trans (by exact HK.out.1) hn_))))); have n2_ := am (Kept.then_ (S := (fun k_ => (P1_ k_) ∨ k_ = g)) (by exact kI) hkp (fun k_ hs_ => Or.elim hs_ (fun hs_ => (fun e_ => Or.imp_left Or.inl ((HO240.out.1 k_ e_.symm))) hs_) (fun e_ => .inl (.inr e_)))); have n3_ := am (hb); clear HI0; clear HK; clear HB; clear HO240; have HI0 := n0_; have HO246 := n1_; have HK := n2_; have HB := n3_; clear n0_ n1_ n2_ n3_; (try clear hb); (try clear hkp); (try clear ho0); obtain ⟨Ao115, co115, eo115⟩ := Kd.R_slice HO246.out; subst eo115) | ((with_reducible refine gate_callee (f := 58) rfl ?_); refine goesL_ (some 266) rfl rfl Try.func58 (by kernel_rfl) rfl #[.slice Ao115 t244.length co115, .agg #[.int .i64 18, .int .i64 a3, .int .i64 0, .int .i64 t235, .int .i64 t241, .int .i64 t247]] rfl tm ?_; (with_reducible refine (spec_l02Push.calls (fun k_ => some k_ = (.slice Ao115 t244.length co115 : Value).ownBlock) (.slice Ao115 t244.length co115) t244 18 a3 0 t235 t241 t247 t250 t253 w0 _ ?side1 ?side2 A108.out).mono ?_); (case side1 => exact bIsS58); (case side2 => exact Kd.R_tight rfl HO246.out); rintro e w116 ⟨v251, rfl, ho0, hb, hkp⟩; refine ⟨_, rfl, ?_⟩; have n0_ := am (IsS58.kept (by exact sIsS58) hkp (fun hs_ => (fun e_ => (IsS58.own_ne HI0.out HO246.out (by decide)) e_) hs_)); have n1_ := am (Kd.R_mono (ok' := fun k_ => (P1_ k_ ∨ w.heap.size ≤ k_)) ho0 (fun k_ hk_ => Or.elim hk_ (fun hs_ => (HO246.out.1 k_ (hs_).symm)) (fun hn_ => (.inr (Nat.le_trans (by exact HK.out.1) hn_))))); have n2_ := am (Kept.then_ (S := (fun k_ => (P1_ k_) ∨ k_ = g)) (by exact kI) hkp (fun k_ hs_ => (fun e_ => Or.imp_left Or.inl ((HO246.out.1 k_ e_.symm))) hs_)); have n3_ := am (hb); clear HI0; clear HK; clear HB; clear HO246; have HI0 := n0_; have HO252 := n1_; have HK := n2_; have HB := n3_; clear n0_ n1_ n2_ n3_; (try clear hb); (try clear hkp); (try clear ho0)))
               go_ret2
               exact ⟨_, by rfl, by exact sR <| HO252.out, by exact sIsS58, by exact bIsS58, by exact kI⟩
              ·rw [if_neg c104] at H
               have c104b0 : (t183 == 3) = false := beq_eq_false_iff_ne.mpr c104
               have c104b1 : (t183 != 3) = true := bne_iff_ne.mpr c104
               have H' := am H
               clear H
               go_wp2
               go_meet
               case rel => exact ⟨_, (l1), (t184), (t185), H', ⟨by have := HK1.out; have := HJ12.out; have := HJ43.out; omega⟩, ⟨by exact sR <| HO_1.out⟩, ⟨by exact sIsS58⟩, ⟨by exact kI⟩, ⟨by exact bIsS58⟩⟩
          case rest => as_aux_lemma =>
           clear HC66
           obtain ⟨kq, x1_65, x1001_65, x1002_65, HA, HJ65, HO_1, HI0, HK, HB⟩ := hcut
           cases kq with
           | zero => exact absurd HA.out (by simp [spec_l02Deep.j4])
           | succ kj65 =>
            have H := HA.out
            clear HA
            simp only [spec_l02Deep.j4] at H
            replace H := oB H
            obtain ⟨⟨t254, t257, t258, t259⟩, A1170, H⟩ := H
            try dsimp only at H
            have A117 := am A1170
            clear A1170
            replace H := oB H
            obtain ⟨⟨t260, t263, t264, t265⟩, A1180, H⟩ := H
            try dsimp only at H
            have A118 := am A1180
            clear A1180
            replace H := oB H
            obtain ⟨⟨t266, t267, t268⟩, A1190, H⟩ := H
            try dsimp only at H
            have A119 := am A1190
            clear A1190
            replace H := oB H
            obtain ⟨⟨t269, t272⟩, A1200, H⟩ := H
            try dsimp only at H
            have A120 := am A1200
            clear A1200
            simp only [Option.some.injEq, Prod.mk.injEq] at H
            obtain ⟨rfl, rfl, rfl, rfl⟩ := H
            obtain ⟨Ao121, co121, eo121⟩ := Kd.R_slice HO_1.out
            subst eo121
            go_wp2_with (first | ((with_reducible refine gate_callee (f := 59) rfl ?_); refine goesL_ (some 276) rfl rfl Try.func59 (by kernel_rfl) rfl #[.pointer (some ⟨g, 0, none⟩), .slice Ao121 x1_65.length co121, .slice A2 l2.length c2, .int .i64 a3, .int .i64 (wrap64 (a4 - 1))] rfl tm ?_; (with_reducible refine (ih kj65 (by have := HK1.out; have := HJ12.out; have := HJ43.out; have := HJ65.out; omega) g s0_0 x1001_65 x1002_65 (fun k_ => some k_ = (.slice Ao121 x1_65.length co121 : Value).ownBlock) (.slice Ao121 x1_65.length co121) x1_65 _ _ l2 a3 (wrap64 (a4 - 1)) t254 t257 t258 t259 w0 _ ?side1 ?side2 ?side3 ?side4 ?side5 A117.out).mono ?_); (case side1 => exact sIsS58); (case side2 => exact bIsS58); (case side3 => exact Kd.R_tight rfl HO_1.out); (case side4 => exact Kd.C_kept_call HR2.out (by exact kI) (fun k_ hs_ => Or.elim hs_ (fun hs_ => (fun e_ => Or.imp_left Or.inl ((HO_1.out.1 k_ e_.symm))) hs_) (fun e_ => .inl (.inr e_)))); (case side5 => exact HC2.out); rintro e w122 ⟨v255, rfl, ho0, hi, hb, hkp⟩; refine ⟨_, rfl, ?_⟩; have n0_ := am (hi); have n1_ := am (Kd.R_mono (ok' := fun k_ => (P1_ k_ ∨ w.heap.size ≤ k_)) ho0 (fun k_ hk_ => Or.elim hk_ (fun hs_ => (HO_1.out.1 k_ (hs_).symm)) (fun hn_ => (.inr (Nat.le_trans (by exact HK.out.1) hn_))))); have n2_ := am (Kept.then_ (S := (fun k_ => (P1_ k_) ∨ k_ = g)) (by exact kI) hkp (fun k_ hs_ => Or.elim hs_ (fun hs_ => (fun e_ => Or.imp_left Or.inl ((HO_1.out.1 k_ e_.symm))) hs_) (fun e_ => .inl (.inr e_)))); have n3_ := am (hb); clear HI0; clear HK; clear HB; clear HO_1; have HI0 := n0_; have HO256 := n1_; have HK := n2_; have HB := n3_; clear n0_ n1_ n2_ n3_; (try clear hb); (try clear hkp); (try clear ho0); obtain ⟨Ao123, co123, eo123⟩ := Kd.R_slice HO256.out; subst eo123) | ((with_reducible refine gate_callee (f := 59) rfl ?_); refine goesL_ (some 286) rfl rfl Try.func59 (by kernel_rfl) rfl #[.pointer (some ⟨g, 0, none⟩), .slice Ao123 t254.length co123, .slice A2 l2.length c2, .int .i64 a3, .int .i64 (wrap64 (a4 - 1))] rfl tm ?_; (with_reducible refine (ih kj65 (by have := HK1.out; have := HJ12.out; have := HJ43.out; have := HJ65.out; omega) g s0_0 t258 t259 (fun k_ => some k_ = (.slice Ao123 t254.length co123 : Value).ownBlock) (.slice Ao123 t254.length co123) t254 _ _ l2 a3 (wrap64 (a4 - 1)) t260 t263 t264 t265 w0 _ ?side1 ?side2 ?side3 ?side4 ?side5 A118.out).mono ?_); (case side1 => exact sIsS58); (case side2 => exact bIsS58); (case side3 => exact Kd.R_tight rfl HO256.out); (case side4 => exact Kd.C_kept_call HR2.out (by exact kI) (fun k_ hs_ => Or.elim hs_ (fun hs_ => (fun e_ => Or.imp_left Or.inl ((HO256.out.1 k_ e_.symm))) hs_) (fun e_ => .inl (.inr e_)))); (case side5 => exact HC2.out); rintro e w124 ⟨v261, rfl, ho0, hi, hb, hkp⟩; refine ⟨_, rfl, ?_⟩; have n0_ := am (hi); have n1_ := am (Kd.R_mono (ok' := fun k_ => (P1_ k_ ∨ w.heap.size ≤ k_)) ho0 (fun k_ hk_ => Or.elim hk_ (fun hs_ => (HO256.out.1 k_ (hs_).symm)) (fun hn_ => (.inr (Nat.le_trans (by exact HK.out.1) hn_))))); have n2_ := am (Kept.then_ (S := (fun k_ => (P1_ k_) ∨ k_ = g)) (by exact kI) hkp (fun k_ hs_ => Or.elim hs_ (fun hs_ => (fun e_ => Or.imp_left Or.inl ((HO256.out.1 k_ e_.symm))) hs_) (fun e_ => .inl (.inr e_)))); have n3_ := am (hb); clear HI0; clear HK; clear HB; clear HO256; have HI0 := n0_; have HO262 := n1_; have HK := n2_; have HB := n3_; clear n0_ n1_ n2_ n3_; (try clear hb); (try clear hkp); (try clear ho0)) | ((with_reducible refine gate_callee (f := 43) rfl ?_); refine goesL_ (some 291) rfl rfl Try.func43 (by kernel_rfl) rfl #[.pointer (some ⟨g, 0, none⟩), .int .i64 10] rfl tm ?_; (with_reducible refine (spec_l01Below.calls g s0_0 t264 t265 10 t266 t267 t268 w0 _ ?side1 ?side2 A119.out).mono ?_); (case side1 => exact sIsS58); (case side2 => exact bIsS58); rintro e w125 ⟨rfl, hi, hb, hk⟩; refine ⟨_, rfl, ?_⟩; have n0_ := am (Kd.R_mono (Kd.R_keep (IsS58.apart (show IsS58 w0 _ g s0_0 t264 t265 from by exact sIsS58) (by exact sR <| HO262.out) (by decide)) hk (fun _ h => h.2)) (fun _ h => h.1)); have n1_ := am (Kept.of_keep (S := (fun k_ => (P1_ k_) ∨ k_ = g)) (by exact kI) hk (.inl (.inr rfl))); have n2_ := am (hb); have n3_ := am (hi); clear HO262; clear HK; clear HB; clear HI0; have HO262 := n0_; have HK := n1_; have HB := n2_; have HI0 := n3_; clear n0_ n1_ n2_ n3_; (try clear hb); (try clear hb2); (try clear hk); (try clear hi); obtain ⟨Ao126, co126, eo126⟩ := Kd.R_slice HO262.out; subst eo126) | ((with_reducible refine gate_callee (f := 58) rfl ?_); refine goesL_ (some 297) rfl rfl Try.func58 (by kernel_rfl) rfl #[.slice Ao126 t260.length co126, .agg #[.int .i64 (wrap64 (3 + t266)), .int .i64 a3, .int .i64 0, .int .i64 t257, .int .i64 t263, .int .i64 0]] rfl tm ?_; (with_reducible refine (spec_l02Push.calls (fun k_ => some k_ = (.slice Ao126 t260.length co126 : Value).ownBlock) (.slice Ao126 t260.length co126) t260 (wrap64 (3 + t266)) a3 0 t257 t263 0 t269 t272 w0 _ ?side1 ?side2 A120.out).mono ?_); (case side1 => exact bIsS58); (case side2 => exact Kd.R_tight rfl HO262.out); rintro e w127 ⟨v270, rfl, ho0, hb, hkp⟩; refine ⟨_, rfl, ?_⟩; have n0_ := am (IsS58.kept (by exact sIsS58) hkp (fun hs_ => (fun e_ => (IsS58.own_ne HI0.out HO262.out (by decide)) e_) hs_)); have n1_ := am (Kd.R_mono (ok' := fun k_ => (P1_ k_ ∨ w.heap.size ≤ k_)) ho0 (fun k_ hk_ => Or.elim hk_ (fun hs_ => (HO262.out.1 k_ (hs_).symm)) (fun hn_ => (.inr (Nat.le_trans (by exact HK.out.1) hn_))))); have n2_ := am (Kept.then_ (S := (fun k_ => (P1_ k_) ∨ k_ = g)) (by exact kI) hkp (fun k_ hs_ => (fun e_ => Or.imp_left Or.inl ((HO262.out.1 k_ e_.symm))) hs_)); have n3_ := am (hb); clear HI0; clear HK; clear HB; clear HO262; have HI0 := n0_; have HO271 := n1_; have HK := n2_; have HB := n3_; clear n0_ n1_ n2_ n3_; (try clear hb); (try clear hkp); (try clear ho0)))
            go_ret2
            exact ⟨_, by rfl, by exact sR <| HO271.out, by exact sIsS58, by exact bIsS58, by exact kI⟩
end Go.Proofs.Ytjjjbifbibabgaa.PAll
