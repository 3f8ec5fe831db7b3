/- Written by a program of this session over the loaded program, and by hand: Go functions as plain Lean functions, and that a call comes to what they say. -/
import Derived.Test.YtkpipmojkhikaaaVExactCanon0
import Derived.Test.YtkpipmojkhikaaaBase
import Derived.Test.YtkpipmojkhikaaaSq
namespace Go.Proofs.Ytkpipmojkhikaaa.PAll
open Go.RowKit Go.Proofs.YtkpipmojkhikaaaW.PrintWords Go.Proofs.YtkpipmojkhikaaaW.PrintLast Go.Proofs.YtkpipmojkhikaaaW.PrintMore Go.Proofs.YtkpipmojkhikaaaW.Sq
attribute [local go_sem] max2_int min2_int max_two min_two max_three min_three max_four min_four   -- for this text's walks alone
set_option linter.unusedVariables false
set_option linter.unusedSimpArgs false

-- NOT PRINTED: function 61 (impl_termReader_node)

-- NOT PRINTED: function 32 (impl_ReadTerm)

-- NOT PRINTED: function 28 (impl_Canon)
/-! ### laws_markNodeS: function 29 -/
def laws_markNodeS.l0 : Nat → List (S31) → Int → Int → Option (Int × (List (S31)))
 | 0, _, _, _ => none
 | k + 1, x0, x1, x5 => if x5 < (x0.length : Int) then (if 0 ≤ x5 then ((some (x0.set (x5 : Int).toNat (⟨x1, (rd_T31 x0 x5).f1, (rd_T31 x0 x5).f2, (rd_T31 x0 x5).f3, (rd_T31 x0 x5).f4, (rd_T31 x0 x5).f5⟩ : S31) : List (S31))).bind fun y452 => ((some (y452.set (x5 : Int).toNat (⟨(rd_T31 y452 x5).f0, wrap64 (x1 + 1), (rd_T31 y452 x5).f2, (rd_T31 y452 x5).f3, (rd_T31 y452 x5).f4, (rd_T31 y452 x5).f5⟩ : S31) : List (S31))).bind fun y453 => ((some (y453.set (x5 : Int).toNat (⟨(rd_T31 y453 x5).f0, (rd_T31 y453 x5).f1, wrap64 ((wrap64 (x1 + 1)) + 1), (rd_T31 y453 x5).f3, (rd_T31 y453 x5).f4, (rd_T31 y453 x5).f5⟩ : S31) : List (S31))).bind fun y454 => ((some (y454.set (x5 : Int).toNat (⟨(rd_T31 y454 x5).f0, (rd_T31 y454 x5).f1, (rd_T31 y454 x5).f2, wrap64 ((wrap64 ((wrap64 (x1 + 1)) + 1)) + 1), (rd_T31 y454 x5).f4, (rd_T31 y454 x5).f5⟩ : S31) : List (S31))).bind fun y455 => ((some (y455.set (x5 : Int).toNat (⟨(rd_T31 y455 x5).f0, (rd_T31 y455 x5).f1, (rd_T31 y455 x5).f2, (rd_T31 y455 x5).f3, wrap64 ((wrap64 ((wrap64 ((wrap64 (x1 + 1)) + 1)) + 1)) + 1), (rd_T31 y455 x5).f5⟩ : S31) : List (S31))).bind fun y456 => (laws_markNodeS.l0 k (y456.set (x5 : Int).toNat (⟨(rd_T31 y456 x5).f0, (rd_T31 y456 x5).f1, (rd_T31 y456 x5).f2, (rd_T31 y456 x5).f3, (rd_T31 y456 x5).f4, wrap64 ((wrap64 ((wrap64 ((wrap64 ((wrap64 (x1 + 1)) + 1)) + 1)) + 1)) + 1)⟩ : S31)) (wrap64 ((wrap64 ((wrap64 ((wrap64 ((wrap64 ((wrap64 (x1 + 1)) + 1)) + 1)) + 1)) + 1)) + 1)) (wrap64 (x5 + 1)))))))) else (none)) else (some (x1, x0))
def laws_markNodeS.f (k : Nat) (l0 : List (S31)) (a1 : Int) : Option (Int × (List (S31))) := laws_markNodeS.l0 k l0 a1 0
set_option maxHeartbeats 8000000 in
set_option maxRecDepth 100000 in
theorem laws_markNodeS.calls (k : Nat) (P0_ : Nat → Prop) (u9000_ : Value) (l0 : List (S31)) (a1 : Int) (r1 : Int) (r2 : List (S31)) (w0 w : World) (hB : Below w0.heap.size w0 w) (ho0 : Kd.R k31 31 w w0.heap.size P0_ u9000_ l0) (h : laws_markNodeS.f k l0 a1 = some (r1, r2)) :
  Calls Try.prog 29 #[u9000_, .int .i64 a1] w fun e w' => e = .returned (.int .i64 r1) ∧ Kd.R k31 31 w' w0.heap.size (fun k_ => (P0_ k_ ∨ w.heap.size ≤ k_)) u9000_ r2 ∧ Below w0.heap.size w0 w' ∧ Kept w w' (fun k_ => P0_ k_) := by
 have HO0 := am (show Kd.R k31 31 w w0.heap.size (fun k_ => (P0_ k_ ∨ w.heap.size ≤ k_)) u9000_ l0 from Kd.R_mono ho0 (fun k_ hk => (.inl hk)))
 have HK := am (Kept.refl w (fun k_ => P0_ k_))
 have HW0 := am hB.size
 have HB := am hB
 clear hB
 have H : (laws_markNodeS.l0 k l0 a1 0) = some (r1, r2) := h
 clear h
 have H' := am H
 clear H
 go_enter Try.func29, Try.ntmps29
 go_wp2
 go_loopg [1, 5] k (fun kq v1 v5 w' => ∃ (x0_1 : List (S31)) (x1_1 : Int) (x5_1 : Int), v1 = .int .i64 x1_1 ∧ v5 = .int .i64 x5_1 ∧ Aside0 (laws_markNodeS.l0 kq x0_1 x1_1 x5_1 = some (r1, r2)) ∧ Aside0 (kq ≤ k) ∧ Aside0 (Kd.R k31 31 w' w0.heap.size (fun k_ => (P0_ k_ ∨ w.heap.size ≤ k_)) u9000_ x0_1) ∧ Aside0 (Kept w w' (fun k_ => P0_ k_)) ∧ Aside0 (Below w0.heap.size w0 w'))
 case atStart => exact ⟨(l0), (a1), (0), (by rfl), (by rfl), H', ⟨Nat.le_refl _⟩, ⟨by exact sR <| HO0.out⟩, ⟨by repeat (first | (with_reducible first | exact HK.out | apply Kept.alloc | apply Kept.drewN | apply Kept.drew) | exact HK.out)⟩, ⟨by exact sW HB.out⟩⟩
 case round =>
  clear H'
  obtain ⟨x0_1, x1_1, x5_1, rfl, rfl, HA, HK1, HO_0, HK, HB⟩ := hrel
  cases gk with
  | zero => exact absurd HA.out (by simp [laws_markNodeS.l0])
  | succ k1 =>
   have H := HA.out
   clear HA
   simp only [laws_markNodeS.l0] at H
   replace H := iD H; rcases H with ⟨c3b0, H⟩ | ⟨c3b0, H⟩
   ·replace H := iN H; obtain ⟨c4b0, H⟩ := H
    obtain ⟨y452, hy452⟩ : ∃ y_ : List (S31), y_ = (x0_1.set (x5_1 : Int).toNat (⟨x1_1, (rd_T31 x0_1 x5_1).f1, (rd_T31 x0_1 x5_1).f2, (rd_T31 x0_1 x5_1).f3, (rd_T31 x0_1 x5_1).f4, (rd_T31 x0_1 x5_1).f5⟩ : S31)) := ⟨_, rfl⟩
    replace H : ((some (y452.set (x5_1 : Int).toNat (⟨(rd_T31 y452 x5_1).f0, wrap64 (x1_1 + 1), (rd_T31 y452 x5_1).f2, (rd_T31 y452 x5_1).f3, (rd_T31 y452 x5_1).f4, (rd_T31 y452 x5_1).f5⟩ : S31) : List (S31))).bind fun y453 => ((some (y453.set (x5_1 : Int).toNat (⟨(rd_T31 y453 x5_1).f0, (rd_T31 y453 x5_1).f1, wrap64 ((wrap64 (x1_1 + 1)) + 1), (rd_T31 y453 x5_1).f3, (rd_T31 y453 x5_1).f4, (rd_T31 y453 x5_1).f5⟩ : S31) : List (S31))).bind fun y454 => ((some (y454.set (x5_1 : Int).toNat (⟨(rd_T31 y454 x5_1).f0, (rd_T31 y454 x5_1).f1, (rd_T31 y454 x5_1).f2, wrap64 ((wrap64 ((wrap64 (x1_1 + 1)) + 1)) + 1), (rd_T31 y454 x5_1).f4, (rd_T31 y454 x5_1).f5⟩ : S31) : List (S31))).bind fun y455 => ((some (y455.set (x5_1 : Int).toNat (⟨(rd_T31 y455 x5_1).f0, (rd_T31 y455 x5_1).f1, (rd_T31 y455 x5_1).f2, (rd_T31 y455 x5_1).f3, wrap64 ((wrap64 ((wrap64 ((wrap64 (x1_1 + 1)) + 1)) + 1)) + 1), (rd_T31 y455 x5_1).f5⟩ : S31) : List (S31))).bind fun y456 => (laws_markNodeS.l0 k1 (y456.set (x5_1 : Int).toNat (⟨(rd_T31 y456 x5_1).f0, (rd_T31 y456 x5_1).f1, (rd_T31 y456 x5_1).f2, (rd_T31 y456 x5_1).f3, (rd_T31 y456 x5_1).f4, wrap64 ((wrap64 ((wrap64 ((wrap64 ((wrap64 (x1_1 + 1)) + 1)) + 1)) + 1)) + 1)⟩ : S31)) (wrap64 ((wrap64 ((wrap64 ((wrap64 ((wrap64 ((wrap64 (x1_1 + 1)) + 1)) + 1)) + 1)) + 1)) + 1)) (wrap64 (x5_1 + 1))))))) = some (r1, r2) := by (have H2_ := (Option.bind_some _ _).symm.trans H; rw [hy452]; with_reducible exact H2_)
    have Ny452 := am hy452
    clear hy452
    obtain ⟨y453, hy453⟩ : ∃ y_ : List (S31), y_ = (y452.set (x5_1 : Int).toNat (⟨(rd_T31 y452 x5_1).f0, wrap64 (x1_1 + 1), (rd_T31 y452 x5_1).f2, (rd_T31 y452 x5_1).f3, (rd_T31 y452 x5_1).f4, (rd_T31 y452 x5_1).f5⟩ : S31)) := ⟨_, rfl⟩
    replace H : ((some (y453.set (x5_1 : Int).toNat (⟨(rd_T31 y453 x5_1).f0, (rd_T31 y453 x5_1).f1, wrap64 ((wrap64 (x1_1 + 1)) + 1), (rd_T31 y453 x5_1).f3, (rd_T31 y453 x5_1).f4, (rd_T31 y453 x5_1).f5⟩ : S31) : List (S31))).bind fun y454 => ((some (y454.set (x5_1 : Int).toNat (⟨(rd_T31 y454 x5_1).f0, (rd_T31 y454 x5_1).f1, (rd_T31 y454 x5_1).f2, wrap64 ((wrap64 ((wrap64 (x1_1 + 1)) + 1)) + 1), (rd_T31 y454 x5_1).f4, (rd_T31 y454 x5_1).f5⟩ : S31) : List (S31))).bind fun y455 => ((some (y455.set (x5_1 : Int).toNat (⟨(rd_T31 y455 x5_1).f0, (rd_T31 y455 x5_1).f1, (rd_T31 y455 x5_1).f2, (rd_T31 y455 x5_1).f3, wrap64 ((wrap64 ((wrap64 ((wrap64 (x1_1 + 1)) + 1)) + 1)) + 1), (rd_T31 y455 x5_1).f5⟩ : S31) : List (S31))).bind fun y456 => (laws_markNodeS.l0 k1 (y456.set (x5_1 : Int).toNat (⟨(rd_T31 y456 x5_1).f0, (rd_T31 y456 x5_1).f1, (rd_T31 y456 x5_1).f2, (rd_T31 y456 x5_1).f3, (rd_T31 y456 x5_1).f4, wrap64 ((wrap64 ((wrap64 ((wrap64 ((wrap64 (x1_1 + 1)) + 1)) + 1)) + 1)) + 1)⟩ : S31)) (wrap64 ((wrap64 ((wrap64 ((wrap64 ((wrap64 ((wrap64 (x1_1 + 1)) + 1)) + 1)) + 1)) + 1)) + 1)) (wrap64 (x5_1 + 1)))))) = some (r1, r2) := by (have H2_ := (Option.bind_some _ _).symm.trans H; rw [hy453]; with_reducible exact H2_)
    have Ny453 := am hy453
    clear hy453
    obtain ⟨y454, hy454⟩ : ∃ y_ : List (S31), y_ = (y453.set (x5_1 : Int).toNat (⟨(rd_T31 y453 x5_1).f0, (rd_T31 y453 x5_1).f1, wrap64 ((wrap64 (x1_1 + 1)) + 1), (rd_T31 y453 x5_1).f3, (rd_T31 y453 x5_1).f4, (rd_T31 y453 x5_1).f5⟩ : S31)) := ⟨_, rfl⟩
    replace H : ((some (y454.set (x5_1 : Int).toNat (⟨(rd_T31 y454 x5_1).f0, (rd_T31 y454 x5_1).f1, (rd_T31 y454 x5_1).f2, wrap64 ((wrap64 ((wrap64 (x1_1 + 1)) + 1)) + 1), (rd_T31 y454 x5_1).f4, (rd_T31 y454 x5_1).f5⟩ : S31) : List (S31))).bind fun y455 => ((some (y455.set (x5_1 : Int).toNat (⟨(rd_T31 y455 x5_1).f0, (rd_T31 y455 x5_1).f1, (rd_T31 y455 x5_1).f2, (rd_T31 y455 x5_1).f3, wrap64 ((wrap64 ((wrap64 ((wrap64 (x1_1 + 1)) + 1)) + 1)) + 1), (rd_T31 y455 x5_1).f5⟩ : S31) : List (S31))).bind fun y456 => (laws_markNodeS.l0 k1 (y456.set (x5_1 : Int).toNat (⟨(rd_T31 y456 x5_1).f0, (rd_T31 y456 x5_1).f1, (rd_T31 y456 x5_1).f2, (rd_T31 y456 x5_1).f3, (rd_T31 y456 x5_1).f4, wrap64 ((wrap64 ((wrap64 ((wrap64 ((wrap64 (x1_1 + 1)) + 1)) + 1)) + 1)) + 1)⟩ : S31)) (wrap64 ((wrap64 ((wrap64 ((wrap64 ((wrap64 ((wrap64 (x1_1 + 1)) + 1)) + 1)) + 1)) + 1)) + 1)) (wrap64 (x5_1 + 1))))) = some (r1, r2) := by (have H2_ := (Option.bind_some _ _).symm.trans H; rw [hy454]; with_reducible exact H2_)
    have Ny454 := am hy454
    clear hy454
    obtain ⟨y455, hy455⟩ : ∃ y_ : List (S31), y_ = (y454.set (x5_1 : Int).toNat (⟨(rd_T31 y454 x5_1).f0, (rd_T31 y454 x5_1).f1, (rd_T31 y454 x5_1).f2, wrap64 ((wrap64 ((wrap64 (x1_1 + 1)) + 1)) + 1), (rd_T31 y454 x5_1).f4, (rd_T31 y454 x5_1).f5⟩ : S31)) := ⟨_, rfl⟩
    replace H : ((some (y455.set (x5_1 : Int).toNat (⟨(rd_T31 y455 x5_1).f0, (rd_T31 y455 x5_1).f1, (rd_T31 y455 x5_1).f2, (rd_T31 y455 x5_1).f3, wrap64 ((wrap64 ((wrap64 ((wrap64 (x1_1 + 1)) + 1)) + 1)) + 1), (rd_T31 y455 x5_1).f5⟩ : S31) : List (S31))).bind fun y456 => (laws_markNodeS.l0 k1 (y456.set (x5_1 : Int).toNat (⟨(rd_T31 y456 x5_1).f0, (rd_T31 y456 x5_1).f1, (rd_T31 y456 x5_1).f2, (rd_T31 y456 x5_1).f3, (rd_T31 y456 x5_1).f4, wrap64 ((wrap64 ((wrap64 ((wrap64 ((wrap64 (x1_1 + 1)) + 1)) + 1)) + 1)) + 1)⟩ : S31)) (wrap64 ((wrap64 ((wrap64 ((wrap64 ((wrap64 ((wrap64 (x1_1 + 1)) + 1)) + 1)) + 1)) + 1)) + 1)) (wrap64 (x5_1 + 1)))) = some (r1, r2) := by (have H2_ := (Option.bind_some _ _).symm.trans H; rw [hy455]; with_reducible exact H2_)
    have Ny455 := am hy455
    clear hy455
    obtain ⟨y456, hy456⟩ : ∃ y_ : List (S31), y_ = (y455.set (x5_1 : Int).toNat (⟨(rd_T31 y455 x5_1).f0, (rd_T31 y455 x5_1).f1, (rd_T31 y455 x5_1).f2, (rd_T31 y455 x5_1).f3, wrap64 ((wrap64 ((wrap64 ((wrap64 (x1_1 + 1)) + 1)) + 1)) + 1), (rd_T31 y455 x5_1).f5⟩ : S31)) := ⟨_, rfl⟩
    replace H : (laws_markNodeS.l0 k1 (y456.set (x5_1 : Int).toNat (⟨(rd_T31 y456 x5_1).f0, (rd_T31 y456 x5_1).f1, (rd_T31 y456 x5_1).f2, (rd_T31 y456 x5_1).f3, (rd_T31 y456 x5_1).f4, wrap64 ((wrap64 ((wrap64 ((wrap64 ((wrap64 (x1_1 + 1)) + 1)) + 1)) + 1)) + 1)⟩ : S31)) (wrap64 ((wrap64 ((wrap64 ((wrap64 ((wrap64 ((wrap64 (x1_1 + 1)) + 1)) + 1)) + 1)) + 1)) + 1)) (wrap64 (x5_1 + 1))) = some (r1, r2) := by (have H2_ := (Option.bind_some _ _).symm.trans H; rw [hy456]; with_reducible exact H2_)
    have Ny456 := am hy456
    clear hy456
    obtain ⟨y457, hy457⟩ : ∃ y_ : List (S31), y_ = (y456.set (x5_1 : Int).toNat (⟨(rd_T31 y456 x5_1).f0, (rd_T31 y456 x5_1).f1, (rd_T31 y456 x5_1).f2, (rd_T31 y456 x5_1).f3, (rd_T31 y456 x5_1).f4, wrap64 ((wrap64 ((wrap64 ((wrap64 ((wrap64 (x1_1 + 1)) + 1)) + 1)) + 1)) + 1)⟩ : S31)) := ⟨_, rfl⟩
    replace H : (laws_markNodeS.l0 k1 y457 (wrap64 ((wrap64 ((wrap64 ((wrap64 ((wrap64 ((wrap64 (x1_1 + 1)) + 1)) + 1)) + 1)) + 1)) + 1)) (wrap64 (x5_1 + 1))) = some (r1, r2) := by (rw [hy457]; with_reducible exact H)
    have Ny457 := am hy457
    clear hy457
    have H' := am H
    clear H
    obtain ⟨Ao11, co11, eo11⟩ := Kd.R_slice HO_0.out
    subst eo11
    have p5 : 0 ≤ (x5_1 : Int) := oD (by assumption)
    have q5 : (x5_1 : Int) < ((x0_1.length : Int) : Int) := oD (by assumption)
    obtain ⟨go5, co5, eo5, gb5, gl5, cl5, HG5⟩ := Kd.R_form HO_0.out (by omega)
    (cases eo5)
    have GB5 := am gb5
    have GG5 := am HG5
    clear gb5 gl5 HG5
    have HMgo5 := am (show (P0_ go5 ∨ w.heap.size ≤ go5) from (HO_0.out.1 _ rfl))
    obtain ⟨ce5, hcl5, hM5, hcc5, hfr5⟩ := Kd.R_elem HO_0.out z31 (x5_1 : Int) p5 q5
    obtain rfl := k31_openM hM5
    have hx5_0 : wr.cell? ⟨go5, (x5_1 : Int).toNat * 6, none⟩ = some (.int .i64 ((rd_T31 x0_1 x5_1).f0)) := hcc5 0 _ rfl
    have hx5_1 : wr.cell? ⟨go5, (x5_1 : Int).toNat * 6 + 1, none⟩ = some (.int .i64 ((rd_T31 x0_1 x5_1).f1)) := hcc5 1 _ rfl
    have hx5_2 : wr.cell? ⟨go5, (x5_1 : Int).toNat * 6 + 2, none⟩ = some (.int .i64 ((rd_T31 x0_1 x5_1).f2)) := hcc5 2 _ rfl
    have hx5_3 : wr.cell? ⟨go5, (x5_1 : Int).toNat * 6 + 3, none⟩ = some (.int .i64 ((rd_T31 x0_1 x5_1).f3)) := hcc5 3 _ rfl
    have hx5_4 : wr.cell? ⟨go5, (x5_1 : Int).toNat * 6 + 4, none⟩ = some (.int .i64 ((rd_T31 x0_1 x5_1).f4)) := hcc5 4 _ rfl
    have hx5_5 : wr.cell? ⟨go5, (x5_1 : Int).toNat * 6 + 5, none⟩ = some (.int .i64 ((rd_T31 x0_1 x5_1).f5)) := hcc5 5 _ rfl
    have hf5_0 : wr.frozen? ⟨go5, (x5_1 : Int).toNat * 6, none⟩ = false := hfr5 0
    have hf5_1 : wr.frozen? ⟨go5, (x5_1 : Int).toNat * 6 + 1, none⟩ = false := hfr5 1
    have hf5_2 : wr.frozen? ⟨go5, (x5_1 : Int).toNat * 6 + 2, none⟩ = false := hfr5 2
    have hf5_3 : wr.frozen? ⟨go5, (x5_1 : Int).toNat * 6 + 3, none⟩ = false := hfr5 3
    have hf5_4 : wr.frozen? ⟨go5, (x5_1 : Int).toNat * 6 + 4, none⟩ = false := hfr5 4
    have hf5_5 : wr.frozen? ⟨go5, (x5_1 : Int).toNat * 6 + 5, none⟩ = false := hfr5 5
    clear hcl5 hcc5 hfr5 hM5
    replace p5 := eq_true p5
    replace q5 := eq_true q5
    have HX12 := am (show Kd.R k31 31 wr w0.heap.size (fun k_ => (P0_ k_ ∨ w.heap.size ≤ k_)) (.slice (some ⟨go5, 0, none⟩) x0_1.length co11) x0_1 from (by exact sR <| HO_0.out))
    obtain ⟨ce12, hcl12, hM12, hcc12, hfr12⟩ := Kd.R_elem HX12.out z31 (x5_1 : Int) (oD (by assumption)) (by have h_ : (x5_1 : Int) < ((x0_1.length : Int) : Int) := oD (by assumption); exact h_)
    obtain rfl := k31_openM hM12
    have HP12 := Kd.R_seg HX12.out (x5_1 : Int) (oD (by assumption)) (by have h_ : (x5_1 : Int) < ((x0_1.length : Int) : Int) := oD (by assumption); exact h_) (seg := [.int .i64 x1_1]) (j := 0) hcl12 hcc12 (show 1 ≤ 6 from by decide) (x' := (⟨x1_1, (rd_T31 x0_1 x5_1).f1, (rd_T31 x0_1 x5_1).f2, (rd_T31 x0_1 x5_1).f3, (rd_T31 x0_1 x5_1).f4, (rd_T31 x0_1 x5_1).f5⟩ : S31)) (k31_mkM _ _ _ (⟨x1_1, (rd_T31 x0_1 x5_1).f1, (rd_T31 x0_1 x5_1).f2, (rd_T31 x0_1 x5_1).f3, (rd_T31 x0_1 x5_1).f4, (rd_T31 x0_1 x5_1).f5⟩ : S31) ) (fun _ hk => hk)
    have hx12_0 := hcc12 0 _ rfl
    (try simp only [show (k31).sz = 6 from rfl, Nat.mul_one, Nat.add_zero] at hx12_0)
    have hf12_0 := hfr12 0
    (try simp only [show (k31).sz = 6 from rfl, Nat.mul_one, Nat.add_zero] at hf12_0)
    clear hcl12 hcc12 hfr12 hM12
    go_wp2_with (first | ((with_reducible refine gate_store (t := 3) (p := 16) rfl ?_); refine store_event (t := 3) (p := 16) (v := ?vo_w13) (w1 := (wr.setCell ⟨go5, (x5_1 : Int).toNat * 6, none⟩ (.int .i64 x1_1))) ?hg ?ho ?hn ?hr ?_; (case ho => rfl); (case hg => rfl); (case hn => rfl); (case hr => (go_simp; done)); intro w13 hw; have hg : wr.grownBy w13 (some go5) := (by rw [hw]; exact HP12.2); have hp_ : Kd.R k31 31 w13 w0.heap.size (fun k_ => (P0_ k_ ∨ w.heap.size ≤ k_)) (.slice (some ⟨go5, 0, none⟩) x0_1.length co11) y452 := (by rw [hw, Ny452.out]; exact HP12.1); clear HP12; have n0_ := am (hp_); have n1_ := am ((by rw [hw]; exact below_set (HB.out) GB5.out : Below w0.heap.size w0 w13)); have n2_ := am (Kept.of_grown (S := (fun k_ => P0_ k_)) hg (by repeat (first | (with_reducible first | exact HK.out | apply Kept.alloc | apply Kept.drewN | apply Kept.drew) | exact HK.out)) (fun k_ e_ => (HO_0.out.1 k_ e_))); clear HO_0; clear HB; clear HK; have HO_0 := n0_; have HB := n1_; have HK := n2_; clear n0_ n1_ n2_; clear hg hw hp_; have p6 : 0 ≤ (x5_1 : Int) := oD (by assumption); have q6 : (x5_1 : Int) < ((x0_1.length : Int) : Int) := oD (by assumption); obtain ⟨ce6, hcl6, hM6, hcc6, hfr6⟩ := Kd.R_elem HO_0.out z31 (x5_1 : Int) p6 q6; obtain rfl := k31_openM hM6; have hx6_0 : w13.cell? ⟨go5, (x5_1 : Int).toNat * 6, none⟩ = some (.int .i64 ((rd_T31 y452 x5_1).f0)) := hcc6 0 _ rfl; have hx6_1 : w13.cell? ⟨go5, (x5_1 : Int).toNat * 6 + 1, none⟩ = some (.int .i64 ((rd_T31 y452 x5_1).f1)) := hcc6 1 _ rfl; have hx6_2 : w13.cell? ⟨go5, (x5_1 : Int).toNat * 6 + 2, none⟩ = some (.int .i64 ((rd_T31 y452 x5_1).f2)) := hcc6 2 _ rfl; have hx6_3 : w13.cell? ⟨go5, (x5_1 : Int).toNat * 6 + 3, none⟩ = some (.int .i64 ((rd_T31 y452 x5_1).f3)) := hcc6 3 _ rfl; have hx6_4 : w13.cell? ⟨go5, (x5_1 : Int).toNat * 6 + 4, none⟩ = some (.int .i64 ((rd_T31 y452 x5_1).f4)) := hcc6 4 _ rfl; have hx6_5 : w13.cell? ⟨go5, (x5_1 : Int).toNat * 6 + 5, none⟩ = some (.int .i64 ((rd_T31 y452 x5_1).f5)) := hcc6 5 _ rfl; have hf6_0 : w13.frozen? ⟨go5, (x5_1 : Int).toNat * 6, none⟩ = false := hfr6 0; have hf6_1 : w13.frozen? ⟨go5, (x5_1 : Int).toNat * 6 + 1, none⟩ = false := hfr6 1; have hf6_2 : w13.frozen? ⟨go5, (x5_1 : Int).toNat * 6 + 2, none⟩ = false := hfr6 2; have hf6_3 : w13.frozen? ⟨go5, (x5_1 : Int).toNat * 6 + 3, none⟩ = false := hfr6 3; have hf6_4 : w13.frozen? ⟨go5, (x5_1 : Int).toNat * 6 + 4, none⟩ = false := hfr6 4; have hf6_5 : w13.frozen? ⟨go5, (x5_1 : Int).toNat * 6 + 5, none⟩ = false := hfr6 5; clear hcl6 hcc6 hfr6 hM6; replace p6 := eq_true p6; replace q6 := eq_true q6; have HX14 := am (show Kd.R k31 31 w13 w0.heap.size (fun k_ => (P0_ k_ ∨ w.heap.size ≤ k_)) (.slice (some ⟨go5, 0, none⟩) x0_1.length co11) y452 from (by exact sR <| HO_0.out)); obtain ⟨ce14, hcl14, hM14, hcc14, hfr14⟩ := Kd.R_elem HX14.out z31 (x5_1 : Int) (oD (by assumption)) (by have h_ : (x5_1 : Int) < ((x0_1.length : Int) : Int) := oD (by assumption); exact h_); obtain rfl := k31_openM hM14; have HP14 := Kd.R_seg HX14.out (x5_1 : Int) (oD (by assumption)) (by have h_ : (x5_1 : Int) < ((x0_1.length : Int) : Int) := oD (by assumption); exact h_) (seg := [.int .i64 (wrap64 (x1_1 + 1))]) (j := 1) hcl14 hcc14 (show 2 ≤ 6 from by decide) (x' := (⟨(rd_T31 y452 x5_1).f0, wrap64 (x1_1 + 1), (rd_T31 y452 x5_1).f2, (rd_T31 y452 x5_1).f3, (rd_T31 y452 x5_1).f4, (rd_T31 y452 x5_1).f5⟩ : S31)) (k31_mkM _ _ _ (⟨(rd_T31 y452 x5_1).f0, wrap64 (x1_1 + 1), (rd_T31 y452 x5_1).f2, (rd_T31 y452 x5_1).f3, (rd_T31 y452 x5_1).f4, (rd_T31 y452 x5_1).f5⟩ : S31) ) (fun _ hk => hk); have hx14_1 := hcc14 1 _ rfl; (try simp only [show (k31).sz = 6 from rfl, Nat.mul_one, Nat.add_zero] at hx14_1); have hf14_1 := hfr14 1; (try simp only [show (k31).sz = 6 from rfl, Nat.mul_one, Nat.add_zero] at hf14_1); clear hcl14 hcc14 hfr14 hM14) | ((with_reducible refine gate_store (t := 3) (p := 23) rfl ?_); refine store_event (t := 3) (p := 23) (v := ?vo_w15) (w1 := (w13.setCell ⟨go5, (x5_1 : Int).toNat * 6 + 1, none⟩ (.int .i64 (wrap64 (x1_1 + 1))))) ?hg ?ho ?hn ?hr ?_; (case ho => rfl); (case hg => rfl); (case hn => rfl); (case hr => (go_simp; done)); intro w15 hw; have hg : w13.grownBy w15 (some go5) := (by rw [hw]; exact HP14.2); have hp_ : Kd.R k31 31 w15 w0.heap.size (fun k_ => (P0_ k_ ∨ w.heap.size ≤ k_)) (.slice (some ⟨go5, 0, none⟩) x0_1.length co11) y453 := (by rw [hw, Ny453.out]; exact HP14.1); clear HP14; have n0_ := am (hp_); have n1_ := am ((by rw [hw]; exact below_set (HB.out) GB5.out : Below w0.heap.size w0 w15)); have n2_ := am (Kept.of_grown (S := (fun k_ => P0_ k_)) hg (by repeat (first | (with_reducible first | exact HK.out | apply Kept.alloc | apply Kept.drewN | apply Kept.drew) | exact HK.out)) (fun k_ e_ => (HO_0.out.1 k_ e_))); clear HO_0; clear HB; clear HK; have HO_0 := n0_; have HB := n1_; have HK := n2_; clear n0_ n1_ n2_; clear hg hw hp_; have p7 : 0 ≤ (x5_1 : Int) := oD (by assumption); have q7 : (x5_1 : Int) < ((x0_1.length : Int) : Int) := oD (by assumption); obtain ⟨ce7, hcl7, hM7, hcc7, hfr7⟩ := Kd.R_elem HO_0.out z31 (x5_1 : Int) p7 q7; obtain rfl := k31_openM hM7; have hx7_0 : w15.cell? ⟨go5, (x5_1 : Int).toNat * 6, none⟩ = some (.int .i64 ((rd_T31 y453 x5_1).f0)) := hcc7 0 _ rfl; have hx7_1 : w15.cell? ⟨go5, (x5_1 : Int).toNat * 6 + 1, none⟩ = some (.int .i64 ((rd_T31 y453 x5_1).f1)) := hcc7 1 _ rfl; have hx7_2 : w15.cell? ⟨go5, (x5_1 : Int).toNat * 6 + 2, none⟩ = some (.int .i64 ((rd_T31 y453 x5_1).f2)) := hcc7 2 _ rfl; have hx7_3 : w15.cell? ⟨go5, (x5_1 : Int).toNat * 6 + 3, none⟩ = some (.int .i64 ((rd_T31 y453 x5_1).f3)) := hcc7 3 _ rfl; have hx7_4 : w15.cell? ⟨go5, (x5_1 : Int).toNat * 6 + 4, none⟩ = some (.int .i64 ((rd_T31 y453 x5_1).f4)) := hcc7 4 _ rfl; have hx7_5 : w15.cell? ⟨go5, (x5_1 : Int).toNat * 6 + 5, none⟩ = some (.int .i64 ((rd_T31 y453 x5_1).f5)) := hcc7 5 _ rfl; have hf7_0 : w15.frozen? ⟨go5, (x5_1 : Int).toNat * 6, none⟩ = false := hfr7 0; have hf7_1 : w15.frozen? ⟨go5, (x5_1 : Int).toNat * 6 + 1, none⟩ = false := hfr7 1; have hf7_2 : w15.frozen? ⟨go5, (x5_1 : Int).toNat * 6 + 2, none⟩ = false := hfr7 2; have hf7_3 : w15.frozen? ⟨go5, (x5_1 : Int).toNat * 6 + 3, none⟩ = false := hfr7 3; have hf7_4 : w15.frozen? ⟨go5, (x5_1 : Int).toNat * 6 + 4, none⟩ = false := hfr7 4; have hf7_5 : w15.frozen? ⟨go5, (x5_1 : Int).toNat * 6 + 5, none⟩ = false := hfr7 5; clear hcl7 hcc7 hfr7 hM7; replace p7 := eq_true p7; replace q7 := eq_true q7; have HX16 := am (show Kd.R k31 31 w15 w0.heap.size (fun k_ => (P0_ k_ ∨ w.heap.size ≤ k_)) (.slice (some ⟨go5, 0, none⟩) x0_1.length co11) y453 from (by exact sR <| HO_0.out)); obtain ⟨ce16, hcl16, hM16, hcc16, hfr16⟩ := Kd.R_elem HX16.out z31 (x5_1 : Int) (oD (by assumption)) (by have h_ : (x5_1 : Int) < ((x0_1.length : Int) : Int) := oD (by assumption); exact h_); obtain rfl := k31_openM hM16; have HP16 := Kd.R_seg HX16.out (x5_1 : Int) (oD (by assumption)) (by have h_ : (x5_1 : Int) < ((x0_1.length : Int) : Int) := oD (by assumption); exact h_) (seg := [.int .i64 (wrap64 ((wrap64 (x1_1 + 1)) + 1))]) (j := 2) hcl16 hcc16 (show 3 ≤ 6 from by decide) (x' := (⟨(rd_T31 y453 x5_1).f0, (rd_T31 y453 x5_1).f1, wrap64 ((wrap64 (x1_1 + 1)) + 1), (rd_T31 y453 x5_1).f3, (rd_T31 y453 x5_1).f4, (rd_T31 y453 x5_1).f5⟩ : S31)) (k31_mkM _ _ _ (⟨(rd_T31 y453 x5_1).f0, (rd_T31 y453 x5_1).f1, wrap64 ((wrap64 (x1_1 + 1)) + 1), (rd_T31 y453 x5_1).f3, (rd_T31 y453 x5_1).f4, (rd_T31 y453 x5_1).f5⟩ : S31) ) (fun _ hk => hk); have hx16_2 := hcc16 2 _ rfl; (try simp only [show (k31).sz = 6 from rfl, Nat.mul_one, Nat.add_zero] at hx16_2); have hf16_2 := hfr16 2; (try simp only [show (k31).sz = 6 from rfl, Nat.mul_one, Nat.add_zero] at hf16_2); clear hcl16 hcc16 hfr16 hM16) | ((with_reducible refine gate_store (t := 3) (p := 30) rfl ?_); refine store_event (t := 3) (p := 30) (v := ?vo_w17) (w1 := (w15.setCell ⟨go5, (x5_1 : Int).toNat * 6 + 2, none⟩ (.int .i64 (wrap64 ((wrap64 (x1_1 + 1)) + 1))))) ?hg ?ho ?hn ?hr ?_; (case ho => rfl); (case hg => rfl); (case hn => rfl); (case hr => (go_simp; done)); intro w17 hw; have hg : w15.grownBy w17 (some go5) := (by rw [hw]; exact HP16.2); have hp_ : Kd.R k31 31 w17 w0.heap.size (fun k_ => (P0_ k_ ∨ w.heap.size ≤ k_)) (.slice (some ⟨go5, 0, none⟩) x0_1.length co11) y454 := (by rw [hw, Ny454.out]; exact HP16.1); clear HP16; have n0_ := am (hp_); have n1_ := am ((by rw [hw]; exact below_set (HB.out) GB5.out : Below w0.heap.size w0 w17)); have n2_ := am (Kept.of_grown (S := (fun k_ => P0_ k_)) hg (by repeat (first | (with_reducible first | exact HK.out | apply Kept.alloc | apply Kept.drewN | apply Kept.drew) | exact HK.out)) (fun k_ e_ => (HO_0.out.1 k_ e_))); clear HO_0; clear HB; clear HK; have HO_0 := n0_; have HB := n1_; have HK := n2_; clear n0_ n1_ n2_; clear hg hw hp_; have p8 : 0 ≤ (x5_1 : Int) := oD (by assumption); have q8 : (x5_1 : Int) < ((x0_1.length : Int) : Int) := oD (by assumption); obtain ⟨ce8, hcl8, hM8, hcc8, hfr8⟩ := Kd.R_elem HO_0.out z31 (x5_1 : Int) p8 q8; obtain rfl := k31_openM hM8; have hx8_0 : w17.cell? ⟨go5, (x5_1 : Int).toNat * 6, none⟩ = some (.int .i64 ((rd_T31 y454 x5_1).f0)) := hcc8 0 _ rfl; have hx8_1 : w17.cell? ⟨go5, (x5_1 : Int).toNat * 6 + 1, none⟩ = some (.int .i64 ((rd_T31 y454 x5_1).f1)) := hcc8 1 _ rfl; have hx8_2 : w17.cell? ⟨go5, (x5_1 : Int).toNat * 6 + 2, none⟩ = some (.int .i64 ((rd_T31 y454 x5_1).f2)) := hcc8 2 _ rfl; have hx8_3 : w17.cell? ⟨go5, (x5_1 : Int).toNat * 6 + 3, none⟩ = some (.int .i64 ((rd_T31 y454 x5_1).f3)) := hcc8 3 _ rfl; have hx8_4 : w17.cell? ⟨go5, (x5_1 : Int).toNat * 6 + 4, none⟩ = some (.int .i64 ((rd_T31 y454 x5_1).f4)) := hcc8 4 _ rfl; have hx8_5 : w17.cell? ⟨go5, (x5_1 : Int).toNat * 6 + 5, none⟩ = some (.int .i64 ((rd_T31 y454 x5_1).f5)) := hcc8 5 _ rfl; have hf8_0 : w17.frozen? ⟨go5, (x5_1 : Int).toNat * 6, none⟩ = false := hfr8 0; have hf8_1 : w17.frozen? ⟨go5, (x5_1 : Int).toNat * 6 + 1, none⟩ = false := hfr8 1; have hf8_2 : w17.frozen? ⟨go5, (x5_1 : Int).toNat * 6 + 2, none⟩ = false := hfr8 2; have hf8_3 : w17.frozen? ⟨go5, (x5_1 : Int).toNat * 6 + 3, none⟩ = false := hfr8 3; have hf8_4 : w17.frozen? ⟨go5, (x5_1 : Int).toNat * 6 + 4, none⟩ = false := hfr8 4; have hf8_5 : w17.frozen? ⟨go5, (x5_1 : Int).toNat * 6 + 5, none⟩ = false := hfr8 5; clear hcl8 hcc8 hfr8 hM8; replace p8 := eq_true p8; replace q8 := eq_true q8; have HX18 := am (show Kd.R k31 31 w17 w0.heap.size (fun k_ => (P0_ k_ ∨ w.heap.size ≤ k_)) (.slice (some ⟨go5, 0, none⟩) x0_1.length co11) y454 from (by exact sR <| HO_0.out)); obtain ⟨ce18, hcl18, hM18, hcc18, hfr18⟩ := Kd.R_elem HX18.out z31 (x5_1 : Int) (oD (by assumption)) (by have h_ : (x5_1 : Int) < ((x0_1.length : Int) : Int) := oD (by assumption); exact h_); obtain rfl := k31_openM hM18; have HP18 := Kd.R_seg HX18.out (x5_1 : Int) (oD (by assumption)) (by have h_ : (x5_1 : Int) < ((x0_1.length : Int) : Int) := oD (by assumption); exact h_) (seg := [.int .i64 (wrap64 ((wrap64 ((wrap64 (x1_1 + 1)) + 1)) + 1))]) (j := 3) hcl18 hcc18 (show 4 ≤ 6 from by decide) (x' := (⟨(rd_T31 y454 x5_1).f0, (rd_T31 y454 x5_1).f1, (rd_T31 y454 x5_1).f2, wrap64 ((wrap64 ((wrap64 (x1_1 + 1)) + 1)) + 1), (rd_T31 y454 x5_1).f4, (rd_T31 y454 x5_1).f5⟩ : S31)) (k31_mkM _ _ _ (⟨(rd_T31 y454 x5_1).f0, (rd_T31 y454 x5_1).f1, (rd_T31 y454 x5_1).f2, wrap64 ((wrap64 ((wrap64 (x1_1 + 1)) + 1)) + 1), (rd_T31 y454 x5_1).f4, (rd_T31 y454 x5_1).f5⟩ : S31) ) (fun _ hk => hk); have hx18_3 := hcc18 3 _ rfl; (try simp only [show (k31).sz = 6 from rfl, Nat.mul_one, Nat.add_zero] at hx18_3); have hf18_3 := hfr18 3; (try simp only [show (k31).sz = 6 from rfl, Nat.mul_one, Nat.add_zero] at hf18_3); clear hcl18 hcc18 hfr18 hM18) | ((with_reducible refine gate_store (t := 3) (p := 37) rfl ?_); refine store_event (t := 3) (p := 37) (v := ?vo_w19) (w1 := (w17.setCell ⟨go5, (x5_1 : Int).toNat * 6 + 3, none⟩ (.int .i64 (wrap64 ((wrap64 ((wrap64 (x1_1 + 1)) + 1)) + 1))))) ?hg ?ho ?hn ?hr ?_; (case ho => rfl); (case hg => rfl); (case hn => rfl); (case hr => (go_simp; done)); intro w19 hw; have hg : w17.grownBy w19 (some go5) := (by rw [hw]; exact HP18.2); have hp_ : Kd.R k31 31 w19 w0.heap.size (fun k_ => (P0_ k_ ∨ w.heap.size ≤ k_)) (.slice (some ⟨go5, 0, none⟩) x0_1.length co11) y455 := (by rw [hw, Ny455.out]; exact HP18.1); clear HP18; have n0_ := am (hp_); have n1_ := am ((by rw [hw]; exact below_set (HB.out) GB5.out : Below w0.heap.size w0 w19)); have n2_ := am (Kept.of_grown (S := (fun k_ => P0_ k_)) hg (by repeat (first | (with_reducible first | exact HK.out | apply Kept.alloc | apply Kept.drewN | apply Kept.drew) | exact HK.out)) (fun k_ e_ => (HO_0.out.1 k_ e_))); clear HO_0; clear HB; clear HK; have HO_0 := n0_; have HB := n1_; have HK := n2_; clear n0_ n1_ n2_; clear hg hw hp_; have p9 : 0 ≤ (x5_1 : Int) := oD (by assumption); have q9 : (x5_1 : Int) < ((x0_1.length : Int) : Int) := oD (by assumption); obtain ⟨ce9, hcl9, hM9, hcc9, hfr9⟩ := Kd.R_elem HO_0.out z31 (x5_1 : Int) p9 q9; obtain rfl := k31_openM hM9; have hx9_0 : w19.cell? ⟨go5, (x5_1 : Int).toNat * 6, none⟩ = some (.int .i64 ((rd_T31 y455 x5_1).f0)) := hcc9 0 _ rfl; have hx9_1 : w19.cell? ⟨go5, (x5_1 : Int).toNat * 6 + 1, none⟩ = some (.int .i64 ((rd_T31 y455 x5_1).f1)) := hcc9 1 _ rfl; have hx9_2 : w19.cell? ⟨go5, (x5_1 : Int).toNat * 6 + 2, none⟩ = some (.int .i64 ((rd_T31 y455 x5_1).f2)) := hcc9 2 _ rfl; have hx9_3 : w19.cell? ⟨go5, (x5_1 : Int).toNat * 6 + 3, none⟩ = some (.int .i64 ((rd_T31 y455 x5_1).f3)) := hcc9 3 _ rfl; have hx9_4 : w19.cell? ⟨go5, (x5_1 : Int).toNat * 6 + 4, none⟩ = some (.int .i64 ((rd_T31 y455 x5_1).f4)) := hcc9 4 _ rfl; have hx9_5 : w19.cell? ⟨go5, (x5_1 : Int).toNat * 6 + 5, none⟩ = some (.int .i64 ((rd_T31 y455 x5_1).f5)) := hcc9 5 _ rfl; have hf9_0 : w19.frozen? ⟨go5, (x5_1 : Int).toNat * 6, none⟩ = false := hfr9 0; have hf9_1 : w19.frozen? ⟨go5, (x5_1 : Int).toNat * 6 + 1, none⟩ = false := hfr9 1; have hf9_2 : w19.frozen? ⟨go5, (x5_1 : Int).toNat * 6 + 2, none⟩ = false := hfr9 2; have hf9_3 : w19.frozen? ⟨go5, (x5_1 : Int).toNat * 6 + 3, none⟩ = false := hfr9 3; have hf9_4 : w19.frozen? ⟨go5, (x5_1 : Int).toNat * 6 + 4, none⟩ = false := hfr9 4; have hf9_5 : w19.frozen? ⟨go5, (x5_1 : Int).toNat * 6 + 5, none⟩ = false := hfr9 5; clear hcl9 hcc9 hfr9 hM9; replace p9 := eq_true p9; replace q9 := eq_true q9; have HX20 := am (show Kd.R k31 31 w19 w0.heap.size (fun k_ => (P0_ k_ ∨ w.heap.size ≤ k_)) (.slice (some ⟨go5, 0, none⟩) x0_1.length co11) y455 from (by exact sR <| HO_0.out)); obtain ⟨ce20, hcl20, hM20, hcc20, hfr20⟩ := Kd.R_elem HX20.out z31 (x5_1 : Int) (oD (by assumption)) (by have h_ : (x5_1 : Int) < ((x0_1.length : Int) : Int) := oD (by assumption); exact h_); obtain rfl := k31_openM hM20; have HP20 := Kd.R_seg HX20.out (x5_1 : Int) (oD (by assumption)) (by have h_ : (x5_1 : Int) < ((x0_1.length : Int) : Int) := oD (by assumption); exact h_) (seg := [.int .i64 (wrap64 ((wrap64 ((wrap64 ((wrap64 (x1_1 + 1)) + 1)) + 1)) + 1))]) (j := 4) hcl20 hcc20 (show 5 ≤ 6 from by decide) (x' := (⟨(rd_T31 y455 x5_1).f0, (rd_T31 y455 x5_1).f1, (rd_T31 y455 x5_1).f2, (rd_T31 y455 x5_1).f3, wrap64 ((wrap64 ((wrap64 ((wrap64 (x1_1 + 1)) + 1)) + 1)) + 1), (rd_T31 y455 x5_1).f5⟩ : S31)) (k31_mkM _ _ _ (⟨(rd_T31 y455 x5_1).f0, (rd_T31 y455 x5_1).f1, (rd_T31 y455 x5_1).f2, (rd_T31 y455 x5_1).f3, wrap64 ((wrap64 ((wrap64 ((wrap64 (x1_1 + 1)) + 1)) + 1)) + 1), (rd_T31 y455 x5_1).f5⟩ : S31) ) (fun _ hk => hk); have hx20_4 := hcc20 4 _ rfl; (try simp only [show (k31).sz = 6 from rfl, Nat.mul_one, Nat.add_zero] at hx20_4); have hf20_4 := hfr20 4; (try simp only [show (k31).sz = 6 from rfl, Nat.mul_one, Nat.add_zero] at hf20_4); clear hcl20 hcc20 hfr20 hM20) | ((with_reducible refine gate_store (t := 3) (p := 44) rfl ?_); refine store_event (t := 3) (p := 44) (v := ?vo_w21) (w1 := (w19.setCell ⟨go5, (x5_1 : Int).toNat * 6 + 4, none⟩ (.int .i64 (wrap64 ((wrap64 ((wrap64 ((wrap64 (x1_1 + 1)) + 1)) + 1)) + 1))))) ?hg ?ho ?hn ?hr ?_; (case ho => rfl); (case hg => rfl); (case hn => rfl); (case hr => (go_simp; done)); intro w21 hw; have hg : w19.grownBy w21 (some go5) := (by rw [hw]; exact HP20.2); have hp_ : Kd.R k31 31 w21 w0.heap.size (fun k_ => (P0_ k_ ∨ w.heap.size ≤ k_)) (.slice (some ⟨go5, 0, none⟩) x0_1.length co11) y456 := (by rw [hw, Ny456.out]; exact HP20.1); clear HP20; have n0_ := am (hp_); have n1_ := am ((by rw [hw]; exact below_set (HB.out) GB5.out : Below w0.heap.size w0 w21)); have n2_ := am (Kept.of_grown (S := (fun k_ => P0_ k_)) hg (by repeat (first | (with_reducible first | exact HK.out | apply Kept.alloc | apply Kept.drewN | apply Kept.drew) | exact HK.out)) (fun k_ e_ => (HO_0.out.1 k_ e_))); clear HO_0; clear HB; clear HK; have HO_0 := n0_; have HB := n1_; have HK := n2_; clear n0_ n1_ n2_; clear hg hw hp_; have p10 : 0 ≤ (x5_1 : Int) := oD (by assumption); have q10 : (x5_1 : Int) < ((x0_1.length : Int) : Int) := oD (by assumption); obtain ⟨ce10, hcl10, hM10, hcc10, hfr10⟩ := Kd.R_elem HO_0.out z31 (x5_1 : Int) p10 q10; obtain rfl := k31_openM hM10; have hx10_0 : w21.cell? ⟨go5, (x5_1 : Int).toNat * 6, none⟩ = some (.int .i64 ((rd_T31 y456 x5_1).f0)) := hcc10 0 _ rfl; have hx10_1 : w21.cell? ⟨go5, (x5_1 : Int).toNat * 6 + 1, none⟩ = some (.int .i64 ((rd_T31 y456 x5_1).f1)) := hcc10 1 _ rfl; have hx10_2 : w21.cell? ⟨go5, (x5_1 : Int).toNat * 6 + 2, none⟩ = some (.int .i64 ((rd_T31 y456 x5_1).f2)) := hcc10 2 _ rfl; have hx10_3 : w21.cell? ⟨go5, (x5_1 : Int).toNat * 6 + 3, none⟩ = some (.int .i64 ((rd_T31 y456 x5_1).f3)) := hcc10 3 _ rfl; have hx10_4 : w21.cell? ⟨go5, (x5_1 : Int).toNat * 6 + 4, none⟩ = some (.int .i64 ((rd_T31 y456 x5_1).f4)) := hcc10 4 _ rfl; have hx10_5 : w21.cell? ⟨go5, (x5_1 : Int).toNat * 6 + 5, none⟩ = some (.int .i64 ((rd_T31 y456 x5_1).f5)) := hcc10 5 _ rfl; have hf10_0 : w21.frozen? ⟨go5, (x5_1 : Int).toNat * 6, none⟩ = false := hfr10 0; have hf10_1 : w21.frozen? ⟨go5, (x5_1 : Int).toNat * 6 + 1, none⟩ = false := hfr10 1; have hf10_2 : w21.frozen? ⟨go5, (x5_1 : Int).toNat * 6 + 2, none⟩ = false := hfr10 2; have hf10_3 : w21.frozen? ⟨go5, (x5_1 : Int).toNat * 6 + 3, none⟩ = false := hfr10 3; have hf10_4 : w21.frozen? ⟨go5, (x5_1 : Int).toNat * 6 + 4, none⟩ = false := hfr10 4; have hf10_5 : w21.frozen? ⟨go5, (x5_1 : Int).toNat * 6 + 5, none⟩ = false := hfr10 5; clear hcl10 hcc10 hfr10 hM10; replace p10 := eq_true p10; replace q10 := eq_true q10; have HX22 := am (show Kd.R k31 31 w21 w0.heap.size (fun k_ => (P0_ k_ ∨ w.heap.size ≤ k_)) (.slice (some ⟨go5, 0, none⟩) x0_1.length co11) y456 from (by exact sR <| HO_0.out)); obtain ⟨ce22, hcl22, hM22, hcc22, hfr22⟩ := Kd.R_elem HX22.out z31 (x5_1 : Int) (oD (by assumption)) (by have h_ : (x5_1 : Int) < ((x0_1.length : Int) : Int) := oD (by assumption); exact h_); obtain rfl := k31_openM hM22; have HP22 := Kd.R_seg HX22.out (x5_1 : Int) (oD (by assumption)) (by have h_ : (x5_1 : Int) < ((x0_1.length : Int) : Int) := oD (by assumption); exact h_) (seg := [.int .i64 (wrap64 ((wrap64 ((wrap64 ((wrap64 ((wrap64 (x1_1 + 1)) + 1)) + 1)) + 1)) + 1))]) (j := 5) hcl22 hcc22 (show 6 ≤ 6 from by decide) (x' := (⟨(rd_T31 y456 x5_1).f0, (rd_T31 y456 x5_1).f1, (rd_T31 y456 x5_1).f2, (rd_T31 y456 x5_1).f3, (rd_T31 y456 x5_1).f4, wrap64 ((wrap64 ((wrap64 ((wrap64 ((wrap64 (x1_1 + 1)) + 1)) + 1)) + 1)) + 1)⟩ : S31)) (k31_mkM _ _ _ (⟨(rd_T31 y456 x5_1).f0, (rd_T31 y456 x5_1).f1, (rd_T31 y456 x5_1).f2, (rd_T31 y456 x5_1).f3, (rd_T31 y456 x5_1).f4, wrap64 ((wrap64 ((wrap64 ((wrap64 ((wrap64 (x1_1 + 1)) + 1)) + 1)) + 1)) + 1)⟩ : S31) ) (fun _ hk => hk); have hx22_5 := hcc22 5 _ rfl; (try simp only [show (k31).sz = 6 from rfl, Nat.mul_one, Nat.add_zero] at hx22_5); have hf22_5 := hfr22 5; (try simp only [show (k31).sz = 6 from rfl, Nat.mul_one, Nat.add_zero] at hf22_5); clear hcl22 hcc22 hfr22 hM22) | ((with_reducible refine gate_store (t := 3) (p := 51) rfl ?_); refine store_event (t := 3) (p := 51) (v := ?vo_w23) (w1 := (w21.setCell ⟨go5, (x5_1 : Int).toNat * 6 + 5, none⟩ (.int .i64 (wrap64 ((wrap64 ((wrap64 ((wrap64 ((wrap64 (x1_1 + 1)) + 1)) + 1)) + 1)) + 1))))) ?hg ?ho ?hn ?hr ?_; (case ho => rfl); (case hg => rfl); (case hn => rfl); (case hr => (go_simp; done)); intro w23 hw; have hg : w21.grownBy w23 (some go5) := (by rw [hw]; exact HP22.2); have hp_ : Kd.R k31 31 w23 w0.heap.size (fun k_ => (P0_ k_ ∨ w.heap.size ≤ k_)) (.slice (some ⟨go5, 0, none⟩) x0_1.length co11) y457 := (by rw [hw, Ny457.out]; exact HP22.1); clear HP22; have n0_ := am (hp_); have n1_ := am ((by rw [hw]; exact below_set (HB.out) GB5.out : Below w0.heap.size w0 w23)); have n2_ := am (Kept.of_grown (S := (fun k_ => P0_ k_)) hg (by repeat (first | (with_reducible first | exact HK.out | apply Kept.alloc | apply Kept.drewN | apply Kept.drew) | exact HK.out)) (fun k_ e_ => (HO_0.out.1 k_ e_))); clear HO_0; clear HB; clear HK; have HO_0 := n0_; have HB := n1_; have HK := n2_; clear n0_ n1_ n2_; clear hg hw hp_))
    go_roundg k1
    case measure => have := HK1.out; omega
    case rel => exact ⟨(y457), (wrap64 ((wrap64 ((wrap64 ((wrap64 ((wrap64 ((wrap64 (x1_1 + 1)) + 1)) + 1)) + 1)) + 1)) + 1)), (wrap64 (x5_1 + 1)), (by rfl), (by rfl), H', ⟨by have := HK1.out; omega⟩, ⟨by exact sR <| HO_0.out⟩, ⟨by repeat (first | (with_reducible first | exact HK.out | apply Kept.alloc | apply Kept.drewN | apply Kept.drew) | exact HK.out)⟩, ⟨by exact sW HB.out⟩⟩
   ·simp only [Option.some.injEq, Prod.mk.injEq] at H
    obtain ⟨rfl, rfl⟩ := H
    obtain ⟨Ao24, co24, eo24⟩ := Kd.R_slice HO_0.out
    subst eo24
    go_wp2
    go_ret
    exact ⟨by rfl, by exact sR <| HO_0.out, by exact sW HB.out, by repeat (first | (with_reducible first | exact HK.out | apply Kept.alloc | apply Kept.drewN | apply Kept.drew) | exact HK.out)⟩
/-! ### laws_heldNodeS: function 30 -/
def laws_heldNodeS.l0 : Nat → List (S31) → Int → Int → Option (Int)
 | 0, _, _, _ => none
 | k + 1, x0, x1, x5 => if x5 < (x0.length : Int) then (if 0 ≤ x5 then (if ((rd_T31 x0 x5).f0) = x1 then (if ((rd_T31 x0 x5).f1) = (wrap64 (x1 + 1)) then (if ((rd_T31 x0 x5).f2) = (wrap64 ((wrap64 (x1 + 1)) + 1)) then (if ((rd_T31 x0 x5).f3) = (wrap64 ((wrap64 ((wrap64 (x1 + 1)) + 1)) + 1)) then (if ((rd_T31 x0 x5).f4) = (wrap64 ((wrap64 ((wrap64 ((wrap64 (x1 + 1)) + 1)) + 1)) + 1)) then (if ((rd_T31 x0 x5).f5) = (wrap64 ((wrap64 ((wrap64 ((wrap64 ((wrap64 (x1 + 1)) + 1)) + 1)) + 1)) + 1)) then (laws_heldNodeS.l0 k x0 (wrap64 ((wrap64 ((wrap64 ((wrap64 ((wrap64 ((wrap64 (x1 + 1)) + 1)) + 1)) + 1)) + 1)) + 1)) (wrap64 (x5 + 1))) else (some (-1))) else (some (-1))) else (some (-1))) else (some (-1))) else (some (-1))) else (some (-1))) else (none)) else (some x1)
def laws_heldNodeS.f (k : Nat) (l0 : List (S31)) (a1 : Int) : Option (Int) := laws_heldNodeS.l0 k l0 a1 0
set_option maxHeartbeats 8000000 in
set_option maxRecDepth 100000 in
theorem laws_heldNodeS.calls (k : Nat) (A0 : Option Addr) (c0 : Nat) (l0 : List (S31)) (a1 : Int) (r : Int) (w : World) (hr0 : Kd.C k31 w A0 l0.length l0) (hc0 : l0.length ≤ c0) (h : laws_heldNodeS.f k l0 a1 = some r) :
  Calls Try.prog 30 #[.slice A0 l0.length c0, .int .i64 a1] w fun e w' => e = .returned (.int .i64 r) ∧ Drawn0 w w' := by
 have HR0 := am hr0
 have HC0 := am hc0
 clear hr0 hc0
 have H : (laws_heldNodeS.l0 k l0 a1 0) = some r := h
 clear h
 have H' := am H
 clear H
 go_enter Try.func30, Try.ntmps30
 go_wp2
 go_loopg [1, 5] k (fun kq v1 v5 w' => ∃ (x1_1 : Int) (x5_1 : Int), v1 = .int .i64 x1_1 ∧ v5 = .int .i64 x5_1 ∧ Aside0 (laws_heldNodeS.l0 kq l0 x1_1 x5_1 = some r) ∧ Aside0 (kq ≤ k) ∧ Drawn0 w w')
 case atStart => exact ⟨(a1), (0), (by rfl), (by rfl), H', ⟨Nat.le_refl _⟩, by repeat (first | exact Drawn0.refl _ | apply Drawn0.step)⟩
 case round =>
  clear H'
  obtain ⟨x1_1, x5_1, rfl, rfl, HA, HK1, ⟨m1, rfl⟩⟩ := hrel
  cases gk with
  | zero => exact absurd HA.out (by simp [laws_heldNodeS.l0])
  | succ k1 =>
   have H := HA.out
   clear HA
   simp only [laws_heldNodeS.l0] at H
   replace H := iD H; rcases H with ⟨c3b0, H⟩ | ⟨c3b0, H⟩
   ·replace H := iN H; obtain ⟨c4b0, H⟩ := H
    replace H := iE H; rcases H with ⟨c5b0, c5b1, H⟩ | ⟨c5b0, c5b1, H⟩
    ·replace H := iE H; rcases H with ⟨c6b0, c6b1, H⟩ | ⟨c6b0, c6b1, H⟩
     ·replace H := iE H; rcases H with ⟨c7b0, c7b1, H⟩ | ⟨c7b0, c7b1, H⟩
      ·replace H := iE H; rcases H with ⟨c8b0, c8b1, H⟩ | ⟨c8b0, c8b1, H⟩
       ·replace H := iE H; rcases H with ⟨c9b0, c9b1, H⟩ | ⟨c9b0, c9b1, H⟩
        ·replace H := iE H; rcases H with ⟨c10b0, c10b1, H⟩ | ⟨c10b0, c10b1, H⟩
         ·have H' := am H
          clear H
          obtain ⟨p458, q458, ad458, rfl, hx458_0, hx458_1, hx458_2, hx458_3, hx458_4, hx458_5⟩ := ix (at_T31 HR0.out x5_1)
          have p459 : 0 ≤ (x5_1 : Int) := oD (by assumption)
          have q459 : x5_1 < (l0.length : Int) := oD (by assumption)
          obtain ⟨ad459, e459, hx459_0, hx459_1, hx459_2, hx459_3, hx459_4, hx459_5⟩ := at_T31 HR0.out x5_1 p459 q459
          obtain rfl : ad458 = ad459 := (by injection e459)
          replace p459 := eq_true p459
          replace q459 := eq_true q459
          have p460 : 0 ≤ (x5_1 : Int) := oD (by assumption)
          have q460 : x5_1 < (l0.length : Int) := oD (by assumption)
          obtain ⟨ad460, e460, hx460_0, hx460_1, hx460_2, hx460_3, hx460_4, hx460_5⟩ := at_T31 HR0.out x5_1 p460 q460
          obtain rfl : ad458 = ad460 := (by injection e460)
          replace p460 := eq_true p460
          replace q460 := eq_true q460
          have p461 : 0 ≤ (x5_1 : Int) := oD (by assumption)
          have q461 : x5_1 < (l0.length : Int) := oD (by assumption)
          obtain ⟨ad461, e461, hx461_0, hx461_1, hx461_2, hx461_3, hx461_4, hx461_5⟩ := at_T31 HR0.out x5_1 p461 q461
          obtain rfl : ad458 = ad461 := (by injection e461)
          replace p461 := eq_true p461
          replace q461 := eq_true q461
          have p462 : 0 ≤ (x5_1 : Int) := oD (by assumption)
          have q462 : x5_1 < (l0.length : Int) := oD (by assumption)
          obtain ⟨ad462, e462, hx462_0, hx462_1, hx462_2, hx462_3, hx462_4, hx462_5⟩ := at_T31 HR0.out x5_1 p462 q462
          obtain rfl : ad458 = ad462 := (by injection e462)
          replace p462 := eq_true p462
          replace q462 := eq_true q462
          have p463 : 0 ≤ (x5_1 : Int) := oD (by assumption)
          have q463 : x5_1 < (l0.length : Int) := oD (by assumption)
          obtain ⟨ad463, e463, hx463_0, hx463_1, hx463_2, hx463_3, hx463_4, hx463_5⟩ := at_T31 HR0.out x5_1 p463 q463
          obtain rfl : ad458 = ad463 := (by injection e463)
          replace p463 := eq_true p463
          replace q463 := eq_true q463
          go_wp2
          go_roundg k1
          case measure => have := HK1.out; omega
          case rel => exact ⟨(wrap64 ((wrap64 ((wrap64 ((wrap64 ((wrap64 ((wrap64 (x1_1 + 1)) + 1)) + 1)) + 1)) + 1)) + 1)), (wrap64 (x5_1 + 1)), (by rfl), (by rfl), H', ⟨by have := HK1.out; omega⟩, by repeat (first | exact Drawn0.refl _ | apply Drawn0.step)⟩
         ·obtain rfl := oI H
          obtain ⟨p458, q458, ad458, rfl, hx458_0, hx458_1, hx458_2, hx458_3, hx458_4, hx458_5⟩ := ix (at_T31 HR0.out x5_1)
          have p459 : 0 ≤ (x5_1 : Int) := oD (by assumption)
          have q459 : x5_1 < (l0.length : Int) := oD (by assumption)
          obtain ⟨ad459, e459, hx459_0, hx459_1, hx459_2, hx459_3, hx459_4, hx459_5⟩ := at_T31 HR0.out x5_1 p459 q459
          obtain rfl : ad458 = ad459 := (by injection e459)
          replace p459 := eq_true p459
          replace q459 := eq_true q459
          have p460 : 0 ≤ (x5_1 : Int) := oD (by assumption)
          have q460 : x5_1 < (l0.length : Int) := oD (by assumption)
          obtain ⟨ad460, e460, hx460_0, hx460_1, hx460_2, hx460_3, hx460_4, hx460_5⟩ := at_T31 HR0.out x5_1 p460 q460
          obtain rfl : ad458 = ad460 := (by injection e460)
          replace p460 := eq_true p460
          replace q460 := eq_true q460
          have p461 : 0 ≤ (x5_1 : Int) := oD (by assumption)
          have q461 : x5_1 < (l0.length : Int) := oD (by assumption)
          obtain ⟨ad461, e461, hx461_0, hx461_1, hx461_2, hx461_3, hx461_4, hx461_5⟩ := at_T31 HR0.out x5_1 p461 q461
          obtain rfl : ad458 = ad461 := (by injection e461)
          replace p461 := eq_true p461
          replace q461 := eq_true q461
          have p462 : 0 ≤ (x5_1 : Int) := oD (by assumption)
          have q462 : x5_1 < (l0.length : Int) := oD (by assumption)
          obtain ⟨ad462, e462, hx462_0, hx462_1, hx462_2, hx462_3, hx462_4, hx462_5⟩ := at_T31 HR0.out x5_1 p462 q462
          obtain rfl : ad458 = ad462 := (by injection e462)
          replace p462 := eq_true p462
          replace q462 := eq_true q462
          have p463 : 0 ≤ (x5_1 : Int) := oD (by assumption)
          have q463 : x5_1 < (l0.length : Int) := oD (by assumption)
          obtain ⟨ad463, e463, hx463_0, hx463_1, hx463_2, hx463_3, hx463_4, hx463_5⟩ := at_T31 HR0.out x5_1 p463 q463
          obtain rfl : ad458 = ad463 := (by injection e463)
          replace p463 := eq_true p463
          replace q463 := eq_true q463
          go_wp2
          go_ret
          exact ⟨by rfl, by repeat (first | exact Drawn0.refl _ | apply Drawn0.step)⟩
        ·obtain rfl := oI H
         obtain ⟨p458, q458, ad458, rfl, hx458_0, hx458_1, hx458_2, hx458_3, hx458_4, hx458_5⟩ := ix (at_T31 HR0.out x5_1)
         have p459 : 0 ≤ (x5_1 : Int) := oD (by assumption)
         have q459 : x5_1 < (l0.length : Int) := oD (by assumption)
         obtain ⟨ad459, e459, hx459_0, hx459_1, hx459_2, hx459_3, hx459_4, hx459_5⟩ := at_T31 HR0.out x5_1 p459 q459
         obtain rfl : ad458 = ad459 := (by injection e459)
         replace p459 := eq_true p459
         replace q459 := eq_true q459
         have p460 : 0 ≤ (x5_1 : Int) := oD (by assumption)
         have q460 : x5_1 < (l0.length : Int) := oD (by assumption)
         obtain ⟨ad460, e460, hx460_0, hx460_1, hx460_2, hx460_3, hx460_4, hx460_5⟩ := at_T31 HR0.out x5_1 p460 q460
         obtain rfl : ad458 = ad460 := (by injection e460)
         replace p460 := eq_true p460
         replace q460 := eq_true q460
         have p461 : 0 ≤ (x5_1 : Int) := oD (by assumption)
         have q461 : x5_1 < (l0.length : Int) := oD (by assumption)
         obtain ⟨ad461, e461, hx461_0, hx461_1, hx461_2, hx461_3, hx461_4, hx461_5⟩ := at_T31 HR0.out x5_1 p461 q461
         obtain rfl : ad458 = ad461 := (by injection e461)
         replace p461 := eq_true p461
         replace q461 := eq_true q461
         have p462 : 0 ≤ (x5_1 : Int) := oD (by assumption)
         have q462 : x5_1 < (l0.length : Int) := oD (by assumption)
         obtain ⟨ad462, e462, hx462_0, hx462_1, hx462_2, hx462_3, hx462_4, hx462_5⟩ := at_T31 HR0.out x5_1 p462 q462
         obtain rfl : ad458 = ad462 := (by injection e462)
         replace p462 := eq_true p462
         replace q462 := eq_true q462
         go_wp2
         go_ret
         exact ⟨by rfl, by repeat (first | exact Drawn0.refl _ | apply Drawn0.step)⟩
       ·obtain rfl := oI H
        obtain ⟨p458, q458, ad458, rfl, hx458_0, hx458_1, hx458_2, hx458_3, hx458_4, hx458_5⟩ := ix (at_T31 HR0.out x5_1)
        have p459 : 0 ≤ (x5_1 : Int) := oD (by assumption)
        have q459 : x5_1 < (l0.length : Int) := oD (by assumption)
        obtain ⟨ad459, e459, hx459_0, hx459_1, hx459_2, hx459_3, hx459_4, hx459_5⟩ := at_T31 HR0.out x5_1 p459 q459
        obtain rfl : ad458 = ad459 := (by injection e459)
        replace p459 := eq_true p459
        replace q459 := eq_true q459
        have p460 : 0 ≤ (x5_1 : Int) := oD (by assumption)
        have q460 : x5_1 < (l0.length : Int) := oD (by assumption)
        obtain ⟨ad460, e460, hx460_0, hx460_1, hx460_2, hx460_3, hx460_4, hx460_5⟩ := at_T31 HR0.out x5_1 p460 q460
        obtain rfl : ad458 = ad460 := (by injection e460)
        replace p460 := eq_true p460
        replace q460 := eq_true q460
        have p461 : 0 ≤ (x5_1 : Int) := oD (by assumption)
        have q461 : x5_1 < (l0.length : Int) := oD (by assumption)
        obtain ⟨ad461, e461, hx461_0, hx461_1, hx461_2, hx461_3, hx461_4, hx461_5⟩ := at_T31 HR0.out x5_1 p461 q461
        obtain rfl : ad458 = ad461 := (by injection e461)
        replace p461 := eq_true p461
        replace q461 := eq_true q461
        go_wp2
        go_ret
        exact ⟨by rfl, by repeat (first | exact Drawn0.refl _ | apply Drawn0.step)⟩
      ·obtain rfl := oI H
       obtain ⟨p458, q458, ad458, rfl, hx458_0, hx458_1, hx458_2, hx458_3, hx458_4, hx458_5⟩ := ix (at_T31 HR0.out x5_1)
       have p459 : 0 ≤ (x5_1 : Int) := oD (by assumption)
       have q459 : x5_1 < (l0.length : Int) := oD (by assumption)
       obtain ⟨ad459, e459, hx459_0, hx459_1, hx459_2, hx459_3, hx459_4, hx459_5⟩ := at_T31 HR0.out x5_1 p459 q459
       obtain rfl : ad458 = ad459 := (by injection e459)
       replace p459 := eq_true p459
       replace q459 := eq_true q459
       have p460 : 0 ≤ (x5_1 : Int) := oD (by assumption)
       have q460 : x5_1 < (l0.length : Int) := oD (by assumption)
       obtain ⟨ad460, e460, hx460_0, hx460_1, hx460_2, hx460_3, hx460_4, hx460_5⟩ := at_T31 HR0.out x5_1 p460 q460
       obtain rfl : ad458 = ad460 := (by injection e460)
       replace p460 := eq_true p460
       replace q460 := eq_true q460
       go_wp2
       go_ret
       exact ⟨by rfl, by repeat (first | exact Drawn0.refl _ | apply Drawn0.step)⟩
     ·obtain rfl := oI H
      obtain ⟨p458, q458, ad458, rfl, hx458_0, hx458_1, hx458_2, hx458_3, hx458_4, hx458_5⟩ := ix (at_T31 HR0.out x5_1)
      have p459 : 0 ≤ (x5_1 : Int) := oD (by assumption)
      have q459 : x5_1 < (l0.length : Int) := oD (by assumption)
      obtain ⟨ad459, e459, hx459_0, hx459_1, hx459_2, hx459_3, hx459_4, hx459_5⟩ := at_T31 HR0.out x5_1 p459 q459
      obtain rfl : ad458 = ad459 := (by injection e459)
      replace p459 := eq_true p459
      replace q459 := eq_true q459
      go_wp2
      go_ret
      exact ⟨by rfl, by repeat (first | exact Drawn0.refl _ | apply Drawn0.step)⟩
    ·obtain rfl := oI H
     obtain ⟨p458, q458, ad458, rfl, hx458_0, hx458_1, hx458_2, hx458_3, hx458_4, hx458_5⟩ := ix (at_T31 HR0.out x5_1)
     go_wp2
     go_ret
     exact ⟨by rfl, by repeat (first | exact Drawn0.refl _ | apply Drawn0.step)⟩
   ·obtain rfl := oI H
    go_wp2
    go_ret
    exact ⟨by rfl, by repeat (first | exact Drawn0.refl _ | apply Drawn0.step)⟩

-- NOT PRINTED: function 7 (laws_FnExactCanon)
/-! ### spec_l01In: function 42 -/
def spec_l01In.f (a0 : Int) (a1 : Int) (a2 : Int) : Option (Bool) := if a0 ≥ a1 then (some (decide (a0 ≤ a2))) else (some false)
set_option maxHeartbeats 8000000 in
set_option maxRecDepth 100000 in
theorem spec_l01In.calls (a0 : Int) (a1 : Int) (a2 : Int) (r : Bool) (w : World) (h : spec_l01In.f a0 a1 a2 = some r) :
  Calls Try.prog 42 #[.int .i64 a0, .int .i64 a1, .int .i64 a2] w fun e w' => e = .returned (.bool r) ∧ Drawn0 w w' := by
 have H : (if a0 ≥ a1 then (some (decide (a0 ≤ a2))) else (some false)) = some r := h
 clear h
 by_cases c4 : a0 ≥ a1
 ·rw [if_pos c4] at H
  have c4b0 : decide (a1 ≤ a0) = true := decide_eq_true c4
  clear c4
  obtain rfl := oI H
  go_enter Try.func42, Try.ntmps42
  go_wp2
  go_ret
  exact ⟨by rfl, by repeat (first | exact Drawn0.refl _ | apply Drawn0.step)⟩
 ·rw [if_neg c4] at H
  have c4b0 : decide (a1 ≤ a0) = false := decide_eq_false c4
  clear c4
  obtain rfl := oI H
  go_enter Try.func42, Try.ntmps42
  go_wp2
  go_ret
  exact ⟨by rfl, by repeat (first | exact Drawn0.refl _ | apply Drawn0.step)⟩
/-! ### spec_Parts: function 70 -/
def spec_Parts.j0 : Nat → Bool → Int → Int → Int → Int → Int → Int → Option (List Int)
 | 0, _, _, _, _, _, _, _ => none
 | k + 1, x3, x121000, x121001, x121002, x121003, x121004, x121005 => if x3 = true then (some (([x121003] : List Int))) else ((spec_l01In.f x121000 3 16).bind fun t124 => (if t124 = true then (some (([x121003, x121004] : List Int))) else (if x121000 = 18 then (some (([x121003, x121004, x121005] : List Int))) else (some (([] : List Int))))))
def spec_Parts.f (k : Nat) (a0_0 : Int) (a0_1 : Int) (a0_2 : Int) (a0_3 : Int) (a0_4 : Int) (a0_5 : Int) : Option (List Int) := if a0_0 = 2 then (spec_Parts.j0 k true a0_0 a0_1 a0_2 a0_3 a0_4 a0_5) else (if a0_0 = 17 then (spec_Parts.j0 k true a0_0 a0_1 a0_2 a0_3 a0_4 a0_5) else (if a0_0 = 19 then (spec_Parts.j0 k true a0_0 a0_1 a0_2 a0_3 a0_4 a0_5) else (spec_Parts.j0 k (a0_0 == 20) a0_0 a0_1 a0_2 a0_3 a0_4 a0_5)))
set_option maxHeartbeats 8000000 in
set_option maxRecDepth 100000 in
theorem spec_Parts.calls (k : Nat) (a0_0 : Int) (a0_1 : Int) (a0_2 : Int) (a0_3 : Int) (a0_4 : Int) (a0_5 : Int) (r : List Int) (w : World) (h : spec_Parts.f k a0_0 a0_1 a0_2 a0_3 a0_4 a0_5 = some r) :
  Calls Try.prog 70 #[.agg #[.int .i64 a0_0, .int .i64 a0_1, .int .i64 a0_2, .int .i64 a0_3, .int .i64 a0_4, .int .i64 a0_5]] w fun e w' => ∃ v0_ : Value, e = .returned (v0_) ∧ Kd.R (Kd.int .i64) 3 w' w.heap.size (fun _ => True) v0_ r ∧ Below w.heap.size w w' := by
 have hu31 := Try.underlying31
 have HB := am (Below.refl w.heap.size w)
 have H : (if a0_0 = 2 then (spec_Parts.j0 k true a0_0 a0_1 a0_2 a0_3 a0_4 a0_5) else (if a0_0 = 17 then (spec_Parts.j0 k true a0_0 a0_1 a0_2 a0_3 a0_4 a0_5) else (if a0_0 = 19 then (spec_Parts.j0 k true a0_0 a0_1 a0_2 a0_3 a0_4 a0_5) else (spec_Parts.j0 k (a0_0 == 20) a0_0 a0_1 a0_2 a0_3 a0_4 a0_5)))) = some r := h
 clear h
 have HC2 := am H; clear H
 go_enter Try.func70, Try.ntmps70
 go_upto_region 1 with (first | ((with_reducible refine gate_dst (N := 1) rfl ?_); refine box_event ?hg (N := 1) ?hd (cs := #[.int .i64 a0_0, .int .i64 a0_1, .int .i64 a0_2, .int .i64 a0_3, .int .i64 a0_4, .int .i64 a0_5]) (t := 31) ?hr ?_; (case hd => rfl); (case hg => rfl); (case hr => (go_simp; done)); intro gb120 hg w3 hbox hb; have n0_ := am (below_step (by exact sW HB.out) hb); have n1_ := am (hbox); have n2_ := am ((by rw [hg]; exact (below_size (by exact sW HB.out)) : w.heap.size ≤ gb120)); have n3_ := am ((by rw [hg]; exact (below_size (by exact sW HB.out)) : w.heap.size ≤ gb120)); clear HB; have HB := n0_; have BK120 := n1_; have GW120 := n2_; have GE120 := n3_; clear n0_ n1_ n2_ n3_; clear hb hbox hg))
 (try simp only [Act.put, List.setIfInBounds_toArray, List.set_cons_zero, List.set_cons_succ])
 go_cut [3] (fun v3 wc => ∃ (kq : Nat) (x3_1 : Bool), v3 = .bool x3_1 ∧ Aside0 (spec_Parts.j0 kq x3_1 a0_0 a0_1 a0_2 a0_3 a0_4 a0_5 = some r) ∧ Aside0 (kq ≤ k) ∧ Aside0 (wc.heap[gb120]? = some (.cells #[.int .i64 a0_0, .int .i64 a0_1, .int .i64 a0_2, .int .i64 a0_3, .int .i64 a0_4, .int .i64 a0_5] 31 (0, 0))) ∧ Aside0 (Below w.heap.size w wc))
 case first =>
  have H := HC2.out
  clear HC2
  replace H := iE H; rcases H with ⟨c4b0, c4b1, H⟩ | ⟨c4b0, c4b1, H⟩
  ·have H' := am H
   clear H
   obtain ⟨hcz5_0, hcz5_1, hcz5_2, hcz5_3, hcz5_4, hcz5_5⟩ := cz6 BK120.out
   obtain ⟨hfz5_0, hfz5_1, hfz5_2, hfz5_3, hfz5_4, hfz5_5⟩ := fz6 BK120.out
   go_wp2
   go_meet
   case rel => exact ⟨_, (true), (by rfl), H', ⟨by omega⟩, ⟨by exact sB <| BK120.out⟩, ⟨by exact bW⟩⟩
  ·replace H := iE H; rcases H with ⟨c6b0, c6b1, H⟩ | ⟨c6b0, c6b1, H⟩
   ·have H' := am H
    clear H
    obtain ⟨hcz7_0, hcz7_1, hcz7_2, hcz7_3, hcz7_4, hcz7_5⟩ := cz6 BK120.out
    obtain ⟨hfz7_0, hfz7_1, hfz7_2, hfz7_3, hfz7_4, hfz7_5⟩ := fz6 BK120.out
    go_wp2
    go_meet
    case rel => exact ⟨_, (true), (by rfl), H', ⟨by omega⟩, ⟨by exact sB <| BK120.out⟩, ⟨by exact bW⟩⟩
   ·replace H := iE H; rcases H with ⟨c8b0, c8b1, H⟩ | ⟨c8b0, c8b1, H⟩
    ·have H' := am H
     clear H
     obtain ⟨hcz9_0, hcz9_1, hcz9_2, hcz9_3, hcz9_4, hcz9_5⟩ := cz6 BK120.out
     obtain ⟨hfz9_0, hfz9_1, hfz9_2, hfz9_3, hfz9_4, hfz9_5⟩ := fz6 BK120.out
     go_wp2
     go_meet
     case rel => exact ⟨_, (true), (by rfl), H', ⟨by omega⟩, ⟨by exact sB <| BK120.out⟩, ⟨by exact bW⟩⟩
    ·have H' := am H
     clear H
     obtain ⟨hcz10_0, hcz10_1, hcz10_2, hcz10_3, hcz10_4, hcz10_5⟩ := cz6 BK120.out
     obtain ⟨hfz10_0, hfz10_1, hfz10_2, hfz10_3, hfz10_4, hfz10_5⟩ := fz6 BK120.out
     go_wp2
     go_meet
     case rel => exact ⟨_, ((a0_0 == 20)), (by rfl), H', ⟨by omega⟩, ⟨by exact sB <| BK120.out⟩, ⟨by exact bW⟩⟩
 case rest =>
  clear HC2
  obtain ⟨kq, x3_1, rfl, HA, HJ1, BK120, HB⟩ := hcut
  cases kq with
  | zero => exact absurd HA.out (by simp [spec_Parts.j0])
  | succ kj1 =>
   have H := HA.out
   clear HA
   simp only [spec_Parts.j0] at H
   replace H := iB H; rcases H with ⟨rfl, H⟩ | ⟨rfl, H⟩
   ·obtain ⟨y121, hy121⟩ : ∃ y_ : List Int, y_ = (([a0_3] : List Int)) := ⟨_, rfl⟩
    replace H : (some y121) = some r := by (rw [hy121]; with_reducible exact H)
    have Ny121 := am hy121
    clear hy121
    obtain rfl := oI H
    obtain ⟨hcz12_0, hcz12_1, hcz12_2, hcz12_3, hcz12_4, hcz12_5⟩ := cz6 BK120.out
    obtain ⟨hfz12_0, hfz12_1, hfz12_2, hfz12_3, hfz12_4, hfz12_5⟩ := fz6 BK120.out
    go_wp2_with (first | ((with_reducible refine gate_dst (N := 24) rfl ?_); refine Kd.R_lit (Kd.int .i64) _ 3 ?hg (N := 24) ?hd (xs := ([a0_3] : List Int)) (inner := [.int .i64 a0_3]) (ok := fun _ => True) (okp := fun _ => True) ?hr ?hp (fun _ hk => hk) trivial (Below.refl _ _) (Nat.le_refl _) (by simp) ?_; (case hd => rfl); (case hg => rfl); (case hr => (go_simp; done)); (case hp => exact (Reps.one (show Kd.M (Kd.int .i64) _ _ _ a0_3 [.int .i64 a0_3] from rfl) (Reps.none _ _))); intro v122 w13 ho14 hb hg_ hnew_; clear hg_ hnew_; (rw [← Ny121.out] at ho14); have n0_ := am (Kd.R_lower ho14 (below_size (by exact bW))); have n1_ := am (blk_below (g := gb120) (o := .cells #[.int .i64 a0_0, .int .i64 a0_1, .int .i64 a0_2, .int .i64 a0_3, .int .i64 a0_4, .int .i64 a0_5] 31 (0, 0)) (by exact sB <| BK120.out) hb); have n2_ := am (below_step (by exact bW) hb); clear BK120; clear HB; have HO123 := n0_; have BK120 := n1_; have HB := n2_; clear n0_ n1_ n2_; clear hb ho14))
    go_ret
    exact ⟨_, by rfl, by exact sR <| HO123.out, by exact bW⟩
   ·replace H := oA H; obtain ⟨t124, A15, H⟩ := H
    replace H := iB H; rcases H with ⟨rfl, H⟩ | ⟨rfl, H⟩
    ·obtain ⟨y125, hy125⟩ : ∃ y_ : List Int, y_ = (([a0_3, a0_4] : List Int)) := ⟨_, rfl⟩
     replace H : (some y125) = some r := by (rw [hy125]; with_reducible exact H)
     have Ny125 := am hy125
     clear hy125
     obtain rfl := oI H
     obtain ⟨hcz17_0, hcz17_1, hcz17_2, hcz17_3, hcz17_4, hcz17_5⟩ := cz6 BK120.out
     obtain ⟨hfz17_0, hfz17_1, hfz17_2, hfz17_3, hfz17_4, hfz17_5⟩ := fz6 BK120.out
     go_wp2_with (first | ((with_reducible refine gate_callee (f := 42) rfl ?_); refine goesL_ (some 28) rfl rfl Try.func42 (by kernel_rfl) rfl #[.int .i64 a0_0, .int .i64 3, .int .i64 16] rfl tm ?_; refine cD (spec_l01In.calls _ _ _ _ _ A15.out) fun nd => ?_; refine ⟨_, rfl, ?_⟩) | ((with_reducible refine gate_dst (N := 33) rfl ?_); refine Kd.R_lit (Kd.int .i64) _ 3 ?hg (N := 33) ?hd (xs := ([a0_3, a0_4] : List Int)) (inner := [.int .i64 a0_3, .int .i64 a0_4]) (ok := fun _ => True) (okp := fun _ => True) ?hr ?hp (fun _ hk => hk) trivial (Below.refl _ _) (Nat.le_refl _) (by simp) ?_; (case hd => rfl); (case hg => rfl); (case hr => (go_simp; done)); (case hp => exact (Reps.one (show Kd.M (Kd.int .i64) _ _ _ a0_3 [.int .i64 a0_3] from rfl) (Reps.one (show Kd.M (Kd.int .i64) _ _ _ a0_4 [.int .i64 a0_4] from rfl) (Reps.none _ _)))); intro v126 w18 ho19 hb hg_ hnew_; clear hg_ hnew_; (rw [← Ny125.out] at ho19); have n0_ := am (Kd.R_lower ho19 (below_size (by exact bW))); have n1_ := am (blk_below (g := gb120) (o := .cells #[.int .i64 a0_0, .int .i64 a0_1, .int .i64 a0_2, .int .i64 a0_3, .int .i64 a0_4, .int .i64 a0_5] 31 (0, 0)) (by exact sB <| BK120.out) hb); have n2_ := am (below_step (by exact bW) hb); clear BK120; clear HB; have HO127 := n0_; have BK120 := n1_; have HB := n2_; clear n0_ n1_ n2_; clear hb ho19))
     go_ret
     exact ⟨_, by rfl, by exact sR <| HO127.out, by exact bW⟩
    ·replace H := iE H; rcases H with ⟨c20b0, c20b1, H⟩ | ⟨c20b0, c20b1, H⟩
     ·obtain ⟨y128, hy128⟩ : ∃ y_ : List Int, y_ = (([a0_3, a0_4, a0_5] : List Int)) := ⟨_, rfl⟩
      replace H : (some y128) = some r := by (rw [hy128]; with_reducible exact H)
      have Ny128 := am hy128
      clear hy128
      obtain rfl := oI H
      obtain ⟨hcz21_0, hcz21_1, hcz21_2, hcz21_3, hcz21_4, hcz21_5⟩ := cz6 BK120.out
      obtain ⟨hfz21_0, hfz21_1, hfz21_2, hfz21_3, hfz21_4, hfz21_5⟩ := fz6 BK120.out
      go_wp2_with (first | ((with_reducible refine gate_callee (f := 42) rfl ?_); refine goesL_ (some 28) rfl rfl Try.func42 (by kernel_rfl) rfl #[.int .i64 a0_0, .int .i64 3, .int .i64 16] rfl tm ?_; refine cD (spec_l01In.calls _ _ _ _ _ A15.out) fun nd => ?_; refine ⟨_, rfl, ?_⟩) | ((with_reducible refine gate_dst (N := 44) rfl ?_); refine Kd.R_lit (Kd.int .i64) _ 3 ?hg (N := 44) ?hd (xs := ([a0_3, a0_4, a0_5] : List Int)) (inner := [.int .i64 a0_3, .int .i64 a0_4, .int .i64 a0_5]) (ok := fun _ => True) (okp := fun _ => True) ?hr ?hp (fun _ hk => hk) trivial (Below.refl _ _) (Nat.le_refl _) (by simp) ?_; (case hd => rfl); (case hg => rfl); (case hr => (go_simp; done)); (case hp => exact (Reps.one (show Kd.M (Kd.int .i64) _ _ _ a0_3 [.int .i64 a0_3] from rfl) (Reps.one (show Kd.M (Kd.int .i64) _ _ _ a0_4 [.int .i64 a0_4] from rfl) (Reps.one (show Kd.M (Kd.int .i64) _ _ _ a0_5 [.int .i64 a0_5] from rfl) (Reps.none _ _))))); intro v129 w22 ho23 hb hg_ hnew_; clear hg_ hnew_; (rw [← Ny128.out] at ho23); have n0_ := am (Kd.R_lower ho23 (below_size (by exact bW))); have n1_ := am (blk_below (g := gb120) (o := .cells #[.int .i64 a0_0, .int .i64 a0_1, .int .i64 a0_2, .int .i64 a0_3, .int .i64 a0_4, .int .i64 a0_5] 31 (0, 0)) (by exact sB <| BK120.out) hb); have n2_ := am (below_step (by exact bW) hb); clear BK120; clear HB; have HO130 := n0_; have BK120 := n1_; have HB := n2_; clear n0_ n1_ n2_; clear hb ho23))
      go_ret
      exact ⟨_, by rfl, by exact sR <| HO130.out, by exact bW⟩
     ·obtain ⟨y131, hy131⟩ : ∃ y_ : List Int, y_ = (([] : List Int)) := ⟨_, rfl⟩
      replace H : (some y131) = some r := by (rw [hy131]; with_reducible exact H)
      have Ny131 := am hy131
      clear hy131
      obtain rfl := oI H
      obtain ⟨hcz24_0, hcz24_1, hcz24_2, hcz24_3, hcz24_4, hcz24_5⟩ := cz6 BK120.out
      obtain ⟨hfz24_0, hfz24_1, hfz24_2, hfz24_3, hfz24_4, hfz24_5⟩ := fz6 BK120.out
      go_wp2_with (first | ((with_reducible refine gate_callee (f := 42) rfl ?_); refine goesL_ (some 28) rfl rfl Try.func42 (by kernel_rfl) rfl #[.int .i64 a0_0, .int .i64 3, .int .i64 16] rfl tm ?_; refine cD (spec_l01In.calls _ _ _ _ _ A15.out) fun nd => ?_; refine ⟨_, rfl, ?_⟩) | ((with_reducible refine gate_dst (N := 45) rfl ?_); refine Kd.R_lit (Kd.int .i64) _ 3 ?hg (N := 45) ?hd (xs := ([] : List Int)) (inner := []) (ok := fun _ => True) (okp := fun _ => True) ?hr ?hp (fun _ hk => hk) trivial (Below.refl _ _) (Nat.le_refl _) (by simp) ?_; (case hd => rfl); (case hg => rfl); (case hr => (go_simp; done)); (case hp => exact (Reps.none _ _)); intro v132 w25 ho26 hb hg_ hnew_; clear hg_ hnew_; (rw [← Ny131.out] at ho26); have n0_ := am (Kd.R_lower ho26 (below_size (by exact bW))); have n1_ := am (blk_below (g := gb120) (o := .cells #[.int .i64 a0_0, .int .i64 a0_1, .int .i64 a0_2, .int .i64 a0_3, .int .i64 a0_4, .int .i64 a0_5] 31 (0, 0)) (by exact sB <| BK120.out) hb); have n2_ := am (below_step (by exact bW) hb); clear BK120; clear HB; have HO133 := n0_; have BK120 := n1_; have HB := n2_; clear n0_ n1_ n2_; clear hb ho26))
      go_ret
      exact ⟨_, by rfl, by exact sR <| HO133.out, by exact bW⟩
/-! ### spec_l01Pow2: function 81 -/
def spec_l01Pow2.l0 : Nat → Int → Int → Int → Option (Int)
 | 0, _, _, _ => none
 | k + 1, x0, x3, x4 => if x4 < x0 then (spec_l01Pow2.l0 k x0 (wrap64 (2 * x3)) (wrap64 (x4 + 1))) else (some x3)
def spec_l01Pow2.f (k : Nat) (a0 : Int) : Option (Int) := spec_l01Pow2.l0 k a0 1 0
set_option maxHeartbeats 8000000 in
set_option maxRecDepth 100000 in
theorem spec_l01Pow2.calls (k : Nat) (a0 : Int) (r : Int) (w : World) (h : spec_l01Pow2.f k a0 = some r) :
  Calls Try.prog 81 #[.int .i64 a0] w fun e w' => e = .returned (.int .i64 r) ∧ Drawn0 w w' := by
 have H : (spec_l01Pow2.l0 k a0 1 0) = some r := h
 clear h
 have H' := am H
 clear H
 go_enter Try.func81, Try.ntmps81
 go_wp2
 go_loopg [3, 4] k (fun kq v3 v4 w' => ∃ (x3_1 : Int) (x4_1 : Int), v3 = .int .i64 x3_1 ∧ v4 = .int .i64 x4_1 ∧ Aside0 (spec_l01Pow2.l0 kq a0 x3_1 x4_1 = some r) ∧ Aside0 (kq ≤ k) ∧ Drawn0 w w')
 case atStart => exact ⟨(1), (0), (by rfl), (by rfl), H', ⟨Nat.le_refl _⟩, by repeat (first | exact Drawn0.refl _ | apply Drawn0.step)⟩
 case round =>
  clear H'
  obtain ⟨x3_1, x4_1, rfl, rfl, HA, HK1, ⟨m1, rfl⟩⟩ := hrel
  cases gk with
  | zero => exact absurd HA.out (by simp [spec_l01Pow2.l0])
  | succ k1 =>
   have H := HA.out
   clear HA
   simp only [spec_l01Pow2.l0] at H
   replace H := iD H; rcases H with ⟨c2b0, H⟩ | ⟨c2b0, H⟩
   ·have H' := am H
    clear H
    go_wp2
    go_roundg k1
    case measure => have := HK1.out; omega
    case rel => exact ⟨(wrap64 (2 * x3_1)), (wrap64 (x4_1 + 1)), (by rfl), (by rfl), H', ⟨by have := HK1.out; omega⟩, by repeat (first | exact Drawn0.refl _ | apply Drawn0.step)⟩
   ·obtain rfl := oI H
    go_wp2
    go_ret
    exact ⟨by rfl, by repeat (first | exact Drawn0.refl _ | apply Drawn0.step)⟩
/-! ### spec_WordOk: function 71 -/
def spec_WordOk.f (k : Nat) (a0 : Int) (a1 : Int) : Option (Bool) := (spec_l01In.f a0 1 8).bind fun t134 => (if t134 = true then ((spec_l01Pow2.f k a0).bind fun t135 => ((spec_l01In.f a1 0 (wrap64 (t135 - 1))).bind fun t136 => (some t136))) else (some false))
set_option maxHeartbeats 8000000 in
set_option maxRecDepth 100000 in
theorem spec_WordOk.calls (k : Nat) (a0 : Int) (a1 : Int) (r : Bool) (w : World) (h : spec_WordOk.f k a0 a1 = some r) :
  Calls Try.prog 71 #[.int .i64 a0, .int .i64 a1] w fun e w' => e = .returned (.bool r) ∧ Drawn0 w w' := by
 have H : ((spec_l01In.f a0 1 8).bind fun t134 => (if t134 = true then ((spec_l01Pow2.f k a0).bind fun t135 => ((spec_l01In.f a1 0 (wrap64 (t135 - 1))).bind fun t136 => (some t136))) else (some false))) = some r := h
 clear h
 replace H := oA H; obtain ⟨t134, A3, H⟩ := H
 replace H := iB H; rcases H with ⟨rfl, H⟩ | ⟨rfl, H⟩
 ·replace H := oA H; obtain ⟨t135, A5, H⟩ := H
  replace H := oA H; obtain ⟨t136, A6, H⟩ := H
  obtain rfl := oI H
  go_enter Try.func71, Try.ntmps71
  go_wp2_with (first | ((with_reducible refine gate_callee (f := 42) rfl ?_); refine goesL_ (some 6) rfl rfl Try.func42 (by kernel_rfl) rfl #[.int .i64 a0, .int .i64 1, .int .i64 8] rfl tm ?_; refine cD (spec_l01In.calls _ _ _ _ _ A3.out) fun nd => ?_; refine ⟨_, rfl, ?_⟩) | (go_at_call 81; refine cD (spec_l01Pow2.calls _ _ _ _ A5.out) fun nd => ?_) | (go_at_call 42; refine cD (spec_l01In.calls _ _ _ _ _ A6.out) fun nd => ?_))
  go_ret
  exact ⟨by rfl, by repeat (first | exact Drawn0.refl _ | apply Drawn0.step)⟩
 ·obtain rfl := oI H
  go_enter Try.func71, Try.ntmps71
  go_wp2_with (first | ((with_reducible refine gate_callee (f := 42) rfl ?_); refine goesL_ (some 6) rfl rfl Try.func42 (by kernel_rfl) rfl #[.int .i64 a0, .int .i64 1, .int .i64 8] rfl tm ?_; refine cD (spec_l01In.calls _ _ _ _ _ A3.out) fun nd => ?_; refine ⟨_, rfl, ?_⟩))
  go_ret
  exact ⟨by rfl, by repeat (first | exact Drawn0.refl _ | apply Drawn0.step)⟩
end Go.Proofs.Ytkpipmojkhikaaa.PAll
