/- Written by a program of this session over the loaded program, and by hand: Go functions as plain Lean functions, and that a call comes to what they say. -/
import Derived.Test.YtjjjbifbibabgaaVFree0
import Derived.Test.YtjjjbifbibabgaaVFree11
import Derived.Test.YtjjjbifbibabgaaBase
import Derived.Test.YtjjjbifbibabgaaSq
namespace Go.Proofs.Ytjjjbifbibabgaa.PAll
open Go.RowKit Go.Proofs.YtjjjbifbibabgaaW.PrintWords Go.Proofs.YtjjjbifbibabgaaW.PrintLast Go.Proofs.YtjjjbifbibabgaaW.PrintMore Go.Proofs.YtjjjbifbibabgaaW.Sq
attribute [local go_sem] max2_int min2_int max_two min_two max_three min_three max_four min_four   -- for this text's walks alone
set_option linter.unusedVariables false
set_option linter.unusedSimpArgs false

/-! ### impl_placeOf: function 45 -/
def impl_placeOf.l0 : Nat → Int → List Bool → List (S39) → Int → Int → Option (Int)
 | 0, _, _, _, _, _ => none
 | k + 1, x1, x2, x9, x10, x11 => if x11 < x10 then (if 0 ≤ x11 then (if x11 < (x9.length : Int) then (if x11 < (x2.length : Int) then (if rdOf false x2 x11 = true then (if ((rd_T39 x9 x11).f0) = 1 then (if ((rd_T39 x9 x11).f2) = x1 then (some x11) else (impl_placeOf.l0 k x1 x2 x9 x10 (wrap64 (x11 + 1)))) else (impl_placeOf.l0 k x1 x2 x9 x10 (wrap64 (x11 + 1)))) else (impl_placeOf.l0 k x1 x2 x9 x10 (wrap64 (x11 + 1)))) else (none)) else (none)) else (none)) else (some (-1))
def impl_placeOf.f (k : Nat) (l0 : List (S39)) (a1 : Int) (l2 : List Bool) : Option (Int) := impl_placeOf.l0 k a1 l2 l0 (l0.length : Int) 0
set_option maxHeartbeats 8000000 in
set_option maxRecDepth 100000 in
theorem impl_placeOf.calls (k : Nat) (A0 : Option Addr) (c0 : Nat) (l0 : List (S39)) (a1 : Int) (A2 : Option Addr) (c2 : Nat) (l2 : List Bool) (r : Int) (w : World) (hr0 : Kd.C k39 w A0 l0.length l0) (hc0 : l0.length ≤ c0) (hr2 : Kd.C Kd.bool w A2 l2.length l2) (hc2 : l2.length ≤ c2) (h : impl_placeOf.f k l0 a1 l2 = some r) :
  Calls Try.prog 45 #[.slice A0 l0.length c0, .int .i64 a1, .slice A2 l2.length c2] w fun e w' => e = .returned (.int .i64 r) ∧ Below w.heap.size w w' := by
 have hu39 := Try.underlying39
 have HR0 := am hr0
 have HC0 := am hc0
 clear hr0 hc0
 have HR2 := am hr2
 have HC2 := am hc2
 clear hr2 hc2
 have HB := am (Below.refl w.heap.size w)
 have H : (impl_placeOf.l0 k a1 l2 l0 (l0.length : Int) 0) = some r := h
 clear h
 have H' := am H
 clear H
 go_enter Try.func45, Try.ntmps45
 go_wp2
 go_loopg [11] k (fun kq v11 w' => ∃ (x11_1 : Int), v11 = .int .i64 x11_1 ∧ Aside0 (impl_placeOf.l0 kq a1 l2 l0 (l0.length : Int) x11_1 = some r) ∧ Aside0 (kq ≤ k) ∧ Aside0 (Below w.heap.size w w'))
 case atStart => exact ⟨(0), (by rfl), H', ⟨Nat.le_refl _⟩, ⟨by exact sW HB.out⟩⟩
 case round =>
  clear H'
  obtain ⟨x11_1, rfl, HA, HK1, HB⟩ := hrel
  cases gk with
  | zero => exact absurd HA.out (by simp [impl_placeOf.l0])
  | succ k1 =>
   have H := HA.out
   clear HA
   simp only [impl_placeOf.l0] at H
   by_cases c4 : x11_1 < (l0.length : Int)
   ·rw [if_pos c4] at H
    have c4b0 : decide (x11_1 < (l0.length : Int)) = true := decide_eq_true c4
    clear c4
    by_cases c5 : 0 ≤ x11_1
    ·rw [if_pos c5] at H
     have c5b0 : decide (0 ≤ x11_1) = true := decide_eq_true c5
     clear c5
     by_cases c6 : x11_1 < (l0.length : Int)
     ·rw [if_pos c6] at H
      have c6b0 : decide (x11_1 < (l0.length : Int)) = true := decide_eq_true c6
      clear c6
      by_cases c7 : x11_1 < (l2.length : Int)
      ·rw [if_pos c7] at H
       have c7b0 : decide (x11_1 < (l2.length : Int)) = true := decide_eq_true c7
       clear c7
       obtain ⟨bq8, hbq8⟩ : ∃ b_ : Bool, b_ = (rdOf false l2 x11_1) := ⟨_, rfl⟩
       replace H : (if bq8 = true then (if ((rd_T39 l0 x11_1).f0) = 1 then (if ((rd_T39 l0 x11_1).f2) = a1 then (some x11_1) else (impl_placeOf.l0 k1 a1 l2 l0 (l0.length : Int) (wrap64 (x11_1 + 1)))) else (impl_placeOf.l0 k1 a1 l2 l0 (l0.length : Int) (wrap64 (x11_1 + 1)))) else (impl_placeOf.l0 k1 a1 l2 l0 (l0.length : Int) (wrap64 (x11_1 + 1)))) = some r := by rw [← hbq8] at H; exact H
       have Nbq8 := am hbq8
       clear hbq8
       by_cases c9 : bq8 = true
       ·subst c9
        rw [if_pos rfl] at H
        by_cases c10 : ((rd_T39 l0 x11_1).f0) = 1
        ·rw [if_pos c10] at H
         have c10b0 : (((rd_T39 l0 x11_1).f0) == 1) = true := beq_iff_eq.mpr c10
         have c10b1 : (((rd_T39 l0 x11_1).f0) != 1) = false := bne_eq_false_iff_eq.mpr c10
         clear c10
         by_cases c11 : ((rd_T39 l0 x11_1).f2) = a1
         ·rw [if_pos c11] at H
          have c11b0 : (((rd_T39 l0 x11_1).f2) == a1) = true := beq_iff_eq.mpr c11
          have c11b1 : (((rd_T39 l0 x11_1).f2) != a1) = false := bne_eq_false_iff_eq.mpr c11
          clear c11
          obtain rfl := oI H
          have p712 : 0 ≤ (x11_1 : Int) := oD (by assumption)
          have q712 : x11_1 < (l0.length : Int) := oD (by assumption)
          obtain ⟨ad712, e712, hx712_0, hx712_1, hx712_2, hx712_3, hx712_4, hx712_5⟩ := at_T39 HR0.out x11_1 p712 q712
          cases e712
          replace hx712_0 := pw_cell_below HB.out hx712_0
          replace hx712_1 := pw_cell_below HB.out hx712_1
          replace hx712_2 := pw_cell_below HB.out hx712_2
          replace hx712_3 := pw_cell_below HB.out hx712_3
          replace hx712_4 := pw_cell_below HB.out hx712_4
          replace hx712_5 := pw_cell_below HB.out hx712_5
          replace p712 := eq_true p712
          replace q712 := eq_true q712
          go_wp2_with (first | ((with_reducible refine gate_dst (N := 8) rfl ?_); refine box_event ?hg (N := 8) ?hd (cs := #[.int .i64 0, .int .i64 0, .int .i64 0, .int .i64 0, .int .i64 0, .int .i64 0]) (t := 39) ?hr ?_; (case hd => rfl); (case hg => rfl); (case hr => (go_simp; done)); intro gb713 hg w12 hbox hb; have n0_ := am (below_step (by exact sW HB.out) hb); have n1_ := am (hbox); have n2_ := am ((by rw [hg]; exact (below_size (by exact sW HB.out)) : w.heap.size ≤ gb713)); have n3_ := am ((by rw [hg]; exact (below_size (by exact sW HB.out)) : w.heap.size ≤ gb713)); clear HB; have HB := n0_; have BK713 := n1_; have GW713 := n2_; have GE713 := n3_; clear n0_ n1_ n2_ n3_; clear hb hbox hg; obtain ⟨hcz13_0, hcz13_1, hcz13_2, hcz13_3, hcz13_4, hcz13_5⟩ := cz6 BK713.out; obtain ⟨hfz13_0, hfz13_1, hfz13_2, hfz13_3, hfz13_4, hfz13_5⟩ := fz6 BK713.out; have p714 : 0 ≤ (x11_1 : Int) := oD (by assumption); have q714 : x11_1 < (l2.length : Int) := oD (by assumption); obtain ⟨ad714, e714, hx714_0⟩ := Kd.at_bool HR2.out x11_1 p714 q714; (try rw [← Nbq8.out] at hx714_0); cases e714; have hn714_0 : ad714.block ≠ gb713 := Nat.ne_of_lt (Nat.lt_of_lt_of_le (by have := World.block_lt_of_cell? _ _ hx714_0; rwa [add_block] at this) GW713.out); have hn714_1 : ad714.block ≠ gb713 := Nat.ne_of_lt (Nat.lt_of_lt_of_le (by have := World.block_lt_of_cell? _ _ hx714_0; rwa [add_block] at this) GW713.out); have hn714_2 : ad714.block ≠ gb713 := Nat.ne_of_lt (Nat.lt_of_lt_of_le (by have := World.block_lt_of_cell? _ _ hx714_0; rwa [add_block] at this) GW713.out); have hn714_3 : ad714.block ≠ gb713 := Nat.ne_of_lt (Nat.lt_of_lt_of_le (by have := World.block_lt_of_cell? _ _ hx714_0; rwa [add_block] at this) GW713.out); have hn714_4 : ad714.block ≠ gb713 := Nat.ne_of_lt (Nat.lt_of_lt_of_le (by have := World.block_lt_of_cell? _ _ hx714_0; rwa [add_block] at this) GW713.out); have hn714_5 : ad714.block ≠ gb713 := Nat.ne_of_lt (Nat.lt_of_lt_of_le (by have := World.block_lt_of_cell? _ _ hx714_0; rwa [add_block] at this) GW713.out); replace hx714_0 := pw_cell_below HB.out hx714_0; replace hx714_0 := (cell_far (p := ⟨gb713, 0, none⟩) (by (rw [add_block]; exact hn714_0)) (.int .i64 ((rd_T39 l0 x11_1).f0))).trans hx714_0; replace hx714_0 := (cell_far (p := ⟨gb713, 1, none⟩) (by (rw [add_block]; exact hn714_1)) (.int .i64 ((rd_T39 l0 x11_1).f1))).trans hx714_0; replace hx714_0 := (cell_far (p := ⟨gb713, 2, none⟩) (by (rw [add_block]; exact hn714_2)) (.int .i64 ((rd_T39 l0 x11_1).f2))).trans hx714_0; replace hx714_0 := (cell_far (p := ⟨gb713, 3, none⟩) (by (rw [add_block]; exact hn714_3)) (.int .i64 ((rd_T39 l0 x11_1).f3))).trans hx714_0; replace hx714_0 := (cell_far (p := ⟨gb713, 4, none⟩) (by (rw [add_block]; exact hn714_4)) (.int .i64 ((rd_T39 l0 x11_1).f4))).trans hx714_0; replace hx714_0 := (cell_far (p := ⟨gb713, 5, none⟩) (by (rw [add_block]; exact hn714_5)) (.int .i64 ((rd_T39 l0 x11_1).f5))).trans hx714_0; clear hn714_0; clear hn714_1; clear hn714_2; clear hn714_3; clear hn714_4; clear hn714_5; replace p714 := eq_true p714; replace q714 := eq_true q714))
          go_ret
          exact ⟨by rfl, by exact bW⟩
         ·rw [if_neg c11] at H
          have c11b0 : (((rd_T39 l0 x11_1).f2) == a1) = false := beq_eq_false_iff_ne.mpr c11
          have c11b1 : (((rd_T39 l0 x11_1).f2) != a1) = true := bne_iff_ne.mpr c11
          have H' := am H
          clear H
          have p712 : 0 ≤ (x11_1 : Int) := oD (by assumption)
          have q712 : x11_1 < (l0.length : Int) := oD (by assumption)
          obtain ⟨ad712, e712, hx712_0, hx712_1, hx712_2, hx712_3, hx712_4, hx712_5⟩ := at_T39 HR0.out x11_1 p712 q712
          cases e712
          replace hx712_0 := pw_cell_below HB.out hx712_0
          replace hx712_1 := pw_cell_below HB.out hx712_1
          replace hx712_2 := pw_cell_below HB.out hx712_2
          replace hx712_3 := pw_cell_below HB.out hx712_3
          replace hx712_4 := pw_cell_below HB.out hx712_4
          replace hx712_5 := pw_cell_below HB.out hx712_5
          replace p712 := eq_true p712
          replace q712 := eq_true q712
          go_wp2_with (first | ((with_reducible refine gate_dst (N := 8) rfl ?_); refine box_event ?hg (N := 8) ?hd (cs := #[.int .i64 0, .int .i64 0, .int .i64 0, .int .i64 0, .int .i64 0, .int .i64 0]) (t := 39) ?hr ?_; (case hd => rfl); (case hg => rfl); (case hr => (go_simp; done)); intro gb713 hg w14 hbox hb; have n0_ := am (below_step (by exact sW HB.out) hb); have n1_ := am (hbox); have n2_ := am ((by rw [hg]; exact (below_size (by exact sW HB.out)) : w.heap.size ≤ gb713)); have n3_ := am ((by rw [hg]; exact (below_size (by exact sW HB.out)) : w.heap.size ≤ gb713)); clear HB; have HB := n0_; have BK713 := n1_; have GW713 := n2_; have GE713 := n3_; clear n0_ n1_ n2_ n3_; clear hb hbox hg; obtain ⟨hcz15_0, hcz15_1, hcz15_2, hcz15_3, hcz15_4, hcz15_5⟩ := cz6 BK713.out; obtain ⟨hfz15_0, hfz15_1, hfz15_2, hfz15_3, hfz15_4, hfz15_5⟩ := fz6 BK713.out; have p714 : 0 ≤ (x11_1 : Int) := oD (by assumption); have q714 : x11_1 < (l2.length : Int) := oD (by assumption); obtain ⟨ad714, e714, hx714_0⟩ := Kd.at_bool HR2.out x11_1 p714 q714; (try rw [← Nbq8.out] at hx714_0); cases e714; have hn714_0 : ad714.block ≠ gb713 := Nat.ne_of_lt (Nat.lt_of_lt_of_le (by have := World.block_lt_of_cell? _ _ hx714_0; rwa [add_block] at this) GW713.out); have hn714_1 : ad714.block ≠ gb713 := Nat.ne_of_lt (Nat.lt_of_lt_of_le (by have := World.block_lt_of_cell? _ _ hx714_0; rwa [add_block] at this) GW713.out); have hn714_2 : ad714.block ≠ gb713 := Nat.ne_of_lt (Nat.lt_of_lt_of_le (by have := World.block_lt_of_cell? _ _ hx714_0; rwa [add_block] at this) GW713.out); have hn714_3 : ad714.block ≠ gb713 := Nat.ne_of_lt (Nat.lt_of_lt_of_le (by have := World.block_lt_of_cell? _ _ hx714_0; rwa [add_block] at this) GW713.out); have hn714_4 : ad714.block ≠ gb713 := Nat.ne_of_lt (Nat.lt_of_lt_of_le (by have := World.block_lt_of_cell? _ _ hx714_0; rwa [add_block] at this) GW713.out); have hn714_5 : ad714.block ≠ gb713 := Nat.ne_of_lt (Nat.lt_of_lt_of_le (by have := World.block_lt_of_cell? _ _ hx714_0; rwa [add_block] at this) GW713.out); replace hx714_0 := pw_cell_below HB.out hx714_0; replace hx714_0 := (cell_far (p := ⟨gb713, 0, none⟩) (by (rw [add_block]; exact hn714_0)) (.int .i64 ((rd_T39 l0 x11_1).f0))).trans hx714_0; replace hx714_0 := (cell_far (p := ⟨gb713, 1, none⟩) (by (rw [add_block]; exact hn714_1)) (.int .i64 ((rd_T39 l0 x11_1).f1))).trans hx714_0; replace hx714_0 := (cell_far (p := ⟨gb713, 2, none⟩) (by (rw [add_block]; exact hn714_2)) (.int .i64 ((rd_T39 l0 x11_1).f2))).trans hx714_0; replace hx714_0 := (cell_far (p := ⟨gb713, 3, none⟩) (by (rw [add_block]; exact hn714_3)) (.int .i64 ((rd_T39 l0 x11_1).f3))).trans hx714_0; replace hx714_0 := (cell_far (p := ⟨gb713, 4, none⟩) (by (rw [add_block]; exact hn714_4)) (.int .i64 ((rd_T39 l0 x11_1).f4))).trans hx714_0; replace hx714_0 := (cell_far (p := ⟨gb713, 5, none⟩) (by (rw [add_block]; exact hn714_5)) (.int .i64 ((rd_T39 l0 x11_1).f5))).trans hx714_0; clear hn714_0; clear hn714_1; clear hn714_2; clear hn714_3; clear hn714_4; clear hn714_5; replace p714 := eq_true p714; replace q714 := eq_true q714))
          go_roundg k1
          case measure => have := HK1.out; omega
          case rel => exact ⟨(wrap64 (x11_1 + 1)), (by rfl), H', ⟨by have := HK1.out; omega⟩, ⟨by exact bW⟩⟩
        ·rw [if_neg c10] at H
         have c10b0 : (((rd_T39 l0 x11_1).f0) == 1) = false := beq_eq_false_iff_ne.mpr c10
         have c10b1 : (((rd_T39 l0 x11_1).f0) != 1) = true := bne_iff_ne.mpr c10
         have H' := am H
         clear H
         have p712 : 0 ≤ (x11_1 : Int) := oD (by assumption)
         have q712 : x11_1 < (l0.length : Int) := oD (by assumption)
         obtain ⟨ad712, e712, hx712_0, hx712_1, hx712_2, hx712_3, hx712_4, hx712_5⟩ := at_T39 HR0.out x11_1 p712 q712
         cases e712
         replace hx712_0 := pw_cell_below HB.out hx712_0
         replace hx712_1 := pw_cell_below HB.out hx712_1
         replace hx712_2 := pw_cell_below HB.out hx712_2
         replace hx712_3 := pw_cell_below HB.out hx712_3
         replace hx712_4 := pw_cell_below HB.out hx712_4
         replace hx712_5 := pw_cell_below HB.out hx712_5
         replace p712 := eq_true p712
         replace q712 := eq_true q712
         go_wp2_with (first | ((with_reducible refine gate_dst (N := 8) rfl ?_); refine box_event ?hg (N := 8) ?hd (cs := #[.int .i64 0, .int .i64 0, .int .i64 0, .int .i64 0, .int .i64 0, .int .i64 0]) (t := 39) ?hr ?_; (case hd => rfl); (case hg => rfl); (case hr => (go_simp; done)); intro gb713 hg w16 hbox hb; have n0_ := am (below_step (by exact sW HB.out) hb); have n1_ := am (hbox); have n2_ := am ((by rw [hg]; exact (below_size (by exact sW HB.out)) : w.heap.size ≤ gb713)); have n3_ := am ((by rw [hg]; exact (below_size (by exact sW HB.out)) : w.heap.size ≤ gb713)); clear HB; have HB := n0_; have BK713 := n1_; have GW713 := n2_; have GE713 := n3_; clear n0_ n1_ n2_ n3_; clear hb hbox hg; obtain ⟨hcz17_0, hcz17_1, hcz17_2, hcz17_3, hcz17_4, hcz17_5⟩ := cz6 BK713.out; obtain ⟨hfz17_0, hfz17_1, hfz17_2, hfz17_3, hfz17_4, hfz17_5⟩ := fz6 BK713.out; have p714 : 0 ≤ (x11_1 : Int) := oD (by assumption); have q714 : x11_1 < (l2.length : Int) := oD (by assumption); obtain ⟨ad714, e714, hx714_0⟩ := Kd.at_bool HR2.out x11_1 p714 q714; (try rw [← Nbq8.out] at hx714_0); cases e714; have hn714_0 : ad714.block ≠ gb713 := Nat.ne_of_lt (Nat.lt_of_lt_of_le (by have := World.block_lt_of_cell? _ _ hx714_0; rwa [add_block] at this) GW713.out); have hn714_1 : ad714.block ≠ gb713 := Nat.ne_of_lt (Nat.lt_of_lt_of_le (by have := World.block_lt_of_cell? _ _ hx714_0; rwa [add_block] at this) GW713.out); have hn714_2 : ad714.block ≠ gb713 := Nat.ne_of_lt (Nat.lt_of_lt_of_le (by have := World.block_lt_of_cell? _ _ hx714_0; rwa [add_block] at this) GW713.out); have hn714_3 : ad714.block ≠ gb713 := Nat.ne_of_lt (Nat.lt_of_lt_of_le (by have := World.block_lt_of_cell? _ _ hx714_0; rwa [add_block] at this) GW713.out); have hn714_4 : ad714.block ≠ gb713 := Nat.ne_of_lt (Nat.lt_of_lt_of_le (by have := World.block_lt_of_cell? _ _ hx714_0; rwa [add_block] at this) GW713.out); have hn714_5 : ad714.block ≠ gb713 := Nat.ne_of_lt (Nat.lt_of_lt_of_le (by have := World.block_lt_of_cell? _ _ hx714_0; rwa [add_block] at this) GW713.out); replace hx714_0 := pw_cell_below HB.out hx714_0; replace hx714_0 := (cell_far (p := ⟨gb713, 0, none⟩) (by (rw [add_block]; exact hn714_0)) (.int .i64 ((rd_T39 l0 x11_1).f0))).trans hx714_0; replace hx714_0 := (cell_far (p := ⟨gb713, 1, none⟩) (by (rw [add_block]; exact hn714_1)) (.int .i64 ((rd_T39 l0 x11_1).f1))).trans hx714_0; replace hx714_0 := (cell_far (p := ⟨gb713, 2, none⟩) (by (rw [add_block]; exact hn714_2)) (.int .i64 ((rd_T39 l0 x11_1).f2))).trans hx714_0; replace hx714_0 := (cell_far (p := ⟨gb713, 3, none⟩) (by (rw [add_block]; exact hn714_3)) (.int .i64 ((rd_T39 l0 x11_1).f3))).trans hx714_0; replace hx714_0 := (cell_far (p := ⟨gb713, 4, none⟩) (by (rw [add_block]; exact hn714_4)) (.int .i64 ((rd_T39 l0 x11_1).f4))).trans hx714_0; replace hx714_0 := (cell_far (p := ⟨gb713, 5, none⟩) (by (rw [add_block]; exact hn714_5)) (.int .i64 ((rd_T39 l0 x11_1).f5))).trans hx714_0; clear hn714_0; clear hn714_1; clear hn714_2; clear hn714_3; clear hn714_4; clear hn714_5; replace p714 := eq_true p714; replace q714 := eq_true q714))
         go_roundg k1
         case measure => have := HK1.out; omega
         case rel => exact ⟨(wrap64 (x11_1 + 1)), (by rfl), H', ⟨by have := HK1.out; omega⟩, ⟨by exact bW⟩⟩
       ·replace c9 := Bool.eq_false_iff.mpr c9
        subst c9
        rw [if_neg (show ¬ (false = true) by decide)] at H
        have H' := am H
        clear H
        have p712 : 0 ≤ (x11_1 : Int) := oD (by assumption)
        have q712 : x11_1 < (l0.length : Int) := oD (by assumption)
        obtain ⟨ad712, e712, hx712_0, hx712_1, hx712_2, hx712_3, hx712_4, hx712_5⟩ := at_T39 HR0.out x11_1 p712 q712
        cases e712
        replace hx712_0 := pw_cell_below HB.out hx712_0
        replace hx712_1 := pw_cell_below HB.out hx712_1
        replace hx712_2 := pw_cell_below HB.out hx712_2
        replace hx712_3 := pw_cell_below HB.out hx712_3
        replace hx712_4 := pw_cell_below HB.out hx712_4
        replace hx712_5 := pw_cell_below HB.out hx712_5
        replace p712 := eq_true p712
        replace q712 := eq_true q712
        go_wp2_with (first | ((with_reducible refine gate_dst (N := 8) rfl ?_); refine box_event ?hg (N := 8) ?hd (cs := #[.int .i64 0, .int .i64 0, .int .i64 0, .int .i64 0, .int .i64 0, .int .i64 0]) (t := 39) ?hr ?_; (case hd => rfl); (case hg => rfl); (case hr => (go_simp; done)); intro gb713 hg w18 hbox hb; have n0_ := am (below_step (by exact sW HB.out) hb); have n1_ := am (hbox); have n2_ := am ((by rw [hg]; exact (below_size (by exact sW HB.out)) : w.heap.size ≤ gb713)); have n3_ := am ((by rw [hg]; exact (below_size (by exact sW HB.out)) : w.heap.size ≤ gb713)); clear HB; have HB := n0_; have BK713 := n1_; have GW713 := n2_; have GE713 := n3_; clear n0_ n1_ n2_ n3_; clear hb hbox hg; obtain ⟨hcz19_0, hcz19_1, hcz19_2, hcz19_3, hcz19_4, hcz19_5⟩ := cz6 BK713.out; obtain ⟨hfz19_0, hfz19_1, hfz19_2, hfz19_3, hfz19_4, hfz19_5⟩ := fz6 BK713.out; have p714 : 0 ≤ (x11_1 : Int) := oD (by assumption); have q714 : x11_1 < (l2.length : Int) := oD (by assumption); obtain ⟨ad714, e714, hx714_0⟩ := Kd.at_bool HR2.out x11_1 p714 q714; (try rw [← Nbq8.out] at hx714_0); cases e714; have hn714_0 : ad714.block ≠ gb713 := Nat.ne_of_lt (Nat.lt_of_lt_of_le (by have := World.block_lt_of_cell? _ _ hx714_0; rwa [add_block] at this) GW713.out); have hn714_1 : ad714.block ≠ gb713 := Nat.ne_of_lt (Nat.lt_of_lt_of_le (by have := World.block_lt_of_cell? _ _ hx714_0; rwa [add_block] at this) GW713.out); have hn714_2 : ad714.block ≠ gb713 := Nat.ne_of_lt (Nat.lt_of_lt_of_le (by have := World.block_lt_of_cell? _ _ hx714_0; rwa [add_block] at this) GW713.out); have hn714_3 : ad714.block ≠ gb713 := Nat.ne_of_lt (Nat.lt_of_lt_of_le (by have := World.block_lt_of_cell? _ _ hx714_0; rwa [add_block] at this) GW713.out); have hn714_4 : ad714.block ≠ gb713 := Nat.ne_of_lt (Nat.lt_of_lt_of_le (by have := World.block_lt_of_cell? _ _ hx714_0; rwa [add_block] at this) GW713.out); have hn714_5 : ad714.block ≠ gb713 := Nat.ne_of_lt (Nat.lt_of_lt_of_le (by have := World.block_lt_of_cell? _ _ hx714_0; rwa [add_block] at this) GW713.out); replace hx714_0 := pw_cell_below HB.out hx714_0; replace hx714_0 := (cell_far (p := ⟨gb713, 0, none⟩) (by (rw [add_block]; exact hn714_0)) (.int .i64 ((rd_T39 l0 x11_1).f0))).trans hx714_0; replace hx714_0 := (cell_far (p := ⟨gb713, 1, none⟩) (by (rw [add_block]; exact hn714_1)) (.int .i64 ((rd_T39 l0 x11_1).f1))).trans hx714_0; replace hx714_0 := (cell_far (p := ⟨gb713, 2, none⟩) (by (rw [add_block]; exact hn714_2)) (.int .i64 ((rd_T39 l0 x11_1).f2))).trans hx714_0; replace hx714_0 := (cell_far (p := ⟨gb713, 3, none⟩) (by (rw [add_block]; exact hn714_3)) (.int .i64 ((rd_T39 l0 x11_1).f3))).trans hx714_0; replace hx714_0 := (cell_far (p := ⟨gb713, 4, none⟩) (by (rw [add_block]; exact hn714_4)) (.int .i64 ((rd_T39 l0 x11_1).f4))).trans hx714_0; replace hx714_0 := (cell_far (p := ⟨gb713, 5, none⟩) (by (rw [add_block]; exact hn714_5)) (.int .i64 ((rd_T39 l0 x11_1).f5))).trans hx714_0; clear hn714_0; clear hn714_1; clear hn714_2; clear hn714_3; clear hn714_4; clear hn714_5; replace p714 := eq_true p714; replace q714 := eq_true q714))
        go_roundg k1
        case measure => have := HK1.out; omega
        case rel => exact ⟨(wrap64 (x11_1 + 1)), (by rfl), H', ⟨by have := HK1.out; omega⟩, ⟨by exact bW⟩⟩
      ·rw [if_neg c7] at H
       exact absurd H (by simp)
     ·rw [if_neg c6] at H
      exact absurd H (by simp)
    ·rw [if_neg c5] at H
     exact absurd H (by simp)
   ·rw [if_neg c4] at H
    have c4b0 : decide (x11_1 < (l0.length : Int)) = false := decide_eq_false c4
    clear c4
    obtain rfl := oI H
    go_wp2
    go_ret
    exact ⟨by rfl, by exact sW HB.out⟩
/-! ### impl_reach: function 38 -/
mutual
def impl_reach.l0 (pf : Int → Option Bool) : Nat → List (S39) → List Bool → Int → Option (List Bool)
 | 0, _, _, _ => none
 | k + 1, x0, x7, x8 => if x8 ≥ 0 then (if 0 ≤ x8 then (if x8 < (x7.length : Int) then (if rdOf false x7 x8 = true then ((pf x8).bind fun t720 => (impl_reach.j1 pf k x0 x7 x8 (!t720))) else (impl_reach.j1 pf k x0 x7 x8 true)) else (none)) else (none)) else (some x7)
def impl_reach.j1 (pf : Int → Option Bool) : Nat → List (S39) → List Bool → Int → Bool → Option (List Bool)
 | 0, _, _, _, _ => none
 | k + 1, x0, x7, x8, x32 => if x32 = true then (impl_reach.l0 pf k x0 x7 (wrap64 (x8 - 1))) else (if 0 ≤ x8 then (if x8 < (x0.length : Int) then ((impl_Parts.f k ((rd_T39 x0 x8).f0) ((rd_T39 x0 x8).f1) ((rd_T39 x0 x8).f2) ((rd_T39 x0 x8).f3) ((rd_T39 x0 x8).f4) ((rd_T39 x0 x8).f5)).bind fun t722 => (impl_reach.l1 pf k x0 x7 x8 t722 (t722.length : Int) 0)) else (none)) else (none))
def impl_reach.l1 (pf : Int → Option Bool) : Nat → List (S39) → List Bool → Int → List Int → Int → Int → Option (List Bool)
 | 0, _, _, _, _, _, _ => none
 | k + 1, x0, x7, x8, x37, x38, x39 => if x39 < x38 then (if 0 ≤ x39 then (if x39 < (x37.length : Int) then (if 0 ≤ (rd x37 x39) then (if (rd x37 x39) < (x7.length : Int) then (impl_reach.l1 pf k x0 (x7.set ((rd x37 x39) : Int).toNat true) x8 x37 x38 (wrap64 (x39 + 1))) else (none)) else (none)) else (none)) else (none)) else (impl_reach.l0 pf k x0 x7 (wrap64 (x8 - 1)))
end
def impl_reach.f (pf : Int → Option Bool) (k : Nat) (l0 : List (S39)) (a1 : Int) : Option (List Bool) := if 0 ≤ (l0.length : Int) then (if ((l0.length : Int) : Int).toNat ≤ 281474976710656 then ((some (List.replicate ((l0.length : Int) : Int).toNat false : List Bool)).bind fun y715 => (if 0 ≤ a1 then (if a1 < (y715.length : Int) then (impl_reach.l0 pf k l0 (y715.set (a1 : Int).toNat true) a1) else (none)) else (none))) else (none)) else (none)
set_option maxHeartbeats 8000000 in
set_option maxRecDepth 100000 in
theorem impl_reach.calls (F : Nat) (cp : Array Value) (pf : Int → Option Bool) (k : Nat) (A0 : Option Addr) (c0 : Nat) (l0 : List (S39)) (a1 : Int) (r : List Bool) (w : World) (hr0 : Kd.C k39 w A0 l0.length l0) (hc0 : l0.length ≤ c0) (eg : ∀ args w, (callFunc F args).run Try.prog w = .ok (.enter F args) w) (hp : ∀ (W : World) (i : Int) (b : Bool), Below w.heap.size w W → pf i = some b → Calls Try.prog F (#[.int .i64 i] ++ cp) W fun e w' => e = .returned (.bool b) ∧ Below W.heap.size W w') (h : impl_reach.f pf k l0 a1 = some r) :
  Calls Try.prog 38 #[.slice A0 l0.length c0, .int .i64 a1, .func (.func F) #[] cp] w fun e w' => ∃ v0_ : Value, e = .returned (v0_) ∧ Kd.R Kd.bool 4 w' w.heap.size (fun _ => True) v0_ r ∧ Below w.heap.size w w' := by
 have hu39 := Try.underlying39
 have HR0 := am hr0
 have HC0 := am hc0
 have HPF := am hp
 clear hr0 hc0 hp
 have HB := am (Below.refl w.heap.size w)
 have H : (if 0 ≤ (l0.length : Int) then (if ((l0.length : Int) : Int).toNat ≤ 281474976710656 then ((some (List.replicate ((l0.length : Int) : Int).toNat false : List Bool)).bind fun y715 => (if 0 ≤ a1 then (if a1 < (y715.length : Int) then (impl_reach.l0 pf k l0 (y715.set (a1 : Int).toNat true) a1) else (none)) else (none))) else (none)) else (none)) = some r := h
 clear h
 by_cases c3 : 0 ≤ (l0.length : Int)
 ·rw [if_pos c3] at H
  have c3b0 := eq_true c3
  have c3b1 : decide (0 ≤ (l0.length : Int)) = true := decide_eq_true c3
  clear c3
  by_cases c4 : ((l0.length : Int) : Int).toNat ≤ 281474976710656
  ·rw [if_pos c4] at H
   have c4b0 := eq_true c4
   have c4b1 : decide (((l0.length : Int) : Int).toNat ≤ 281474976710656) = true := decide_eq_true c4
   clear c4
   obtain ⟨y715, hy715⟩ : ∃ y_ : List Bool, y_ = (List.replicate ((l0.length : Int) : Int).toNat false) := ⟨_, rfl⟩
   replace H : (if 0 ≤ a1 then (if a1 < (y715.length : Int) then (impl_reach.l0 pf k l0 (y715.set (a1 : Int).toNat true) a1) else (none)) else (none)) = some r := by (have H2_ := (Option.bind_some _ _).symm.trans H; rw [hy715]; with_reducible exact H2_)
   have Ny715 := am hy715
   clear hy715
   by_cases c5 : 0 ≤ a1
   ·rw [if_pos c5] at H
    have c5b0 : decide (0 ≤ a1) = true := decide_eq_true c5
    clear c5
    by_cases c6 : a1 < (y715.length : Int)
    ·rw [if_pos c6] at H
     have c6b0 : decide (a1 < (y715.length : Int)) = true := decide_eq_true c6
     clear c6
     obtain ⟨y718, hy718⟩ : ∃ y_ : List Bool, y_ = (y715.set (a1 : Int).toNat true) := ⟨_, rfl⟩
     replace H : (impl_reach.l0 pf k l0 y718 a1) = some r := by (rw [hy718]; with_reducible exact H)
     have Ny718 := am hy718
     clear hy718
     have H' := am H
     clear H
     go_enter Try.func38, Try.ntmps38
     go_wp2_with (first | ((with_reducible refine gate_dst (N := 13) rfl ?_); refine Kd.R_make Kd.bool _ 4 rfl (N := 13) rfl 42 _ _ rfl (l0.length : Int) rfl rfl Try.underlying42 (.bool false) 1 info4 rfl (by decide) (by omega) false (ok := fun _ => True) (okp := fun _ => True) rfl (fun _ hk => hk) trivial (oD (by assumption)) (Nat.le_trans (Nat.mul_le_mul_right _ (oD (by assumption) : (l0.length : Int).toNat ≤ 281474976710656)) (by omega)) (Below.refl _ _) (Nat.le_refl _) ?_; intro v716 w8 ho9 hb hg_ hnew_; clear hg_ hnew_; (rw [← Ny715.out] at ho9); have n0_ := am (Kd.R_lower ho9 (below_size (by exact sW HB.out))); have n1_ := am (below_step (by exact sW HB.out) hb); clear HB; have HO717 := n0_; have HB := n1_; clear n0_ n1_; clear hb ho9; have p7 : 0 ≤ (a1 : Int) := oD (by assumption); have q7 : (a1 : Int) < ((y715.length : Int) : Int) := oD (by assumption); obtain ⟨go7, co7, eo7, gb7, gl7, cl7, HG7⟩ := Kd.R_form HO717.out (by omega); (cases eo7); have GB7 := am gb7; have GG7 := am HG7; clear gb7 gl7 HG7; obtain ⟨hx7_0, hf7_0⟩ := Kd.R_celln false HO717.out (a1 : Int) p7 q7; replace p7 := eq_true p7; replace q7 := eq_true q7; obtain ⟨hy10_, hz10_⟩ := Kd.R_celln false HO717.out (a1 : Int) (oD (by assumption)) (oD (by assumption)); have HP10 := Kd.R_putg HO717.out (a1 : Int) true) | ((with_reducible refine gate_store (t := 4) (p := 16) rfl ?_); refine store_event (t := 4) (p := 16) (v := ?vo_w11) (w1 := (w8.setCell ⟨go7, (a1 : Int).toNat, none⟩ (.bool true))) ?hg ?ho ?hn ?hr ?_; (case ho => rfl); (case hg => rfl); (case hn => rfl); (case hr => (go_simp; done)); intro w11 hw; have hg : w8.grownBy w11 (some go7) := (by rw [hw]; exact HP10.2); have hp_ : Kd.R Kd.bool 4 w11 w.heap.size (fun _ => True) (.slice (some ⟨go7, 0, none⟩) y715.length co7) y718 := (by rw [hw, Ny718.out]; exact HP10.1); clear HP10; have n0_ := am (hp_); have n1_ := am ((by rw [hw]; exact below_set (HB.out) GB7.out : Below w.heap.size w w11)); clear HO717; clear HB; have HO717 := n0_; have HB := n1_; clear n0_ n1_; clear hg hw hp_))
     go_loopg [8] k (fun kq v8 w' => ∃ (x7_1 : List Bool) (x8_1 : Int), v8 = .int .i64 x8_1 ∧ Aside0 (impl_reach.l0 pf kq l0 x7_1 x8_1 = some r) ∧ Aside0 (kq ≤ k) ∧ Aside0 (Kd.R Kd.bool 4 w' w.heap.size (fun _ => True) (.slice (some ⟨go7, 0, none⟩) y715.length co7) x7_1) ∧ Aside0 (Below w.heap.size w w'))
     case atStart => exact ⟨(y718), (a1), (by rfl), H', ⟨Nat.le_refl _⟩, ⟨by exact sR <| HO717.out⟩, ⟨by exact sW HB.out⟩⟩
     case round =>
      clear H'
      clear c3b0 c3b1 c4b0 c4b1 c5b0 c6b0 hx7_0; try clear p7; try clear q7; try clear p7; try clear q7
      obtain ⟨x7_1, x8_1, rfl, HA, HK1, HO_7, HB⟩ := hrel
      have hl7_1 := (Kd.R_reads' HO_7.out).1
      rw [hl7_1] at HO_7
      (try simp only [hl7_1])
      cases gk with
      | zero => exact absurd HA.out (by simp [impl_reach.l0])
      | succ k1 =>
       have H := HA.out
       clear HA
       simp only [impl_reach.l0] at H
       by_cases c12 : x8_1 ≥ 0
       ·rw [if_pos c12] at H
        have c12b0 : decide (0 ≤ x8_1) = true := decide_eq_true c12
        clear c12
        have HC13 := am H
        clear H
        go_upto_region 6 with (fail)
        go_cut [32] (fun v32 wc => ∃ (kq : Nat) (x32_12 : Bool), v32 = .bool x32_12 ∧ Aside0 (impl_reach.j1 pf kq l0 x7_1 x8_1 x32_12 = some r) ∧ Aside0 (kq ≤ k1) ∧ Aside0 (Kd.R Kd.bool 4 wc w.heap.size (fun _ => True) (.slice (some ⟨go7, 0, none⟩) x7_1.length co7) x7_1) ∧ Aside0 (Below w.heap.size w wc))
        case first =>
         have H := HC13.out
         clear HC13
         by_cases c14 : 0 ≤ x8_1
         ·rw [if_pos c14] at H
          have c14b0 : decide (0 ≤ x8_1) = true := decide_eq_true c14
          clear c14
          (skip)
          by_cases c15 : x8_1 < (x7_1.length : Int)
          ·rw [if_pos c15] at H
           have c15b0 : decide (x8_1 < (x7_1.length : Int)) = true := decide_eq_true c15
           clear c15
           obtain ⟨bq16, hbq16⟩ : ∃ b_ : Bool, b_ = (rdOf false x7_1 x8_1) := ⟨_, rfl⟩
           replace H : (if bq16 = true then ((pf x8_1).bind fun t720 => (impl_reach.j1 pf k1 l0 x7_1 x8_1 (!t720))) else (impl_reach.j1 pf k1 l0 x7_1 x8_1 true)) = some r := by rw [← hbq16] at H; exact H
           have Nbq16 := am hbq16
           clear hbq16
           by_cases c17 : bq16 = true
           ·subst c17
            rw [if_pos rfl] at H
            replace H := oB H
            obtain ⟨t720, A180, H⟩ := H
            have A18 := am A180
            clear A180
            have H' := am H
            clear H
            have p719 : 0 ≤ (x8_1 : Int) := oD (by assumption)
            have q719 : x8_1 < (x7_1.length : Int) := oD (by assumption)
            obtain ⟨ad719, e719, hx719_0⟩ := Kd.at_bool (Kd.R_reads' HO_7.out).2.2 x8_1 p719 q719
            (try rw [← Nbq16.out] at hx719_0)
            obtain rfl : (⟨go7, 0, none⟩ : Addr) = ad719 := (by injection e719)
            (simp only [add_plain] at hx719_0)
            replace p719 := eq_true p719
            replace q719 := eq_true q719
            go_wp2_with (first | (go_at_fn F; refine (HPF.out _ x8_1 t720 (by exact sW HB.out) A18.out).mono ?_; rintro e w19 ⟨rfl, hb⟩; have n0_ := am (Kd.R_below (by exact sR <| HO_7.out) hb); have n1_ := am (below_step (by exact sW HB.out) hb); clear HO_7; clear HB; have HO_7 := n0_; have HB := n1_; clear n0_ n1_; (try clear hb); (try clear hb2); (try clear hk); (try clear hi)))
            go_meet
            case rel => exact ⟨_, (!t720), (by rfl), H', ⟨by have := HK1.out; omega⟩, ⟨by (try simp only [hl7_1]); exact sR <| HO_7.out⟩, ⟨by exact sW HB.out⟩⟩
           ·replace c17 := Bool.eq_false_iff.mpr c17
            subst c17
            rw [if_neg (show ¬ (false = true) by decide)] at H
            have H' := am H
            clear H
            have p719 : 0 ≤ (x8_1 : Int) := oD (by assumption)
            have q719 : x8_1 < (x7_1.length : Int) := oD (by assumption)
            obtain ⟨ad719, e719, hx719_0⟩ := Kd.at_bool (Kd.R_reads' HO_7.out).2.2 x8_1 p719 q719
            (try rw [← Nbq16.out] at hx719_0)
            obtain rfl : (⟨go7, 0, none⟩ : Addr) = ad719 := (by injection e719)
            (simp only [add_plain] at hx719_0)
            replace p719 := eq_true p719
            replace q719 := eq_true q719
            go_wp2
            go_meet
            case rel => exact ⟨_, (true), (by rfl), H', ⟨by have := HK1.out; omega⟩, ⟨by (try simp only [hl7_1]); exact sR <| HO_7.out⟩, ⟨by exact sW HB.out⟩⟩
          ·rw [if_neg c15] at H
           exact absurd H (by simp)
         ·rw [if_neg c14] at H
          exact absurd H (by simp)
        case rest =>
         clear HC13
         clear c12b0
         obtain ⟨kq, x32_12, rfl, HA, HJ12, HO_7, HB⟩ := hcut
         cases kq with
         | zero => exact absurd HA.out (by simp [impl_reach.j1])
         | succ kj12 =>
          have H := HA.out
          clear HA
          simp only [impl_reach.j1] at H
          by_cases c20 : x32_12 = true
          ·subst c20
           rw [if_pos rfl] at H
           have H' := am H
           clear H
           go_wp2
           (try simp only [← hl7_1])
           go_roundg kj12
           case measure => have := HK1.out; have := HJ12.out; omega
           case rel => exact ⟨(x7_1), (wrap64 (x8_1 - 1)), (by rfl), H', ⟨by have := HK1.out; have := HJ12.out; omega⟩, ⟨by (try simp only [hl7_1]); exact sR <| HO_7.out⟩, ⟨by exact sW HB.out⟩⟩
          ·replace c20 := Bool.eq_false_iff.mpr c20
           subst c20
           rw [if_neg (show ¬ (false = true) by decide)] at H
           by_cases c21 : 0 ≤ x8_1
           ·rw [if_pos c21] at H
            have c21b0 : decide (0 ≤ x8_1) = true := decide_eq_true c21
            clear c21
            by_cases c22 : x8_1 < (l0.length : Int)
            ·rw [if_pos c22] at H
             have c22b0 : decide (x8_1 < (l0.length : Int)) = true := decide_eq_true c22
             clear c22
             replace H := oB H
             obtain ⟨t722, A230, H⟩ := H
             have A23 := am A230
             clear A230
             have H' := am H
             clear H
             have p721 : 0 ≤ (x8_1 : Int) := oD (by assumption)
             have q721 : x8_1 < (l0.length : Int) := oD (by assumption)
             obtain ⟨ad721, e721, hx721_0, hx721_1, hx721_2, hx721_3, hx721_4, hx721_5⟩ := at_T39 HR0.out x8_1 p721 q721
             cases e721
             replace hx721_0 := pw_cell_below HB.out hx721_0
             replace hx721_1 := pw_cell_below HB.out hx721_1
             replace hx721_2 := pw_cell_below HB.out hx721_2
             replace hx721_3 := pw_cell_below HB.out hx721_3
             replace hx721_4 := pw_cell_below HB.out hx721_4
             replace hx721_5 := pw_cell_below HB.out hx721_5
             replace p721 := eq_true p721
             replace q721 := eq_true q721
             go_wp2_with (first | ((with_reducible refine gate_callee (f := 22) rfl ?_); refine goesL_ (some 37) rfl rfl Try.func22 (by kernel_rfl) rfl #[.agg #[.int .i64 ((rd_T39 l0 x8_1).f0), .int .i64 ((rd_T39 l0 x8_1).f1), .int .i64 ((rd_T39 l0 x8_1).f2), .int .i64 ((rd_T39 l0 x8_1).f3), .int .i64 ((rd_T39 l0 x8_1).f4), .int .i64 ((rd_T39 l0 x8_1).f5)]] rfl tm ?_; (with_reducible refine (impl_Parts.calls kj12 ((rd_T39 l0 x8_1).f0) ((rd_T39 l0 x8_1).f1) ((rd_T39 l0 x8_1).f2) ((rd_T39 l0 x8_1).f3) ((rd_T39 l0 x8_1).f4) ((rd_T39 l0 x8_1).f5) t722 _ A23.out).mono ?_); rintro e w24 ⟨v723, rfl, ho0, hb⟩; refine ⟨_, rfl, ?_⟩; have n0_ := am (Kd.R_below (by exact sR <| HO_7.out) hb); have n1_ := am (Kd.R_lower ho0 (below_size (by exact sW HB.out))); have n2_ := am (below_step (by exact sW HB.out) hb); clear HO_7; clear HB; have HO_7 := n0_; have HO724 := n1_; have HB := n2_; clear n0_ n1_ n2_; (try clear hb); (try clear hb2); (try clear hk); (try clear hi); (try clear ho0); obtain ⟨Ao25, co25, eo25⟩ := Kd.R_slice HO724.out; subst eo25))
             go_loopg [39] kj12 (fun kq v39 w' => ∃ (x7_3 : List Bool) (x39_3 : Int), v39 = .int .i64 x39_3 ∧ Aside0 (impl_reach.l1 pf kq l0 x7_3 x8_1 t722 (t722.length : Int) x39_3 = some r) ∧ Aside0 (kq ≤ kj12) ∧ Aside0 (Kd.R Kd.bool 4 w' w.heap.size (fun _ => True) (.slice (some ⟨go7, 0, none⟩) x7_1.length co7) x7_3) ∧ Aside0 (Kd.R (Kd.int .i64) 3 w' w.heap.size (fun _ => True) (.slice Ao25 t722.length co25) t722) ∧ Aside0 (Below w.heap.size w w'))
             case atStart => exact ⟨(x7_1), (0), (by rfl), H', ⟨Nat.le_refl _⟩, ⟨by (try simp only [hl7_1]); exact sR <| HO_7.out⟩, ⟨by (try simp only [hl7_1]); exact sR <| HO724.out⟩, ⟨by exact sW HB.out⟩⟩
             case round =>
              clear H'
              clear c21b0 c22b0 hx721_0 hx721_1 hx721_2 hx721_3 hx721_4 hx721_5 p721 q721
              obtain ⟨x7_3, x39_3, rfl, HA, HK3, HO_7, HO_37, HB⟩ := hrel
              have hl7_3 := (Kd.R_reads' HO_7.out).1
              rw [hl7_3] at HO_7
              (try simp only [hl7_3])
              (try simp only [hl7_3] at HO_37)
              cases gk with
              | zero => exact absurd HA.out (by simp [impl_reach.l1])
              | succ k3 =>
               have H := HA.out
               clear HA
               simp only [impl_reach.l1] at H
               by_cases c26 : x39_3 < (t722.length : Int)
               ·rw [if_pos c26] at H
                have c26b0 : decide (x39_3 < (t722.length : Int)) = true := decide_eq_true c26
                clear c26
                by_cases c27 : 0 ≤ x39_3
                ·rw [if_pos c27] at H
                 have c27b0 : decide (0 ≤ x39_3) = true := decide_eq_true c27
                 clear c27
                 by_cases c28 : x39_3 < (t722.length : Int)
                 ·rw [if_pos c28] at H
                  have c28b0 : decide (x39_3 < (t722.length : Int)) = true := decide_eq_true c28
                  clear c28
                  by_cases c29 : 0 ≤ (rd t722 x39_3)
                  ·rw [if_pos c29] at H
                   have c29b0 : decide (0 ≤ (rd t722 x39_3)) = true := decide_eq_true c29
                   clear c29
                   by_cases c30 : (rd t722 x39_3) < (x7_3.length : Int)
                   ·rw [if_pos c30] at H
                    have c30b0 : decide ((rd t722 x39_3) < (x7_3.length : Int)) = true := decide_eq_true c30
                    clear c30
                    obtain ⟨y726, hy726⟩ : ∃ y_ : List Bool, y_ = (x7_3.set ((rd t722 x39_3) : Int).toNat true) := ⟨_, rfl⟩
                    replace H : (impl_reach.l1 pf k3 l0 y726 x8_1 t722 (t722.length : Int) (wrap64 (x39_3 + 1))) = some r := by (rw [hy726]; with_reducible exact H)
                    have Ny726 := am hy726
                    clear hy726
                    have H' := am H
                    clear H
                    have p725 : 0 ≤ (x39_3 : Int) := oD (by assumption)
                    have q725 : x39_3 < (t722.length : Int) := oD (by assumption)
                    obtain ⟨ad725, e725, hx725_0⟩ := Kd.at_int (Kd.R_reads' HO_37.out).2.2 x39_3 p725 q725
                    cases e725
                    replace p725 := eq_true p725
                    replace q725 := eq_true q725
                    have p31 : 0 ≤ ((rd t722 x39_3) : Int) := oD (by assumption)
                    have q31 : ((rd t722 x39_3) : Int) < ((x7_3.length : Int) : Int) := oD (by assumption)
                    obtain ⟨hx31_0, hf31_0⟩ := Kd.R_celln false HO_7.out ((rd t722 x39_3) : Int) p31 q31
                    replace p31 := eq_true p31
                    replace q31 := eq_true q31
                    have HP32 := Kd.R_putg HO_7.out ((rd t722 x39_3) : Int) true
                    go_wp2_with (first | ((with_reducible refine gate_store (t := 4) (p := 45) rfl ?_); refine store_event (t := 4) (p := 45) (v := ?vo_w33) (w1 := (wr.setCell ⟨go7, ((rd t722 x39_3) : Int).toNat, none⟩ (.bool true))) ?hg ?ho ?hn ?hr ?_; (case ho => rfl); (case hg => rfl); (case hn => rfl); (case hr => (go_simp; done)); intro w33 hw; have hg : wr.grownBy w33 (some go7) := (by rw [hw]; exact HP32.2); have hp_ : Kd.R Kd.bool 4 w33 w.heap.size (fun _ => True) (.slice (some ⟨go7, 0, none⟩) x7_3.length co7) y726 := (by rw [hw, Ny726.out]; exact HP32.1); clear HP32; have n0_ := am (hp_); have n1_ := am (Kd.R_over' (v := (.slice (some ⟨go7, 0, none⟩) x7_3.length co7)) (by exact sR <| HO_37.out) (Kd.R_typed HO_7.out) (by decide) hg); have n2_ := am ((by rw [hw]; exact below_set (HB.out) GB7.out : Below w.heap.size w w33)); clear HO_7; clear HO_37; clear HB; have HO_7 := n0_; have HO_37 := n1_; have HB := n2_; clear n0_ n1_ n2_; clear hg hw hp_))
                    (try simp only [← hl7_3])
                    go_roundg k3
                    case measure => have := HK1.out; have := HJ12.out; have := HK3.out; omega
                    case rel => exact ⟨(y726), (wrap64 (x39_3 + 1)), (by rfl), H', ⟨by have := HK1.out; have := HJ12.out; have := HK3.out; omega⟩, ⟨by (try simp only [hl7_1]); (try simp only [hl7_3]); exact sR <| HO_7.out⟩, ⟨by (try simp only [hl7_1]); (try simp only [hl7_3]); exact sR <| HO_37.out⟩, ⟨by exact sW HB.out⟩⟩
                   ·rw [if_neg c30] at H
                    exact absurd H (by simp)
                  ·rw [if_neg c29] at H
                   exact absurd H (by simp)
                 ·rw [if_neg c28] at H
                  exact absurd H (by simp)
                ·rw [if_neg c27] at H
                 exact absurd H (by simp)
               ·rw [if_neg c26] at H
                have c26b0 : decide (x39_3 < (t722.length : Int)) = false := decide_eq_false c26
                clear c26
                have H' := am H
                clear H
                go_wp2
                (try simp only [← hl7_1, ← hl7_3])
                go_roundg k3
                case measure => have := HK1.out; have := HJ12.out; have := HK3.out; omega
                case rel => exact ⟨(x7_3), (wrap64 (x8_1 - 1)), (by rfl), H', ⟨by have := HK1.out; have := HJ12.out; have := HK3.out; omega⟩, ⟨by (try simp only [hl7_1]); (try simp only [hl7_3]); exact sR <| HO_7.out⟩, ⟨by exact sW HB.out⟩⟩
            ·rw [if_neg c22] at H
             exact absurd H (by simp)
           ·rw [if_neg c21] at H
            exact absurd H (by simp)
       ·rw [if_neg c12] at H
        have c12b0 : decide (0 ≤ x8_1) = false := decide_eq_false c12
        clear c12
        obtain rfl := oI H
        go_wp2
        go_ret
        exact ⟨_, by rfl, by exact sR <| HO_7.out, by exact sW HB.out⟩
    ·rw [if_neg c6] at H
     exact absurd H (by simp)
   ·rw [if_neg c5] at H
    exact absurd H (by simp)
  ·rw [if_neg c4] at H
   exact absurd H (by simp)
 ·rw [if_neg c3] at H
  exact absurd H (by simp)
@[reducible] def zA0x28 : Array Bool := #[false, false, false, false, false, false, false, false, false, false, false, false, false, false, false, false]
@[reducible] def zA1x28 : Array Bool := #[false, true, false, false, false, false, false, false, false, false, false, false, false, false, false, false]
@[reducible] def zA2x28 : Array Bool := #[true, true, false, false, false, false, false, false, false, false, false, false, false, false, false, false]
@[reducible] def zA3x28 : Array Bool := #[true, true, true, false, false, false, false, false, false, false, false, false, false, false, false, false]
@[reducible] def zA4x28 : Array Bool := #[true, true, true, true, false, false, false, false, false, false, false, false, false, false, false, false]
@[reducible] def zA5x28 : Array Bool := #[true, true, true, true, true, false, false, false, false, false, false, false, false, false, false, false]
@[reducible] def zA6x28 : Array Bool := #[true, true, true, true, true, true, false, false, false, false, false, false, false, false, false, false]
@[reducible] def zA7x28 : Array Bool := #[true, true, true, true, true, true, true, false, false, false, false, false, false, false, false, false]
@[reducible] def zA8x28 : Array Bool := #[true, true, true, true, true, true, true, false, true, false, false, false, false, false, false, false]
@[reducible] def zA9x28 : Array Bool := #[true, true, true, true, true, true, true, true, true, false, false, false, false, false, false, false]
@[reducible] def zA10x28 : Array Bool := #[true, true, true, true, true, true, true, true, true, true, false, false, false, false, false, false]
@[reducible] def zA11x28 : Array Bool := #[true, true, true, true, true, true, true, true, true, true, true, false, false, false, false, false]
@[reducible] def zA12x28 : Array Bool := #[true, true, true, true, true, true, true, true, true, true, true, true, false, false, false, false]
@[reducible] def zA13x28 : Array Bool := #[true, true, true, true, true, true, true, true, true, true, true, true, true, false, false, false]
@[reducible] def zA14x28 : Array Bool := #[true, true, true, true, true, true, true, true, true, true, true, true, true, true, false, false]
@[reducible] def zA15x28 : Array Bool := #[true, true, true, true, true, true, true, true, true, true, true, true, true, true, true, false]
@[reducible] def zA16x28 : Array Bool := #[true, true, true, true, true, true, true, true, true, true, true, true, true, true, true, true]
@[reducible] def zA17x28 : Array Bool := #[true, true, true, true, true, true, true, true, false, false, false, false, false, false, false, false]
/-! ### impl_freeAt_1: by hand -/
def impl_freeAt_1.f (l0 : List (S39)) (v i : Int) : Option Bool := if 0 ≤ i then (if i < (l0.length : Int) then some (!(((rd_T39 l0 i).f0 == 19) || ((rd_T39 l0 i).f0 == 20)) || ((rd_T39 l0 i).f2 != v)) else none) else none
theorem isQuantI (a b c d e f : Int) : impl_isQuant.f a b c d e f = some ((a == 19) || (a == 20)) := by
 unfold impl_isQuant.f
 by_cases h : a = 19
 ·rw [if_pos h]; simp [h]
 ·rw [if_neg h]; simp [h]
set_option maxHeartbeats 2000000 in
set_option maxRecDepth 100000 in
theorem impl_freeAt_1.calls (A0 : Option Addr) (c0 : Nat) (l0 : List (S39)) (v i : Int) (b : Bool) (g1 g2 : Nat) (w : World) (hr0 : Kd.C k39 w A0 l0.length l0) (hc0 : l0.length ≤ c0)
  (b1 : w.cell? ⟨g1, 0, none⟩ = some (.slice A0 l0.length c0)) (b2 : w.cell? ⟨g2, 0, none⟩ = some (.int .i64 v)) (h : impl_freeAt_1.f l0 v i = some b) :
  Calls Try.prog 55 #[.int .i64 i, .pointer (some ⟨g1, 0, none⟩), .pointer (some ⟨g2, 0, none⟩)] w fun e w' => e = .returned (.bool b) ∧ Below w.heap.size w w' := by
 unfold impl_freeAt_1.f at h
 by_cases p1 : 0 ≤ i
 ·rw [if_pos p1] at h
  by_cases p2 : i < (l0.length : Int)
  ·rw [if_pos p2] at h
   replace h := oI h
   obtain ⟨ad0, e0, y0, y1, y2, y3, y4, y5⟩ := at_T39 hr0 i p1 p2
   cases e0
   have HR0 := am hr0
   have HC0 := am hc0
   clear hr0 hc0
   generalize (rd_T39 l0 i).f0 = op at *
   generalize (rd_T39 l0 i).f1 = W at *
   generalize (rd_T39 l0 i).f2 = Kq at *
   generalize (rd_T39 l0 i).f3 = A at *
   generalize (rd_T39 l0 i).f4 = B at *
   generalize (rd_T39 l0 i).f5 = Cq at *
   obtain ⟨q, hq⟩ : ∃ q : Bool, ((op == 19) || (op == 20)) = q := ⟨_, rfl⟩
   rw [hq] at h
   have HQ := am hq
   clear hq
   have H := am h
   clear h
   have t1 : decide (0 ≤ i) = true := decide_eq_true p1
   have t2 : decide (i < (l0.length : Int)) = true := decide_eq_true p2
   cases q with
   | true =>
    go_enter Try.func55, Try.ntmps55
    go_wp2
    refine start_ (n := 16) (S := fun w' => w'.cell? ⟨g1, 0, none⟩ = some (.slice (some ad0) l0.length c0) ∧ w'.cell? ⟨g2, 0, none⟩ = some (.int .i64 v) ∧ w'.cell? (ad0.add (i.toNat * 6)) = some (.int .i64 op) ∧ w'.cell? ⟨(ad0.add (i.toNat * 6)).block, (ad0.add (i.toNat * 6)).off + 1, none⟩ = some (.int .i64 W) ∧ w'.cell? ⟨(ad0.add (i.toNat * 6)).block, (ad0.add (i.toNat * 6)).off + 2, none⟩ = some (.int .i64 Kq) ∧ w'.cell? ⟨(ad0.add (i.toNat * 6)).block, (ad0.add (i.toNat * 6)).off + 3, none⟩ = some (.int .i64 A) ∧ w'.cell? ⟨(ad0.add (i.toNat * 6)).block, (ad0.add (i.toNat * 6)).off + 4, none⟩ = some (.int .i64 B) ∧ w'.cell? ⟨(ad0.add (i.toNat * 6)).block, (ad0.add (i.toNat * 6)).off + 5, none⟩ = some (.int .i64 Cq)) (ds := []) zA0x28 (by kernel_rfl) rfl rfl ⟨b1, b2, y0, y1, y2, y3, y4, y5⟩ (fun hHeld => ?_)
    refine pS (i := 1) (N := some 6) zA1x28 ?_
    refine take_ (i := 0) (N := some 5) (v := ?_) (a' := ?_) zA2x28 rfl rfl (by kernel_rfl) (fun _ _ _ h => h) (Or.inl ⟨by rfl, ?_⟩) hHeld ?_ ?_
    rotate_left
    ·rintro w' ⟨s0, s1, s2, s3, s4, s5, s6, s7⟩
     go_simp
     with_reducible rfl
    rotate_left
    ·simp only [Act.put, List.setIfInBounds_toArray, List.set_cons_zero, List.set_cons_succ, i64_w, i32_w]
     rfl
    refine pS (i := 2) (N := some 7) zA3x28 ?_
    refine take_ (i := 3) (N := some 8) (v := ?_) (a' := ?_) zA4x28 rfl rfl (by kernel_rfl) (fun _ _ _ h => h) (Or.inl ⟨by rfl, ?_⟩) hHeld ?_ ?_
    rotate_left
    ·rintro w' ⟨s0, s1, s2, s3, s4, s5, s6, s7⟩
     go_simp
     with_reducible rfl
    rotate_left
    ·simp only [Act.put, List.setIfInBounds_toArray, List.set_cons_zero, List.set_cons_succ, i64_w, i32_w]
     rfl
    refine one_ (i := 4) (N := some 9) zA5x28 rfl rfl (by kernel_rfl) (by decide) (fun K hK => ?_)
    refine goes_ Try.func36 (by kernel_rfl) rfl #[.agg #[.int .i64 op, .int .i64 W, .int .i64 Kq, .int .i64 A, .int .i64 B, .int .i64 Cq]] (by rfl) rfl rfl (by simp only [List.map_toArray, List.map_cons, List.map_nil]; rfl) ?_
    with_reducible refine (impl_isQuant.calls _ _ _ _ _ _ true _ (by rw [isQuantI, HQ.out])).mono ?_
    rintro e w3 ⟨rfl, hb⟩
    refine ⟨_, rfl, ?_⟩
    have HB3 := am (show Below w.heap.size w w3 from Below.trans (by apply below_drew1; exact Below.refl _ _) (hb.mono (by simp)))
    clear hb
    refine hK.out _ _ ⟨(pw_cell_below HB3.out b1), (pw_cell_below HB3.out b2), (pw_cell_below HB3.out y0), (pw_cell_below HB3.out y1), (pw_cell_below HB3.out y2), (pw_cell_below HB3.out y3), (pw_cell_below HB3.out y4), (pw_cell_below HB3.out y5)⟩ (fun hHeld => ?_)
    clear hK K
    refine norm_ (a' := ?_) ?_ ?_
    rotate_left
    ·show Act.put _ (some 9) _ = _
     simp only [Act.put, List.setIfInBounds_toArray, List.set_cons_zero, List.set_cons_succ, i64_w, i32_w]
     rfl
    refine pS (i := 5) (N := some 10) zA6x28 ?_
    refine pS (i := 6) (N := some 11) zA7x28 ?_
    refine pS (i := 8) (N := some 13) zA8x28 ?_
    refine take_ (i := 7) (N := some 12) (v := ?_) (a' := ?_) zA9x28 rfl rfl (by kernel_rfl) (fun _ _ _ h => h) (Or.inl ⟨by rfl, ?_⟩) hHeld ?_ ?_
    rotate_left
    ·rintro w' ⟨s0, s1, s2, s3, s4, s5, s6, s7⟩
     go_simp
     with_reducible rfl
    rotate_left
    ·simp only [Act.put, List.setIfInBounds_toArray, List.set_cons_zero, List.set_cons_succ, i64_w, i32_w]
     rfl
    refine pS (i := 9) (N := some 14) zA10x28 ?_
    refine pS (i := 10) (N := some 15) zA11x28 ?_
    refine take_ (i := 11) (N := some 16) (v := ?_) (a' := ?_) zA12x28 rfl rfl (by kernel_rfl) (fun _ _ _ h => h) (Or.inl ⟨by rfl, ?_⟩) hHeld ?_ ?_
    rotate_left
    ·rintro w' ⟨s0, s1, s2, s3, s4, s5, s6, s7⟩
     go_simp
     with_reducible rfl
    rotate_left
    ·simp only [Act.put, List.setIfInBounds_toArray, List.set_cons_zero, List.set_cons_succ, i64_w, i32_w]
     rfl
    refine take_ (i := 12) (N := some 17) (v := ?_) (a' := ?_) zA13x28 rfl rfl (by kernel_rfl) (fun _ _ _ h => h) (Or.inl ⟨by rfl, ?_⟩) hHeld ?_ ?_
    rotate_left
    ·rintro w' ⟨s0, s1, s2, s3, s4, s5, s6, s7⟩
     go_simp
     with_reducible rfl
    rotate_left
    ·simp only [Act.put, List.setIfInBounds_toArray, List.set_cons_zero, List.set_cons_succ, i64_w, i32_w]
     rfl
    refine pS (i := 13) (N := some 18) zA14x28 ?_
    refine pS (i := 14) (N := some 19) zA15x28 ?_
    refine pS (i := 15) (N := some 4) zA16x28 ?_
    refine done_ (by kernel_rfl) ?_

    go_wp2
    go_ret
    exact ⟨by rw [← H.out] <;> rfl, HB3.out⟩
   | false =>
    go_enter Try.func55, Try.ntmps55
    go_wp2
    refine start_ (n := 16) (S := fun w' => w'.cell? ⟨g1, 0, none⟩ = some (.slice (some ad0) l0.length c0) ∧ w'.cell? ⟨g2, 0, none⟩ = some (.int .i64 v) ∧ w'.cell? (ad0.add (i.toNat * 6)) = some (.int .i64 op) ∧ w'.cell? ⟨(ad0.add (i.toNat * 6)).block, (ad0.add (i.toNat * 6)).off + 1, none⟩ = some (.int .i64 W) ∧ w'.cell? ⟨(ad0.add (i.toNat * 6)).block, (ad0.add (i.toNat * 6)).off + 2, none⟩ = some (.int .i64 Kq) ∧ w'.cell? ⟨(ad0.add (i.toNat * 6)).block, (ad0.add (i.toNat * 6)).off + 3, none⟩ = some (.int .i64 A) ∧ w'.cell? ⟨(ad0.add (i.toNat * 6)).block, (ad0.add (i.toNat * 6)).off + 4, none⟩ = some (.int .i64 B) ∧ w'.cell? ⟨(ad0.add (i.toNat * 6)).block, (ad0.add (i.toNat * 6)).off + 5, none⟩ = some (.int .i64 Cq)) (ds := []) zA0x28 (by kernel_rfl) rfl rfl ⟨b1, b2, y0, y1, y2, y3, y4, y5⟩ (fun hHeld => ?_)
    refine pS (i := 1) (N := some 6) zA1x28 ?_
    refine take_ (i := 0) (N := some 5) (v := ?_) (a' := ?_) zA2x28 rfl rfl (by kernel_rfl) (fun _ _ _ h => h) (Or.inl ⟨by rfl, ?_⟩) hHeld ?_ ?_
    rotate_left
    ·rintro w' ⟨s0, s1, s2, s3, s4, s5, s6, s7⟩
     go_simp
     with_reducible rfl
    rotate_left
    ·simp only [Act.put, List.setIfInBounds_toArray, List.set_cons_zero, List.set_cons_succ, i64_w, i32_w]
     rfl
    refine pS (i := 2) (N := some 7) zA3x28 ?_
    refine take_ (i := 3) (N := some 8) (v := ?_) (a' := ?_) zA4x28 rfl rfl (by kernel_rfl) (fun _ _ _ h => h) (Or.inl ⟨by rfl, ?_⟩) hHeld ?_ ?_
    rotate_left
    ·rintro w' ⟨s0, s1, s2, s3, s4, s5, s6, s7⟩
     go_simp
     with_reducible rfl
    rotate_left
    ·simp only [Act.put, List.setIfInBounds_toArray, List.set_cons_zero, List.set_cons_succ, i64_w, i32_w]
     rfl
    refine one_ (i := 4) (N := some 9) zA5x28 rfl rfl (by kernel_rfl) (by decide) (fun K hK => ?_)
    refine goes_ Try.func36 (by kernel_rfl) rfl #[.agg #[.int .i64 op, .int .i64 W, .int .i64 Kq, .int .i64 A, .int .i64 B, .int .i64 Cq]] (by rfl) rfl rfl (by simp only [List.map_toArray, List.map_cons, List.map_nil]; rfl) ?_
    with_reducible refine (impl_isQuant.calls _ _ _ _ _ _ false _ (by rw [isQuantI, HQ.out])).mono ?_
    rintro e w3 ⟨rfl, hb⟩
    refine ⟨_, rfl, ?_⟩
    have HB3 := am (show Below w.heap.size w w3 from Below.trans (by apply below_drew1; exact Below.refl _ _) (hb.mono (by simp)))
    clear hb
    refine hK.out _ _ ⟨(pw_cell_below HB3.out b1), (pw_cell_below HB3.out b2), (pw_cell_below HB3.out y0), (pw_cell_below HB3.out y1), (pw_cell_below HB3.out y2), (pw_cell_below HB3.out y3), (pw_cell_below HB3.out y4), (pw_cell_below HB3.out y5)⟩ (fun hHeld => ?_)
    clear hK K
    refine norm_ (a' := ?_) ?_ ?_
    rotate_left
    ·show Act.put _ (some 9) _ = _
     simp only [Act.put, List.setIfInBounds_toArray, List.set_cons_zero, List.set_cons_succ, i64_w, i32_w]
     rfl
    refine pS (i := 5) (N := some 10) zA6x28 ?_
    refine pS (i := 6) (N := some 11) zA7x28 ?_
    refine pure_ (i := 7) (N := some 12) (v := undef) (a' := ?_) zA17x28 rfl rfl (by kernel_rfl) (fun _ _ _ h => h) (Or.inr ⟨by rfl, rfl⟩) ?_ ?_
    rotate_left
    ·simp only [Act.put, List.setIfInBounds_toArray, List.set_cons_zero, List.set_cons_succ, i64_w, i32_w]
     rfl
    refine pure_ (i := 8) (N := some 13) (v := undef) (a' := ?_) zA9x28 rfl rfl (by kernel_rfl) (fun _ _ _ h => h) (Or.inr ⟨by rfl, rfl⟩) ?_ ?_
    rotate_left
    ·simp only [Act.put, List.setIfInBounds_toArray, List.set_cons_zero, List.set_cons_succ, i64_w, i32_w]
     rfl
    refine pure_ (i := 9) (N := some 14) (v := undef) (a' := ?_) zA10x28 rfl rfl (by kernel_rfl) (fun _ _ _ h => h) (Or.inr ⟨by rfl, rfl⟩) ?_ ?_
    rotate_left
    ·simp only [Act.put, List.setIfInBounds_toArray, List.set_cons_zero, List.set_cons_succ, i64_w, i32_w]
     rfl
    refine pure_ (i := 10) (N := some 15) (v := undef) (a' := ?_) zA11x28 rfl rfl (by kernel_rfl) (fun _ _ _ h => h) (Or.inr ⟨by rfl, rfl⟩) ?_ ?_
    rotate_left
    ·simp only [Act.put, List.setIfInBounds_toArray, List.set_cons_zero, List.set_cons_succ, i64_w, i32_w]
     rfl
    refine pure_ (i := 11) (N := some 16) (v := undef) (a' := ?_) zA12x28 rfl rfl (by kernel_rfl) (fun _ _ _ h => h) (Or.inr ⟨by rfl, rfl⟩) ?_ ?_
    rotate_left
    ·simp only [Act.put, List.setIfInBounds_toArray, List.set_cons_zero, List.set_cons_succ, i64_w, i32_w]
     rfl
    refine pure_ (i := 12) (N := some 17) (v := undef) (a' := ?_) zA13x28 rfl rfl (by kernel_rfl) (fun _ _ _ h => h) (Or.inr ⟨by rfl, rfl⟩) ?_ ?_
    rotate_left
    ·simp only [Act.put, List.setIfInBounds_toArray, List.set_cons_zero, List.set_cons_succ, i64_w, i32_w]
     rfl
    refine pure_ (i := 13) (N := some 18) (v := undef) (a' := ?_) zA14x28 rfl rfl (by kernel_rfl) (fun _ _ _ h => h) (Or.inr ⟨by rfl, rfl⟩) ?_ ?_
    rotate_left
    ·simp only [Act.put, List.setIfInBounds_toArray, List.set_cons_zero, List.set_cons_succ, i64_w, i32_w]
     rfl
    refine pS (i := 14) (N := some 19) zA15x28 ?_
    refine pS (i := 15) (N := some 4) zA16x28 ?_
    refine done_ (by kernel_rfl) ?_

    go_wp2
    go_ret
    exact ⟨by rw [← H.out] <;> rfl, HB3.out⟩
  ·rw [if_neg p2] at h; exact absurd h (by simp)
 ·rw [if_neg p1] at h; exact absurd h (by simp)
/-! ### impl_freeAt: by hand -/
def impl_freeAt.f (k : Nat) (l0 : List (S39)) (a1 : Int) : Option (List Bool) := impl_reach.f (impl_freeAt_1.f l0 a1) k l0 (wrap64 ((l0.length : Int) - 1))
set_option maxHeartbeats 2000000 in
set_option maxRecDepth 100000 in
theorem impl_freeAt.calls (k : Nat) (A0 : Option Addr) (c0 : Nat) (l0 : List (S39)) (a1 : Int) (r : List Bool) (w : World) (hr0 : Kd.C k39 w A0 l0.length l0) (hc0 : l0.length ≤ c0) (h : impl_freeAt.f k l0 a1 = some r) :
  Calls Try.prog 46 #[.slice A0 l0.length c0, .int .i64 a1] w fun e w' => ∃ v0_ : Value, e = .returned (v0_) ∧ Kd.R Kd.bool 4 w' w.heap.size (fun _ => True) v0_ r ∧ Below w.heap.size w w' := by
 have HR0 := am hr0
 have HC0 := am hc0
 have H := am h
 clear hr0 hc0 h
 have hmf : ∀ (fn : Fn) (first cap : Array Value) (w : World), (Instr.makeFunc fn first cap).run Try.prog w = .ok (.func fn first cap) w := fun _ _ _ _ => rfl
 go_enter Try.func46, Try.ntmps46
 go_wp2_with fail
 have hb0 : Below w.heap.size w ((w.alloc (Obj.cells #[Value.slice A0 l0.length c0] 26)).alloc (Obj.cells #[Value.int IntKind.i64 a1] 3)) := below_alloc (below_alloc (Below.refl _ _) _) _
 have h1 : ((w.alloc (Obj.cells #[Value.slice A0 l0.length c0] 26)).alloc (Obj.cells #[Value.int IntKind.i64 a1] 3)).heap[w.heap.size]? = some (Obj.cells #[Value.slice A0 l0.length c0] 26) := blk_alloc (heap_alloc_new w _) _
 have h2 : ((w.alloc (Obj.cells #[Value.slice A0 l0.length c0] 26)).alloc (Obj.cells #[Value.int IntKind.i64 a1] 3)).heap[w.heap.size + 1]? = some (Obj.cells #[Value.int IntKind.i64 a1] 3) := by
  have := heap_alloc_new (w.alloc (Obj.cells #[Value.slice A0 l0.length c0] 26)) (Obj.cells #[Value.int IntKind.i64 a1] 3)
  rwa [show (w.alloc (Obj.cells #[Value.slice A0 l0.length c0] 26)).heap.size = w.heap.size + 1 from by simp] at this
 have hC := Kd.C_alloc (Kd.C_alloc HR0.out (Obj.cells #[Value.slice A0 l0.length c0] 26)) (Obj.cells #[Value.int IntKind.i64 a1] 3)
 refine (impl_reach.calls 55 #[.pointer (some ⟨w.heap.size, 0, none⟩), .pointer (some ⟨w.heap.size + 1, 0, none⟩)] (impl_freeAt_1.f l0 a1) k A0 c0 l0 (wrap64 ((l0.length : Int) - 1)) r _ hC HC0.out (fun _ _ => rfl) ?hp H.out).mono ?_
 case hp =>
  intro W i b hW hb
  exact impl_freeAt_1.calls A0 c0 l0 a1 i b w.heap.size (w.heap.size + 1) W (Kd.C_below hC hW) HC0.out ((blk_cell (blk_below h1 hW) 0).trans rfl) ((blk_cell (blk_below h2 hW) 0).trans rfl) hb
 rintro e w' ⟨v0, rfl, HO, hb⟩
 have HO2 := am (Kd.R_lower HO (below_size hb0))
 have HB2 := am (hb0.trans (hb.mono (below_size hb0)))
 clear HO hb h1 h2 hC hb0
 go_wp2
 go_ret
 exact ⟨v0, rfl, HO2.out, HB2.out⟩
end Go.Proofs.Ytjjjbifbibabgaa.PAll
