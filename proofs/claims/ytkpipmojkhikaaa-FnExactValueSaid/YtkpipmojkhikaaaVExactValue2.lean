/- Written by a program of this session over the loaded program, and by hand: Go functions as plain Lean functions, and that a call comes to what they say. -/
import Derived.Test.YtkpipmojkhikaaaVExactValue0
import Derived.Test.YtkpipmojkhikaaaVExactValue1
import Derived.Test.YtkpipmojkhikaaaBase
import Derived.Test.YtkpipmojkhikaaaSq
namespace Go.Proofs.Ytkpipmojkhikaaa.PAll
open Go.RowKit Go.Proofs.YtkpipmojkhikaaaW.PrintWords Go.Proofs.YtkpipmojkhikaaaW.PrintLast Go.Proofs.YtkpipmojkhikaaaW.PrintMore Go.Proofs.YtkpipmojkhikaaaW.Sq
attribute [local go_sem] max2_int min2_int max_two min_two max_three min_three max_four min_four   -- for this text's walks alone
set_option linter.unusedVariables false
set_option linter.unusedSimpArgs false

/-! ### impl_suits: by hand -/
/-- The inner loop on the nodes where variable v is met free. -/
def suitsA (l0 : List (S31)) (met : List Bool) (v x : Int) : Nat → Nat → Option Bool
  | 0, _ => some true
  | m + 1, i => if (met.getD i false && (rd_T31 l0 (i : Int)).f0 == 1 && (rd_T31 l0 (i : Int)).f2 == v) = true then (impl_WordOk.f (rd_T31 l0 (i : Int)).f1 x).bind fun b => if b = true then suitsA l0 met v x m (i + 1) else some false else suitsA l0 met v x m (i + 1)
def suitsV (k : Nat) (l0 : List (S31)) (l1 : List Int) : Nat → Nat → Option Bool
  | 0, _ => some true
  | m + 1, v => if v < l1.length then (impl_freeAt.f k l0 (v : Int)).bind fun met => (if met.length = l0.length then (suitsA l0 met (v : Int) (rd l1 (v : Int)) l0.length 0).bind fun b => (if b = true then suitsV k l0 l1 m (v + 1) else some false) else none) else none
/-- The inner loop on the nodes below a quantifier. -/
def suitsQ (l0 : List (S31)) (met : List Bool) (Kq B : Int) : Nat → Nat → Bool
  | 0, _ => true
  | m + 1, i => if (met.getD i false && (rd_T31 l0 (i : Int)).f0 == 1 && (rd_T31 l0 (i : Int)).f2 == Kq && (rd_T31 l0 (i : Int)).f1 != B) = true then false else suitsQ l0 met Kq B m (i + 1)
def suitsR (k : Nat) (l0 : List (S31)) (rch : List Bool) : Nat → Nat → Option Bool
  | 0, _ => some true
  | m + 1, i => if (rch.getD i false && ((rd_T31 l0 (i : Int)).f0 == 19 || (rd_T31 l0 (i : Int)).f0 == 20)) = true then (impl_reach.f (impl_suits_1.f l0 (rd_T31 l0 (i : Int)).f2) k l0 (rd_T31 l0 (i : Int)).f3).bind fun met => (if met.length = l0.length then (if suitsQ l0 met (rd_T31 l0 (i : Int)).f2 (rd_T31 l0 (i : Int)).f4 l0.length 0 = true then suitsR k l0 rch m (i + 1) else some false) else none) else suitsR k l0 rch m (i + 1)
def impl_suits.f (k : Nat) (l0 : List (S31)) (l1 : List Int) : Option Bool :=
  if l0.length ≤ 1048576 then (suitsV k l0 l1 8 0).bind fun b => (if b = true then (impl_reached.f k l0).bind fun rch => (if rch.length = l0.length then suitsR k l0 rch l0.length 0 else none) else some false) else none
set_option maxHeartbeats 4000000 in
set_option maxRecDepth 100000 in
theorem impl_suits.calls (k : Nat) (A0 : Option Addr) (c0 : Nat) (l0 : List (S31)) (A1 : Option Addr) (c1 : Nat) (l1 : List Int) (r : Bool) (w : World) (hr0 : Kd.C k31 w A0 l0.length l0) (hc0 : l0.length ≤ c0) (hr1 : Kd.C (Kd.int .i64) w A1 l1.length l1) (hc1 : l1.length ≤ c1) (h : impl_suits.f k l0 l1 = some r) :
    Calls Try.prog 45 #[.slice A0 l0.length c0, .slice A1 l1.length c1] w fun e w' => e = .returned (.bool r) ∧ Below w.heap.size w w' := by
  unfold impl_suits.f at h
  by_cases hm : l0.length ≤ 1048576
  · rw [if_pos hm] at h
    have HR0 := am hr0; have HC0 := am hc0; have HR1 := am hr1; have HC1 := am hc1; have HM := am hm; have HH := am h
    clear hr0 hc0 hr1 hc1 hm h
    go_enter Try.func45, Try.ntmps45
    go_wp2_with fail
    have BT := am (heap_alloc_new w (Obj.cells #[Value.slice A0 l0.length c0] 24))
    have HB := am (below_alloc (Below.refl w.heap.size w) (Obj.cells #[Value.slice A0 l0.length c0] 24))
    generalize w.alloc (Obj.cells #[Value.slice A0 l0.length c0] 24) = wA at *
    obtain ⟨b1, hb1, h⟩ := oB HH.out
    have HV := am hb1; have HH := am h
    clear hb1 h
    go_loopg [5, 6, 7, 8, 15] 8 (fun gk v5 v6 v7 v8 v15 w' => ∃ v : Nat, v15 = .int .i64 (v : Int) ∧ Aside0 (gk + v = 8) ∧ Aside0 (suitsV k l0 l1 gk v = some b1) ∧ Aside0 (w'.heap[w.heap.size]? = some (.cells #[.slice A0 l0.length c0] 24 (0, 0))) ∧ Aside0 (Below w.heap.size w w'))
    case atStart => exact ⟨0, rfl, ⟨rfl⟩, HV, BT, HB⟩
    case round =>
      obtain ⟨v, rfl, HG, HV, BT, HB⟩ := hrel
      have x0 : wr.cell? ⟨w.heap.size, 0, none⟩ = some (.slice A0 l0.length c0) := (blk_cell BT.out 0).trans rfl
      by_cases hv : v < 8
      · have t1 : decide ((v : Int) < 8) = true := decide_eq_true (by omega)
        obtain ⟨g1, rfl⟩ : ∃ g1, gk = g1 + 1 := ⟨gk - 1, by have := HG.out; omega⟩
        have hh := HV.out
        unfold suitsV at hh
        by_cases hv1 : v < l1.length
        · rw [if_pos hv1] at hh
          obtain ⟨met, hmet, hh⟩ := oB hh
          by_cases hml : met.length = l0.length
          · rw [if_pos hml] at hh
            obtain ⟨b2, hA, hh⟩ := oB hh
            have HMT := am hmet; have HML := am hml; have HA := am hA; have HN := am hh; have HV1 := am hv1
            clear hmet hml hA hh hv1 HV
            go_wp2_with fail
            refine (impl_freeAt.calls k A0 c0 l0 (v : Int) met wr (Kd.C_below HR0.out HB.out) HC0.out HMT.out).mono ?_
            rintro e w2 ⟨v0, rfl, HO, hb⟩
            obtain ⟨Am, cm, rfl, hmc, hMC⟩ := Kd.R_reads HO
            have HB := am (HB.out.trans (hb.mono HB.out.size)); have BT := am (blk_below BT.out hb); have MC := am hMC
            clear hb HO hMC hmc x0
            have x0 : w2.cell? ⟨w.heap.size, 0, none⟩ = some (.slice A0 l0.length c0) := (blk_cell BT.out 0).trans rfl
            go_wp2_with fail
            clear x0
            go_loopg [7, 8, 23] l0.length (fun gj u7 u8 u23 w' => ∃ i : Nat, u23 = .int .i64 (i : Int) ∧ Aside0 (gj + i = l0.length) ∧ Aside0 (suitsA l0 met (v : Int) (rd l1 (v : Int)) gj i = some b2) ∧ Aside0 (w'.heap[w.heap.size]? = some (.cells #[.slice A0 l0.length c0] 24 (0, 0))) ∧ Aside0 (Kd.C Kd.bool w' Am met.length met) ∧ Aside0 (Below w.heap.size w w'))
            case atStart => exact ⟨0, rfl, ⟨rfl⟩, HA, BT, MC, HB⟩
            case round =>
              obtain ⟨i, rfl, HJ, HA, BT, MC, HB⟩ := hrel
              by_cases hi : i < l0.length
              · have p1 : (0 : Int) ≤ (i : Int) := by omega
                have p2 : (i : Int) < (l0.length : Int) := by omega
                have t2 : decide ((i : Int) < (l0.length : Int)) = true := decide_eq_true p2
                obtain ⟨ad0, e0, y0, y1, y2, y3, y4, y5⟩ := at_T31 (Kd.C_below HR0.out HB.out) (i : Int) p1 p2
                rw [Int.toNat_natCast] at y0 y1 y2 y3 y4 y5
                have hml := HML.out
                obtain ⟨adm, em, hm1⟩ := Kd.at_bool MC.out (i : Int) p1 (by omega)
                rw [Int.toNat_natCast, show rdOf false met (i : Int) = met.getD i false from rfl] at hm1
                obtain ⟨ade, ee, he1⟩ := Kd.at_int (Kd.C_below HR1.out HB.out) (v : Int) (by omega) (by have := HV1.out; omega)
                rw [Int.toNat_natCast] at he1
                subst e0
                subst em
                subst ee
                obtain ⟨⟨op, W, Kq, A, B, C⟩, hnd⟩ : ∃ n, rd_T31 l0 (i : Int) = n := ⟨_, rfl⟩
                obtain ⟨mb, hmb⟩ : ∃ mb, met.getD i false = mb := ⟨_, rfl⟩
                obtain ⟨g2, rfl⟩ : ∃ g2, gk = g2 + 1 := ⟨gk - 1, by have := HJ.out; omega⟩
                have hh := HA.out
                unfold suitsA at hh
                rw [hnd, hmb] at hh
                rw [hnd] at y0 y1 y2 y3 y4 y5
                rw [hmb] at hm1
                simp only [] at y0 y1 y2 y3 y4 y5 hh
                have HN2 := am hh
                have t3 : decide ((i : Int) < (met.length : Int)) = true := decide_eq_true (by omega)
                have t4 : decide ((v : Int) < (l1.length : Int)) = true := decide_eq_true (by have := HV1.out; omega)
                have t4p := HV1.out
                have t3p : i < met.length := by omega
                clear hml
                have BN := am (heap_alloc_new wr (Obj.cells #[Value.int .i64 op, Value.int .i64 W, Value.int .i64 Kq, Value.int .i64 A, Value.int .i64 B, Value.int .i64 C] 31))
                have hA2 := below_alloc (Below.refl wr.heap.size wr) (Obj.cells #[Value.int .i64 op, Value.int .i64 W, Value.int .i64 Kq, Value.int .i64 A, Value.int .i64 B, Value.int .i64 C] 31)
                have hm2 := pw_cell_below hA2 hm1
                have he2 := pw_cell_below hA2 he1
                have BT := am (blk_below BT.out hA2); have MC := am (Kd.C_below MC.out hA2); have HB := am (HB.out.trans (hA2.mono HB.out.size))
                clear hnd hmb hh HA hA2 hm1 he1
                go_wp2_with fail
                clear y0 y1 y2 y3 y4 y5
                generalize wr.alloc (Obj.cells #[Value.int .i64 op, Value.int .i64 W, Value.int .i64 Kq, Value.int .i64 A, Value.int .i64 B, Value.int .i64 C] 31) = wN at *
                obtain ⟨q0, q1, q2, q3, q4, q5⟩ := cz6q BN.out
                cases mb with
                | false =>
                  have hn := HN2.out
                  rw [if_neg (by simp)] at hn
                  have HN3 := am hn
                  clear hn
                  go_quiet (fail)
                  go_wp2_with fail
                  go_roundg g2
                  case measure => omega
                  case rel => exact ⟨i + 1, by rw [show wrap64 ((i : Int) + 1) = ((i + 1 : Nat) : Int) by have := HM.out; unfold wrap64; omega], ⟨by have := HJ.out; omega⟩, HN3, ⟨BT.out⟩, ⟨by exact MC.out⟩, ⟨by exact pw_below_drewN HB.out _⟩⟩
                | true =>
                  by_cases o1 : op = 1
                  · have t5 : (op == 1) = true := beq_iff_eq.mpr o1
                    by_cases k1 : Kq = (v : Int)
                    · have t6 : (Kq == (v : Int)) = true := beq_iff_eq.mpr k1
                      have hn := HN2.out
                      rw [if_pos (by rw [t5, t6]; rfl)] at hn
                      obtain ⟨b3, hw, hn⟩ := oB hn
                      have HW := am hw; have HN3 := am hn; have K1 := am k1
                      clear hw hn o1 k1
                      cases b3 with
                      | true =>
                        have hn := HN3.out
                        rw [if_pos rfl] at hn
                        have HN3 := am hn
                        clear hn
                        go_quiet ((go_at_call 54; (with_reducible refine (impl_WordOk.calls W (rd l1 (v : Int)) true _ HW.out).mono ?_); rintro e w' ⟨rfl, ⟨nd, rfl⟩⟩; exact ⟨rfl, _, World.drewN_drewN _ _ _⟩))
                        go_wp2_with fail
                        go_roundg g2
                        case measure => omega
                        case rel => exact ⟨i + 1, by rw [show wrap64 ((i : Int) + 1) = ((i + 1 : Nat) : Int) by have := HM.out; unfold wrap64; omega], ⟨by have := HJ.out; omega⟩, HN3, ⟨BT.out⟩, ⟨by exact MC.out⟩, ⟨by exact pw_below_drewN HB.out _⟩⟩
                      | false =>
                        have hn := HN3.out
                        rw [if_neg (by decide)] at hn
                        obtain rfl := oI hn
                        clear hn
                        go_quiet ((go_at_call 54; (with_reducible refine (impl_WordOk.calls W (rd l1 (v : Int)) false _ HW.out).mono ?_); rintro e w' ⟨rfl, ⟨nd, rfl⟩⟩; exact ⟨rfl, _, World.drewN_drewN _ _ _⟩))
                        go_wp2_with fail
                        have h1 := HN.out
                        rw [if_neg (by decide)] at h1
                        obtain rfl := oI h1
                        have h2 := HH.out
                        rw [if_neg (by decide)] at h2
                        obtain rfl := oI h2
                        go_ret
                        exact ⟨rfl, by exact pw_below_drewN HB.out _⟩
                    · have t6 : (Kq == (v : Int)) = false := beq_eq_false_iff_ne.mpr k1
                      have hn := HN2.out
                      rw [if_neg (by rw [t6]; simp)] at hn
                      have HN3 := am hn
                      clear hn o1 k1
                      go_quiet (fail)
                      go_wp2_with fail
                      go_roundg g2
                      case measure => omega
                      case rel => exact ⟨i + 1, by rw [show wrap64 ((i : Int) + 1) = ((i + 1 : Nat) : Int) by have := HM.out; unfold wrap64; omega], ⟨by have := HJ.out; omega⟩, HN3, ⟨BT.out⟩, ⟨by exact MC.out⟩, ⟨by exact pw_below_drewN HB.out _⟩⟩
                  · have t5 : (op == 1) = false := beq_eq_false_iff_ne.mpr o1
                    have hn := HN2.out
                    rw [if_neg (by rw [t5]; simp)] at hn
                    have HN3 := am hn
                    clear hn o1
                    go_quiet (fail)
                    go_wp2_with fail
                    go_roundg g2
                    case measure => omega
                    case rel => exact ⟨i + 1, by rw [show wrap64 ((i : Int) + 1) = ((i + 1 : Nat) : Int) by have := HM.out; unfold wrap64; omega], ⟨by have := HJ.out; omega⟩, HN3, ⟨BT.out⟩, ⟨by exact MC.out⟩, ⟨by exact pw_below_drewN HB.out _⟩⟩
              · obtain rfl : i = l0.length := by have := HJ.out; omega
                have hgk : gk = 0 := by have := HJ.out; omega
                subst hgk
                have t2 : decide ((l0.length : Int) < (l0.length : Int)) = false := decide_eq_false (by omega)
                have hh := HA.out
                unfold suitsA at hh
                obtain rfl := oI hh
                have h1 := HN.out
                rw [if_pos rfl] at h1
                have HN3 := am h1
                clear hh h1 HA HN
                go_wp2_with fail
                go_roundg g1
                case measure => omega
                case rel => exact ⟨v + 1, by go_num, ⟨by have := HG.out; omega⟩, HN3, BT, HB⟩
          · rw [if_neg hml] at hh
            exact absurd hh (by simp)
        · rw [if_neg hv1] at hh
          exact absurd hh (by simp)
      · obtain rfl : v = 8 := by have := HG.out; omega
        have hgk : gk = 0 := by have := HG.out; omega
        subst hgk
        have t1 : decide (((8 : Nat) : Int) < 8) = false := by decide
        have hh := HV.out
        unfold suitsV at hh
        obtain rfl := oI hh
        clear hh HV
        have h2 := HH.out
        rw [if_pos rfl] at h2
        obtain ⟨rch, hrc, h2⟩ := oB h2
        by_cases hrl : rch.length = l0.length
        · rw [if_pos hrl] at h2
          have HRC := am hrc; have HRL := am hrl; have HH3 := am h2
          clear hrc hrl h2
          go_wp2_with fail
          refine (impl_reached.calls k A0 c0 l0 rch wr (Kd.C_below HR0.out HB.out) HC0.out HRC.out).mono ?_
          rintro e w2 ⟨v0, rfl, HO, hb⟩
          obtain ⟨Am, cm, rfl, hmc, hMC⟩ := Kd.R_reads HO
          have HB := am (HB.out.trans (hb.mono HB.out.size)); have BT := am (blk_below BT.out hb); have MC := am hMC
          clear hb HO hMC hmc x0
          go_wp2_with fail
          go_loopg [9, 10, 11, 12, 13, 14, 58] rch.length (fun gk u9 u10 u11 u12 u13 u14 u58 w' => ∃ i : Nat, u58 = .int .i64 (i : Int) ∧ Aside0 (gk + i = l0.length) ∧ Aside0 (suitsR k l0 rch gk i = some r) ∧ Aside0 (w'.heap[w.heap.size]? = some (.cells #[.slice A0 l0.length c0] 24 (0, 0))) ∧ Aside0 (Kd.C Kd.bool w' Am rch.length rch) ∧ Aside0 (Below w.heap.size w w'))
          case atStart => exact ⟨0, rfl, ⟨by have := HRL.out; omega⟩, by rw [HRL.out]; exact HH3, BT, MC, HB⟩
          case round =>
            obtain ⟨i, rfl, HJ, HR, BT, MC, HB⟩ := hrel
            by_cases hi : i < l0.length
            · have p1 : (0 : Int) ≤ (i : Int) := by omega
              have p2 : (i : Int) < (l0.length : Int) := by omega
              have t2 : decide ((i : Int) < (rch.length : Int)) = true := decide_eq_true (by have := HRL.out; omega)
              have t2p : i < rch.length := by have := HRL.out; omega
              have t3 : decide ((i : Int) < (l0.length : Int)) = true := decide_eq_true p2
              obtain ⟨ad0, e0, y0, y1, y2, y3, y4, y5⟩ := at_T31 (Kd.C_below HR0.out HB.out) (i : Int) p1 p2
              rw [Int.toNat_natCast] at y0 y1 y2 y3 y4 y5
              obtain ⟨adm, em, hm1⟩ := Kd.at_bool MC.out (i : Int) p1 (by have := HRL.out; omega)
              rw [Int.toNat_natCast, show rdOf false rch (i : Int) = rch.getD i false from rfl] at hm1
              subst e0
              subst em
              have x0 : wr.cell? ⟨w.heap.size, 0, none⟩ = some (.slice (some ad0) l0.length c0) := (blk_cell BT.out 0).trans rfl
              obtain ⟨⟨op, W, Kq, A, B, C⟩, hnd⟩ : ∃ n, rd_T31 l0 (i : Int) = n := ⟨_, rfl⟩
              obtain ⟨mb, hmb⟩ : ∃ mb, rch.getD i false = mb := ⟨_, rfl⟩
              obtain ⟨g2, rfl⟩ : ∃ g2, gk = g2 + 1 := ⟨gk - 1, by have := HJ.out; omega⟩
              have hh := HR.out
              unfold suitsR at hh
              rw [hnd, hmb] at hh
              rw [hnd] at y0 y1 y2 y3 y4 y5
              rw [hmb] at hm1
              simp only [] at y0 y1 y2 y3 y4 y5 hh
              have HN2 := am hh
              clear hnd hmb hh HR
              have BN := am (heap_alloc_new wr (Obj.cells #[Value.int .i64 op, Value.int .i64 W, Value.int .i64 Kq, Value.int .i64 A, Value.int .i64 B, Value.int .i64 C] 31))
              have hA2 := below_alloc (Below.refl wr.heap.size wr) (Obj.cells #[Value.int .i64 op, Value.int .i64 W, Value.int .i64 Kq, Value.int .i64 A, Value.int .i64 B, Value.int .i64 C] 31)
              have BT := am (blk_below BT.out hA2); have MC := am (Kd.C_below MC.out hA2); have HB := am (HB.out.trans (hA2.mono HB.out.size))
              clear hA2
              cases mb with
              | false =>
                have hn := HN2.out
                rw [if_neg (by simp)] at hn
                have HN3 := am hn
                clear hn
                go_wp2_with fail
                go_roundg g2
                case measure => omega
                case rel => exact ⟨i + 1, by rw [show wrap64 ((i : Int) + 1) = ((i + 1 : Nat) : Int) by have := HM.out; unfold wrap64; omega], ⟨by have := HJ.out; omega⟩, HN3, BT, MC, HB⟩
              | true =>
                obtain ⟨q0, q1, q2, q3, q4, q5⟩ := cz6q BN.out
                cases hq : (op == 19 || op == 20) with
                | false =>
                  have hn := HN2.out
                  rw [hq, if_neg (by simp)] at hn
                  have HN3 := am hn; have HQ := am hq
                  clear hn hq
                  go_wp2_with fail
                  refine (impl_isQuant.calls _ _ _ _ _ _ false _ (by rw [isQuantI, HQ.out])).mono ?_
                  rintro e w3 ⟨rfl, hb⟩
                  have BT := am (blk_below BT.out hb); have MC := am (Kd.C_below MC.out hb); have HB := am (HB.out.trans (hb.mono HB.out.size))
                  clear hb
                  go_wp2_with fail
                  go_roundg g2
                  case measure => omega
                  case rel => exact ⟨i + 1, by rw [show wrap64 ((i : Int) + 1) = ((i + 1 : Nat) : Int) by have := HM.out; unfold wrap64; omega], ⟨by have := HJ.out; omega⟩, HN3, BT, MC, HB⟩
                | true =>
                  have hn := HN2.out
                  rw [hq, if_pos (show (true && true) = true from rfl)] at hn
                  obtain ⟨met, hmt, hn⟩ := oB hn
                  have HQ := am hq; have HMT := am hmt; have HN3 := am hn
                  clear hn hq hmt
                  have hmf : ∀ (fn : Fn) (first cap : Array Value) (w : World), (Instr.makeFunc fn first cap).run Try.prog w = .ok (.func fn first cap) w := fun _ _ _ _ => rfl
                  go_wp2_with fail
                  refine (impl_isQuant.calls _ _ _ _ _ _ true _ (by rw [isQuantI, HQ.out])).mono ?_
                  rintro e w3 ⟨rfl, hb⟩
                  have BT := am (blk_below BT.out hb); have BN := am (blk_below BN.out hb); have MC := am (Kd.C_below MC.out hb); have HB := am (HB.out.trans (hb.mono HB.out.size))
                  clear hb q0 q1 q2 q3 q4 q5 x0
                  obtain ⟨q0, q1, q2, q3, q4, q5⟩ := cz6q BN.out
                  have x0 : w3.cell? ⟨w.heap.size, 0, none⟩ = some (.slice (some ad0) l0.length c0) := (blk_cell BT.out 0).trans rfl
                  go_wp2_with fail
                  refine (impl_reach.calls 77 #[.pointer (some ⟨w.heap.size, 0, none⟩), .pointer (some ⟨wr.heap.size, 0, none⟩)] (impl_suits_1.f l0 Kq) k (some ad0) c0 l0 A met w3 (Kd.C_below HR0.out HB.out) HC0.out (fun _ _ => rfl) ?hp HMT.out).mono ?_
                  case hp =>
                    intro W2 i2 b2 hW hb2
                    exact impl_suits_1.calls (some ad0) c0 l0 Kq i2 b2 w.heap.size wr.heap.size W2 (Kd.C_below (Kd.C_below HR0.out HB.out) hW) HC0.out ((blk_cell (blk_below BT.out hW) 0).trans rfl) ((blk_cell (blk_below BN.out hW) 2).trans rfl) hb2
                  rintro e w4 ⟨v0, rfl, HO, hb⟩
                  obtain ⟨A2, c2, rfl, hmc2, hMC2⟩ := Kd.R_reads HO
                  have BT := am (blk_below BT.out hb); have BN := am (blk_below BN.out hb); have MC := am (Kd.C_below MC.out hb); have M2 := am hMC2; have HB := am (HB.out.trans (hb.mono HB.out.size))
                  clear hb HO hMC2 hmc2 q0 q1 q2 q3 q4 q5 x0
                  by_cases hml2 : met.length = l0.length
                  · have hn := HN3.out
                    rw [if_pos hml2] at hn
                    obtain ⟨b3, hb3⟩ : ∃ b3, suitsQ l0 met Kq B l0.length 0 = b3 := ⟨_, rfl⟩
                    rw [hb3] at hn
                    have HN4 := am hn; have HB3 := am hb3; have HML2 := am hml2
                    clear hn hb3 hml2 HN3 HMT y0 y1 y2 y3 y4 y5 hm1
                    have x0 : w4.cell? ⟨w.heap.size, 0, none⟩ = some (.slice (some ad0) l0.length c0) := (blk_cell BT.out 0).trans rfl
                    go_wp2_with fail
                    clear x0
                    go_loopg [13, 14, 81] l0.length (fun gj u13 u14 u81 w' => ∃ j : Nat, u81 = .int .i64 (j : Int) ∧ Aside0 (gj + j = l0.length) ∧ Aside0 (suitsQ l0 met Kq B gj j = b3) ∧ Aside0 (w'.heap[w.heap.size]? = some (.cells #[.slice (some ad0) l0.length c0] 24 (0, 0))) ∧ Aside0 (w'.heap[wr.heap.size]? = some (.cells #[Value.int .i64 op, Value.int .i64 W, Value.int .i64 Kq, Value.int .i64 A, Value.int .i64 B, Value.int .i64 C] 31 (0, 0))) ∧ Aside0 (Kd.C Kd.bool w' (some adm) rch.length rch) ∧ Aside0 (Kd.C Kd.bool w' A2 met.length met) ∧ Aside0 (Below w.heap.size w w'))
                    case atStart => exact ⟨0, rfl, ⟨rfl⟩, HB3, BT, BN, MC, M2, HB⟩
                    case round =>
                      obtain ⟨j, rfl, HJ2, HQ2, BT, BN, MC, M2, HB⟩ := hrel
                      by_cases hj : j < l0.length
                      · have q1_ : (0 : Int) ≤ (j : Int) := by omega
                        have q2_ : (j : Int) < (l0.length : Int) := by omega
                        have t9 : decide ((j : Int) < (l0.length : Int)) = true := decide_eq_true q2_
                        obtain ⟨ad1, e1, y0, y1, y2, y3, y4, y5⟩ := at_T31 (Kd.C_below HR0.out HB.out) (j : Int) q1_ q2_
                        rw [Int.toNat_natCast] at y0 y1 y2 y3 y4 y5
                        obtain rfl := oI e1
                        have hml := HML2.out
                        obtain ⟨adn, em, hm1⟩ := Kd.at_bool M2.out (j : Int) q1_ (by omega)
                        rw [Int.toNat_natCast, show rdOf false met (j : Int) = met.getD j false from rfl] at hm1
                        subst em
                        obtain ⟨⟨op2, W2, K2, A2_, B2, C2⟩, hnd⟩ : ∃ n, rd_T31 l0 (j : Int) = n := ⟨_, rfl⟩
                        obtain ⟨mb2, hmb⟩ : ∃ mb, met.getD j false = mb := ⟨_, rfl⟩
                        obtain ⟨g3, rfl⟩ : ∃ g3, gk = g3 + 1 := ⟨gk - 1, by have := HJ2.out; omega⟩
                        have hh := HQ2.out
                        unfold suitsQ at hh
                        rw [hnd, hmb] at hh
                        rw [hnd] at y0 y1 y2 y3 y4 y5
                        rw [hmb] at hm1
                        simp only [] at y0 y1 y2 y3 y4 y5 hh
                        have HN5 := am hh
                        have t10 : decide ((j : Int) < (met.length : Int)) = true := decide_eq_true (by omega)
                        have t10p : j < met.length := by omega
                        clear hml e1
                        have BM := am (heap_alloc_new wr (Obj.cells #[Value.int .i64 op2, Value.int .i64 W2, Value.int .i64 K2, Value.int .i64 A2_, Value.int .i64 B2, Value.int .i64 C2] 31))
                        have hA2 := below_alloc (Below.refl wr.heap.size wr) (Obj.cells #[Value.int .i64 op2, Value.int .i64 W2, Value.int .i64 K2, Value.int .i64 A2_, Value.int .i64 B2, Value.int .i64 C2] 31)
                        have hm2 := pw_cell_below hA2 hm1
                        have BT := am (blk_below BT.out hA2); have BN := am (blk_below BN.out hA2); have MC := am (Kd.C_below MC.out hA2); have M2 := am (Kd.C_below M2.out hA2); have HB := am (HB.out.trans (hA2.mono HB.out.size))
                        clear hnd hmb hh HQ2 hA2 hm1
                        obtain ⟨q0, q1, q2, q3, q4, q5⟩ := cz6q BM.out
                        obtain ⟨z0, z1, z2, z3, z4, z5⟩ := cz6q BN.out
                        cases mb2 with
                        | false =>
                          have hn := HN5.out
                          rw [if_neg (by simp)] at hn
                          have HN6 := am hn
                          clear hn HN5
                          go_wp2_with fail
                          go_roundg g3
                          case measure => omega
                          case rel => exact ⟨j + 1, by rw [show wrap64 ((j : Int) + 1) = ((j + 1 : Nat) : Int) by have := HM.out; unfold wrap64; omega], ⟨by have := HJ2.out; omega⟩, HN6, BT, BN, MC, M2, HB⟩
                        | true =>
                          by_cases o1 : op2 = 1
                          · have t5 : (op2 == 1) = true := beq_iff_eq.mpr o1
                            by_cases k1 : K2 = Kq
                            · have t6 : (K2 == Kq) = true := beq_iff_eq.mpr k1
                              by_cases w1 : W2 = B
                              · have t7 : (W2 != B) = false := by rw [w1]; simp
                                have hn := HN5.out
                                rw [if_neg (by rw [t7]; simp)] at hn
                                have HN6 := am hn
                                clear hn HN5 o1 k1 w1
                                go_wp2_with fail
                                go_roundg g3
                                case measure => omega
                                case rel => exact ⟨j + 1, by rw [show wrap64 ((j : Int) + 1) = ((j + 1 : Nat) : Int) by have := HM.out; unfold wrap64; omega], ⟨by have := HJ2.out; omega⟩, HN6, BT, BN, MC, M2, HB⟩
                              · have t7 : (W2 != B) = true := bne_iff_ne.mpr w1
                                have hn := HN5.out
                                rw [if_pos (by rw [t5, t6, t7]; rfl)] at hn
                                have HN6 := am hn
                                clear hn HN5 o1 k1 w1
                                go_wp2_with fail
                                have h1 := HN4.out
                                rw [← HN6.out, if_neg (by decide)] at h1
                                obtain rfl := oI h1
                                go_ret
                                exact ⟨rfl, HB.out⟩
                            · have t6 : (K2 == Kq) = false := beq_eq_false_iff_ne.mpr k1
                              have hn := HN5.out
                              rw [if_neg (by rw [t6]; simp)] at hn
                              have HN6 := am hn
                              clear hn HN5 o1 k1
                              go_wp2_with fail
                              go_roundg g3
                              case measure => omega
                              case rel => exact ⟨j + 1, by rw [show wrap64 ((j : Int) + 1) = ((j + 1 : Nat) : Int) by have := HM.out; unfold wrap64; omega], ⟨by have := HJ2.out; omega⟩, HN6, BT, BN, MC, M2, HB⟩
                          · have t5 : (op2 == 1) = false := beq_eq_false_iff_ne.mpr o1
                            have hn := HN5.out
                            rw [if_neg (by rw [t5]; simp)] at hn
                            have HN6 := am hn
                            clear hn HN5 o1
                            go_wp2_with fail
                            go_roundg g3
                            case measure => omega
                            case rel => exact ⟨j + 1, by rw [show wrap64 ((j : Int) + 1) = ((j + 1 : Nat) : Int) by have := HM.out; unfold wrap64; omega], ⟨by have := HJ2.out; omega⟩, HN6, BT, BN, MC, M2, HB⟩
                      · obtain rfl : j = l0.length := by have := HJ2.out; omega
                        have hgk : gk = 0 := by have := HJ2.out; omega
                        subst hgk
                        have t9 : decide ((l0.length : Int) < (l0.length : Int)) = false := decide_eq_false (by omega)
                        have hh := HQ2.out
                        unfold suitsQ at hh
                        have h1 := HN4.out
                        rw [← hh, if_pos rfl] at h1
                        have HN6 := am h1
                        clear hh h1 HQ2
                        go_wp2_with fail
                        go_roundg g2
                        case measure => omega
                        case rel => exact ⟨i + 1, by rw [show wrap64 ((i : Int) + 1) = ((i + 1 : Nat) : Int) by have := HM.out; unfold wrap64; omega], ⟨by have := HJ.out; omega⟩, HN6, BT, MC, HB⟩
                  · have hn := HN3.out
                    rw [if_neg hml2] at hn
                    exact absurd hn (by simp)
            · obtain rfl : i = l0.length := by have := HJ.out; omega
              have hgk : gk = 0 := by have := HJ.out; omega
              subst hgk
              have t2 : decide ((l0.length : Int) < (rch.length : Int)) = false := decide_eq_false (by have := HRL.out; omega)
              have t2p : ¬ l0.length < rch.length := by have := HRL.out; omega
              have hh := HR.out
              unfold suitsR at hh
              obtain rfl := oI hh
              clear hh HR
              go_wp2_with fail
              go_ret
              exact ⟨rfl, HB.out⟩
        · rw [if_neg hrl] at h2
          exact absurd h2 (by simp)
  · rw [if_neg hm] at h
    exact absurd h (by simp)
/-! ### impl_quantBits: function 46 -/
def impl_quantBits.l0 : Nat → List (S31) → Int → List Bool → Int → Int → Option (Int)
 | 0, _, _, _, _, _ => none
 | k + 1, x0, x3, x7, x8, x9 => if x9 < x8 then (if 0 ≤ x9 then (if x9 < (x7.length : Int) then (if rdOf false x7 x9 = true then (if x9 < (x0.length : Int) then ((impl_isQuant.f ((rd_T31 x0 x9).f0) ((rd_T31 x0 x9).f1) ((rd_T31 x0 x9).f2) ((rd_T31 x0 x9).f3) ((rd_T31 x0 x9).f4) ((rd_T31 x0 x9).f5)).bind fun t373 => (if t373 = true then (impl_quantBits.l0 k x0 (wrap64 (x3 + ((rd_T31 x0 x9).f4))) x7 x8 (wrap64 (x9 + 1))) else (impl_quantBits.l0 k x0 x3 x7 x8 (wrap64 (x9 + 1))))) else (none)) else (impl_quantBits.l0 k x0 x3 x7 x8 (wrap64 (x9 + 1)))) else (none)) else (none)) else (some x3)
def impl_quantBits.f (k : Nat) (l0 : List (S31)) : Option (Int) := (impl_reached.f k l0).bind fun t368 => (impl_quantBits.l0 k l0 0 t368 (t368.length : Int) 0)
set_option maxHeartbeats 8000000 in
set_option maxRecDepth 100000 in
theorem impl_quantBits.calls (k : Nat) (A0 : Option Addr) (c0 : Nat) (l0 : List (S31)) (r : Int) (w : World) (hr0 : Kd.C k31 w A0 l0.length l0) (hc0 : l0.length ≤ c0) (h : impl_quantBits.f k l0 = some r) :
  Calls Try.prog 46 #[.slice A0 l0.length c0] w fun e w' => e = .returned (.int .i64 r) ∧ Below w.heap.size w w' := by
 have hu31 := Try.underlying31
 have HR0 := am hr0
 have HC0 := am hc0
 clear hr0 hc0
 have HB := am (Below.refl w.heap.size w)
 have H : ((impl_reached.f k l0).bind fun t368 => (impl_quantBits.l0 k l0 0 t368 (t368.length : Int) 0)) = some r := h
 clear h
 replace H := oB H
 obtain ⟨t368, A20, H⟩ := H
 have A2 := am A20
 clear A20
 have H' := am H
 clear H
 go_enter Try.func46, Try.ntmps46
 go_wp2_with (first | ((with_reducible refine gate_callee (f := 75) rfl ?_); refine goesL_ (some 7) rfl rfl Try.func75 (by kernel_rfl) rfl #[.slice A0 l0.length c0] rfl tm ?_; (with_reducible refine (impl_reached.calls k _ _ l0 t368 _ ?side1 ?side2 A2.out).mono ?_); (case side1 => repeat (first | exact HR0.out | (with_reducible refine Kd.C_alloc ?_ _) | (with_reducible refine Kd.C_drewN ?_ _) | (with_reducible refine Kd.C_drew ?_))); (case side2 => exact HC0.out); rintro e w3 ⟨v369, rfl, ho0, hb⟩; refine ⟨_, rfl, ?_⟩; have n0_ := am (Kd.R_lower ho0 (below_size (by exact sW HB.out))); have n1_ := am (below_step (by exact sW HB.out) hb); clear HB; have HO370 := n0_; have HB := n1_; clear n0_ n1_; (try clear hb); (try clear hb2); (try clear hk); (try clear hi); (try clear ho0); obtain ⟨Ao4, co4, eo4⟩ := Kd.R_slice HO370.out; subst eo4))
 go_loopg [3, 9] k (fun kq v3 v9 w' => ∃ (x3_1 : Int) (x9_1 : Int), v3 = .int .i64 x3_1 ∧ v9 = .int .i64 x9_1 ∧ Aside0 (impl_quantBits.l0 kq l0 x3_1 t368 (t368.length : Int) x9_1 = some r) ∧ Aside0 (kq ≤ k) ∧ Aside0 (Kd.R Kd.bool 4 w' w.heap.size (fun _ => True) (.slice Ao4 t368.length co4) t368) ∧ Aside0 (Below w.heap.size w w'))
 case atStart => exact ⟨(0), (0), (by rfl), (by rfl), H', ⟨Nat.le_refl _⟩, ⟨by exact sR <| HO370.out⟩, ⟨by exact sW HB.out⟩⟩
 case round =>
  clear H'
  obtain ⟨x3_1, x9_1, rfl, rfl, HA, HK1, HO_7, HB⟩ := hrel
  cases gk with
  | zero => exact absurd HA.out (by simp [impl_quantBits.l0])
  | succ k1 =>
   have H := HA.out
   clear HA
   simp only [impl_quantBits.l0] at H
   by_cases c5 : x9_1 < (t368.length : Int)
   ·rw [if_pos c5] at H
    have c5b0 : decide (x9_1 < (t368.length : Int)) = true := decide_eq_true c5
    clear c5
    by_cases c6 : 0 ≤ x9_1
    ·rw [if_pos c6] at H
     have c6b0 : decide (0 ≤ x9_1) = true := decide_eq_true c6
     clear c6
     by_cases c7 : x9_1 < (t368.length : Int)
     ·rw [if_pos c7] at H
      have c7b0 : decide (x9_1 < (t368.length : Int)) = true := decide_eq_true c7
      clear c7
      obtain ⟨bq8, hbq8⟩ : ∃ b_ : Bool, b_ = (rdOf false t368 x9_1) := ⟨_, rfl⟩
      replace H : (if bq8 = true then (if x9_1 < (l0.length : Int) then ((impl_isQuant.f ((rd_T31 l0 x9_1).f0) ((rd_T31 l0 x9_1).f1) ((rd_T31 l0 x9_1).f2) ((rd_T31 l0 x9_1).f3) ((rd_T31 l0 x9_1).f4) ((rd_T31 l0 x9_1).f5)).bind fun t373 => (if t373 = true then (impl_quantBits.l0 k1 l0 (wrap64 (x3_1 + ((rd_T31 l0 x9_1).f4))) t368 (t368.length : Int) (wrap64 (x9_1 + 1))) else (impl_quantBits.l0 k1 l0 x3_1 t368 (t368.length : Int) (wrap64 (x9_1 + 1))))) else (none)) else (impl_quantBits.l0 k1 l0 x3_1 t368 (t368.length : Int) (wrap64 (x9_1 + 1)))) = some r := by rw [← hbq8] at H; exact H
      have Nbq8 := am hbq8
      clear hbq8
      by_cases c9 : bq8 = true
      ·subst c9
       rw [if_pos rfl] at H
       by_cases c10 : x9_1 < (l0.length : Int)
       ·rw [if_pos c10] at H
        have c10b0 : decide (x9_1 < (l0.length : Int)) = true := decide_eq_true c10
        clear c10
        replace H := oB H
        obtain ⟨t373, A110, H⟩ := H
        have A11 := am A110
        clear A110
        by_cases c12 : t373 = true
        ·subst c12
         rw [if_pos rfl] at H
         have H' := am H
         clear H
         have p371 : 0 ≤ (x9_1 : Int) := oD (by assumption)
         have q371 : x9_1 < (t368.length : Int) := oD (by assumption)
         obtain ⟨ad371, e371, hx371_0⟩ := Kd.at_bool (Kd.R_reads' HO_7.out).2.2 x9_1 p371 q371
         (try rw [← Nbq8.out] at hx371_0)
         cases e371
         replace p371 := eq_true p371
         replace q371 := eq_true q371
         have p372 : 0 ≤ (x9_1 : Int) := oD (by assumption)
         have q372 : x9_1 < (l0.length : Int) := oD (by assumption)
         obtain ⟨ad372, e372, hx372_0, hx372_1, hx372_2, hx372_3, hx372_4, hx372_5⟩ := at_T31 HR0.out x9_1 p372 q372
         cases e372
         replace hx372_0 := pw_cell_below HB.out hx372_0
         replace hx372_1 := pw_cell_below HB.out hx372_1
         replace hx372_2 := pw_cell_below HB.out hx372_2
         replace hx372_3 := pw_cell_below HB.out hx372_3
         replace hx372_4 := pw_cell_below HB.out hx372_4
         replace hx372_5 := pw_cell_below HB.out hx372_5
         replace p372 := eq_true p372
         replace q372 := eq_true q372
         go_wp2_with (first | (go_at_call 53; (with_reducible refine (impl_isQuant.calls ((rd_T31 l0 x9_1).f0) ((rd_T31 l0 x9_1).f1) ((rd_T31 l0 x9_1).f2) ((rd_T31 l0 x9_1).f3) ((rd_T31 l0 x9_1).f4) ((rd_T31 l0 x9_1).f5) true _ A11.out).mono ?_); rintro e w13 ⟨rfl, hb⟩; have n0_ := am (Kd.R_below (by exact sR <| HO_7.out) hb); have n1_ := am (below_step (by exact sW HB.out) hb); clear HO_7; clear HB; have HO_7 := n0_; have HB := n1_; clear n0_ n1_; (try clear hb); (try clear hb2); (try clear hk); (try clear hi); have p374 : 0 ≤ (x9_1 : Int) := oD (by assumption); have q374 : x9_1 < (l0.length : Int) := oD (by assumption); obtain ⟨ad374, e374, hx374_0, hx374_1, hx374_2, hx374_3, hx374_4, hx374_5⟩ := at_T31 HR0.out x9_1 p374 q374; obtain rfl : ad372 = ad374 := (by injection e374); replace hx374_0 := pw_cell_below HB.out hx374_0; replace hx374_1 := pw_cell_below HB.out hx374_1; replace hx374_2 := pw_cell_below HB.out hx374_2; replace hx374_3 := pw_cell_below HB.out hx374_3; replace hx374_4 := pw_cell_below HB.out hx374_4; replace hx374_5 := pw_cell_below HB.out hx374_5; replace p374 := eq_true p374; replace q374 := eq_true q374))
         go_roundg k1
         case measure => have := HK1.out; omega
         case rel => exact ⟨(wrap64 (x3_1 + ((rd_T31 l0 x9_1).f4))), (wrap64 (x9_1 + 1)), (by rfl), (by rfl), H', ⟨by have := HK1.out; omega⟩, ⟨by exact sR <| HO_7.out⟩, ⟨by exact sW HB.out⟩⟩
        ·replace c12 := Bool.eq_false_iff.mpr c12
         subst c12
         rw [if_neg (show ¬ (false = true) by decide)] at H
         have H' := am H
         clear H
         have p371 : 0 ≤ (x9_1 : Int) := oD (by assumption)
         have q371 : x9_1 < (t368.length : Int) := oD (by assumption)
         obtain ⟨ad371, e371, hx371_0⟩ := Kd.at_bool (Kd.R_reads' HO_7.out).2.2 x9_1 p371 q371
         (try rw [← Nbq8.out] at hx371_0)
         cases e371
         replace p371 := eq_true p371
         replace q371 := eq_true q371
         have p372 : 0 ≤ (x9_1 : Int) := oD (by assumption)
         have q372 : x9_1 < (l0.length : Int) := oD (by assumption)
         obtain ⟨ad372, e372, hx372_0, hx372_1, hx372_2, hx372_3, hx372_4, hx372_5⟩ := at_T31 HR0.out x9_1 p372 q372
         cases e372
         replace hx372_0 := pw_cell_below HB.out hx372_0
         replace hx372_1 := pw_cell_below HB.out hx372_1
         replace hx372_2 := pw_cell_below HB.out hx372_2
         replace hx372_3 := pw_cell_below HB.out hx372_3
         replace hx372_4 := pw_cell_below HB.out hx372_4
         replace hx372_5 := pw_cell_below HB.out hx372_5
         replace p372 := eq_true p372
         replace q372 := eq_true q372
         go_wp2_with (first | (go_at_call 53; (with_reducible refine (impl_isQuant.calls ((rd_T31 l0 x9_1).f0) ((rd_T31 l0 x9_1).f1) ((rd_T31 l0 x9_1).f2) ((rd_T31 l0 x9_1).f3) ((rd_T31 l0 x9_1).f4) ((rd_T31 l0 x9_1).f5) false _ A11.out).mono ?_); rintro e w14 ⟨rfl, hb⟩; have n0_ := am (Kd.R_below (by exact sR <| HO_7.out) hb); have n1_ := am (below_step (by exact sW HB.out) hb); clear HO_7; clear HB; have HO_7 := n0_; have HB := n1_; clear n0_ n1_; (try clear hb); (try clear hb2); (try clear hk); (try clear hi)))
         go_roundg k1
         case measure => have := HK1.out; omega
         case rel => exact ⟨(x3_1), (wrap64 (x9_1 + 1)), (by rfl), (by rfl), H', ⟨by have := HK1.out; omega⟩, ⟨by exact sR <| HO_7.out⟩, ⟨by exact sW HB.out⟩⟩
       ·rw [if_neg c10] at H
        exact absurd H (by simp)
      ·replace c9 := Bool.eq_false_iff.mpr c9
       subst c9
       rw [if_neg (show ¬ (false = true) by decide)] at H
       have H' := am H
       clear H
       have p371 : 0 ≤ (x9_1 : Int) := oD (by assumption)
       have q371 : x9_1 < (t368.length : Int) := oD (by assumption)
       obtain ⟨ad371, e371, hx371_0⟩ := Kd.at_bool (Kd.R_reads' HO_7.out).2.2 x9_1 p371 q371
       (try rw [← Nbq8.out] at hx371_0)
       cases e371
       replace p371 := eq_true p371
       replace q371 := eq_true q371
       go_wp2
       go_roundg k1
       case measure => have := HK1.out; omega
       case rel => exact ⟨(x3_1), (wrap64 (x9_1 + 1)), (by rfl), (by rfl), H', ⟨by have := HK1.out; omega⟩, ⟨by exact sR <| HO_7.out⟩, ⟨by exact sW HB.out⟩⟩
     ·rw [if_neg c7] at H
      exact absurd H (by simp)
    ·rw [if_neg c6] at H
     exact absurd H (by simp)
   ·rw [if_neg c5] at H
    have c5b0 : decide (x9_1 < (t368.length : Int)) = false := decide_eq_false c5
    clear c5
    obtain rfl := oI H
    go_wp2
    go_ret
    exact ⟨by rfl, by exact sW HB.out⟩
/-! ### impl_isByte: function 114 -/
def impl_isByte.f (a0 : Int) : Option (Bool) := (impl_within.f a0 0 255).bind fun t375 => (some t375)
set_option maxHeartbeats 8000000 in
set_option maxRecDepth 100000 in
theorem impl_isByte.calls (a0 : Int) (r : Bool) (w : World) (h : impl_isByte.f a0 = some r) :
  Calls Try.prog 114 #[.int .i64 a0] w fun e w' => e = .returned (.bool r) ∧ Drawn0 w w' := by
 have H : ((impl_within.f a0 0 255).bind fun t375 => (some t375)) = some r := h
 clear h
 replace H := oB H
 obtain ⟨t375, A20, H⟩ := H
 have A2 := am A20
 clear A20
 obtain rfl := oI H
 go_enter Try.func114, Try.ntmps114
 go_wp2_with (first | ((with_reducible refine gate_callee (f := 72) rfl ?_); refine goesL_ (some 4) rfl rfl Try.func72 (by kernel_rfl) rfl #[.int .i64 a0, .int .i64 0, .int .i64 255] rfl tm ?_; (with_reducible refine (impl_within.calls a0 0 255 t375 _ A2.out).mono ?_); rintro e w' ⟨rfl, ⟨nd, rfl⟩⟩; refine ⟨_, rfl, ?_⟩))
 go_ret
 exact ⟨by rfl, by repeat (first | exact Drawn0.refl _ | apply Drawn0.step)⟩
/-! ### impl_Flip: function 115 -/
def impl_Flip.f (a0 : Int) (a1 : Int) : Option (Int) := (impl_WordOk.f a0 a1).bind fun t376 => (if t376 = true then (if 0 ≤ (IntKind.u64.wrap (a0)) then (some (wrap64 ((wrap64 ((shl .i64 1 (IntKind.u64.wrap (a0))) - 1)) - a1))) else (none)) else (some 0))
set_option maxHeartbeats 8000000 in
set_option maxRecDepth 100000 in
theorem impl_Flip.calls (a0 : Int) (a1 : Int) (r : Int) (w : World) (h : impl_Flip.f a0 a1 = some r) :
  Calls Try.prog 115 #[.int .i64 a0, .int .i64 a1] w fun e w' => e = .returned (.int .i64 r) ∧ Drawn0 w w' := by
 have H : ((impl_WordOk.f a0 a1).bind fun t376 => (if t376 = true then (if 0 ≤ (IntKind.u64.wrap (a0)) then (some (wrap64 ((wrap64 ((shl .i64 1 (IntKind.u64.wrap (a0))) - 1)) - a1))) else (none)) else (some 0))) = some r := h
 clear h
 replace H := oB H
 obtain ⟨t376, A30, H⟩ := H
 have A3 := am A30
 clear A30
 by_cases c4 : t376 = true
 ·subst c4
  rw [if_pos rfl] at H
  obtain ⟨ji5, hji5⟩ : ∃ j_ : Int, (IntKind.u64.wrap (a0)) = j_ := ⟨_, rfl⟩
  replace H : (if 0 ≤ (ji5) then (some (wrap64 ((wrap64 ((shl .i64 1 (ji5)) - 1)) - a1))) else (none)) = some r := by (rw [hji5] at H; exact H)
  (try rw [hji5] at A3)
  by_cases c6 : 0 ≤ (ji5)
  ·rw [if_pos c6] at H
   have c6b0 := eq_true c6
   have c6b1 : decide (0 ≤ (ji5)) = true := decide_eq_true c6
   clear c6
   obtain ⟨ji7, hji7⟩ : ∃ j_ : Int, (shl .i64 1 (ji5)) = j_ := ⟨_, rfl⟩
   replace H : (some (wrap64 ((wrap64 ((ji7) - 1)) - a1))) = some r := by (rw [hji7] at H; exact H)
   (try rw [hji7] at A3)
   have hji7_ : (IntKind.i64.wrap (1 * 2 ^ min (ji5).toNat 64)) = ji7 := hji7
   have hji7z : (ji5) ≤ 64 → (IntKind.i64.wrap (1 * 2 ^ (ji5).toNat)) = ji7 := shl_small hji7
   have hji7u : (IntKind.i64.wrap (2 ^ min (ji5).toNat 64)) = ji7 := by have h_ := hji7_; rw [Int.one_mul] at h_; exact h_
   have hji7v : (ji5) ≤ 64 → (IntKind.i64.wrap (2 ^ (ji5).toNat)) = ji7 := fun hle_ => by have h_ := hji7z hle_; rw [Int.one_mul] at h_; exact h_
   have hji7y : (wrap64 (1 * 2 ^ min (ji5).toNat 64)) = ji7 := (i64_w _).symm.trans hji7_
   have hji7x : (ji5) ≤ 64 → (wrap64 (1 * 2 ^ (ji5).toNat)) = ji7 := fun h_ => (i64_w _).symm.trans (hji7z h_)
   obtain rfl := oI H
   go_enter Try.func115, Try.ntmps115
   go_wp2_with (first | ((with_reducible refine gate_callee (f := 54) rfl ?_); refine goesL_ (some 7) rfl rfl Try.func54 (by kernel_rfl) rfl #[.int .i64 a0, .int .i64 a1] rfl tm ?_; (with_reducible refine (impl_WordOk.calls a0 a1 true _ A3.out).mono ?_); rintro e w' ⟨rfl, ⟨nd, rfl⟩⟩; refine ⟨_, rfl, ?_⟩))
   go_ret
   exact ⟨by rfl, by repeat (first | exact Drawn0.refl _ | apply Drawn0.step)⟩
  ·rw [if_neg c6] at H
   exact absurd H (by simp)
 ·replace c4 := Bool.eq_false_iff.mpr c4
  subst c4
  rw [if_neg (show ¬ (false = true) by decide)] at H
  obtain rfl := oI H
  go_enter Try.func115, Try.ntmps115
  go_wp2_with (first | ((with_reducible refine gate_callee (f := 54) rfl ?_); refine goesL_ (some 7) rfl rfl Try.func54 (by kernel_rfl) rfl #[.int .i64 a0, .int .i64 a1] rfl tm ?_; (with_reducible refine (impl_WordOk.calls a0 a1 false _ A3.out).mono ?_); rintro e w' ⟨rfl, ⟨nd, rfl⟩⟩; refine ⟨_, rfl, ?_⟩))
  go_ret
  exact ⟨by rfl, by repeat (first | exact Drawn0.refl _ | apply Drawn0.step)⟩
/-! ### impl_two: function 139 -/
def impl_two.f (a0 : Int) (a1 : Int) (a2 : Int) : Option (Bool) := (impl_WordOk.f a0 a1).bind fun t377 => (if t377 = true then ((impl_WordOk.f a0 a2).bind fun t378 => (some t378)) else (some false))
set_option maxHeartbeats 8000000 in
set_option maxRecDepth 100000 in
theorem impl_two.calls (a0 : Int) (a1 : Int) (a2 : Int) (r : Bool) (w : World) (h : impl_two.f a0 a1 a2 = some r) :
  Calls Try.prog 139 #[.int .i64 a0, .int .i64 a1, .int .i64 a2] w fun e w' => e = .returned (.bool r) ∧ Drawn0 w w' := by
 have H : ((impl_WordOk.f a0 a1).bind fun t377 => (if t377 = true then ((impl_WordOk.f a0 a2).bind fun t378 => (some t378)) else (some false))) = some r := h
 clear h
 replace H := oB H
 obtain ⟨t377, A40, H⟩ := H
 have A4 := am A40
 clear A40
 by_cases c5 : t377 = true
 ·subst c5
  rw [if_pos rfl] at H
  replace H := oB H
  obtain ⟨t378, A60, H⟩ := H
  have A6 := am A60
  clear A60
  obtain rfl := oI H
  go_enter Try.func139, Try.ntmps139
  go_wp2_with (first | ((with_reducible refine gate_callee (f := 54) rfl ?_); refine goesL_ (some 9) rfl rfl Try.func54 (by kernel_rfl) rfl #[.int .i64 a0, .int .i64 a1] rfl tm ?_; (with_reducible refine (impl_WordOk.calls a0 a1 true _ A4.out).mono ?_); rintro e w' ⟨rfl, ⟨nd, rfl⟩⟩; refine ⟨_, rfl, ?_⟩) | (go_at_call 54; (with_reducible refine (impl_WordOk.calls a0 a2 t378 _ A6.out).mono ?_); rintro e w' ⟨rfl, ⟨nd, rfl⟩⟩))
  go_ret
  exact ⟨by rfl, by repeat (first | exact Drawn0.refl _ | apply Drawn0.step)⟩
 ·replace c5 := Bool.eq_false_iff.mpr c5
  subst c5
  rw [if_neg (show ¬ (false = true) by decide)] at H
  obtain rfl := oI H
  go_enter Try.func139, Try.ntmps139
  go_wp2_with (first | ((with_reducible refine gate_callee (f := 54) rfl ?_); refine goesL_ (some 9) rfl rfl Try.func54 (by kernel_rfl) rfl #[.int .i64 a0, .int .i64 a1] rfl tm ?_; (with_reducible refine (impl_WordOk.calls a0 a1 false _ A4.out).mono ?_); rintro e w' ⟨rfl, ⟨nd, rfl⟩⟩; refine ⟨_, rfl, ?_⟩))
  go_ret
  exact ⟨by rfl, by repeat (first | exact Drawn0.refl _ | apply Drawn0.step)⟩
/-! ### impl_cut: function 141 -/
def impl_cut.f (a0 : Int) (a1 : Int) : Option (Int) := if 0 ≤ (IntKind.u64.wrap (a0)) then (some (Go.bits .and .i64 a1 (wrap64 ((shl .i64 1 (IntKind.u64.wrap (a0))) - 1)))) else (none)
set_option maxHeartbeats 8000000 in
set_option maxRecDepth 100000 in
theorem impl_cut.calls (a0 : Int) (a1 : Int) (r : Int) (w : World) (h : impl_cut.f a0 a1 = some r) :
  Calls Try.prog 141 #[.int .i64 a0, .int .i64 a1] w fun e w' => e = .returned (.int .i64 r) ∧ Drawn0 w w' := by
 have H : (if 0 ≤ (IntKind.u64.wrap (a0)) then (some (Go.bits .and .i64 a1 (wrap64 ((shl .i64 1 (IntKind.u64.wrap (a0))) - 1)))) else (none)) = some r := h
 clear h
 obtain ⟨ji3, hji3⟩ : ∃ j_ : Int, (IntKind.u64.wrap (a0)) = j_ := ⟨_, rfl⟩
 replace H : (if 0 ≤ (ji3) then (some (Go.bits .and .i64 a1 (wrap64 ((shl .i64 1 (ji3)) - 1)))) else (none)) = some r := by (rw [hji3] at H; exact H)
 by_cases c4 : 0 ≤ (ji3)
 ·rw [if_pos c4] at H
  have c4b0 := eq_true c4
  have c4b1 : decide (0 ≤ (ji3)) = true := decide_eq_true c4
  clear c4
  obtain ⟨ji5, hji5⟩ : ∃ j_ : Int, (shl .i64 1 (ji3)) = j_ := ⟨_, rfl⟩
  replace H : (some (Go.bits .and .i64 a1 (wrap64 ((ji5) - 1)))) = some r := by (rw [hji5] at H; exact H)
  have hji5_ : (IntKind.i64.wrap (1 * 2 ^ min (ji3).toNat 64)) = ji5 := hji5
  have hji5z : (ji3) ≤ 64 → (IntKind.i64.wrap (1 * 2 ^ (ji3).toNat)) = ji5 := shl_small hji5
  have hji5u : (IntKind.i64.wrap (2 ^ min (ji3).toNat 64)) = ji5 := by have h_ := hji5_; rw [Int.one_mul] at h_; exact h_
  have hji5v : (ji3) ≤ 64 → (IntKind.i64.wrap (2 ^ (ji3).toNat)) = ji5 := fun hle_ => by have h_ := hji5z hle_; rw [Int.one_mul] at h_; exact h_
  have hji5y : (wrap64 (1 * 2 ^ min (ji3).toNat 64)) = ji5 := (i64_w _).symm.trans hji5_
  have hji5x : (ji3) ≤ 64 → (wrap64 (1 * 2 ^ (ji3).toNat)) = ji5 := fun h_ => (i64_w _).symm.trans (hji5z h_)
  obtain rfl := oI H
  go_enter Try.func141, Try.ntmps141
  go_wp2
  go_ret
  exact ⟨by rfl, by repeat (first | exact Drawn0.refl _ | apply Drawn0.step)⟩
 ·rw [if_neg c4] at H
  exact absurd H (by simp)
/-! ### impl_Add: function 132 -/
def impl_Add.f (a0 : Int) (a1 : Int) (a2 : Int) : Option (Int) := (impl_two.f a0 a1 a2).bind fun t379 => (if t379 = true then ((impl_cut.f a0 (wrap64 (a1 + a2))).bind fun t380 => (some t380)) else (some 0))
set_option maxHeartbeats 8000000 in
set_option maxRecDepth 100000 in
theorem impl_Add.calls (a0 : Int) (a1 : Int) (a2 : Int) (r : Int) (w : World) (h : impl_Add.f a0 a1 a2 = some r) :
  Calls Try.prog 132 #[.int .i64 a0, .int .i64 a1, .int .i64 a2] w fun e w' => e = .returned (.int .i64 r) ∧ Drawn0 w w' := by
 have H : ((impl_two.f a0 a1 a2).bind fun t379 => (if t379 = true then ((impl_cut.f a0 (wrap64 (a1 + a2))).bind fun t380 => (some t380)) else (some 0))) = some r := h
 clear h
 replace H := oB H
 obtain ⟨t379, A40, H⟩ := H
 have A4 := am A40
 clear A40
 by_cases c5 : t379 = true
 ·subst c5
  rw [if_pos rfl] at H
  replace H := oB H
  obtain ⟨t380, A60, H⟩ := H
  have A6 := am A60
  clear A60
  obtain rfl := oI H
  go_enter Try.func132, Try.ntmps132
  go_wp2_with (first | ((with_reducible refine gate_callee (f := 139) rfl ?_); refine goesL_ (some 10) rfl rfl Try.func139 (by kernel_rfl) rfl #[.int .i64 a0, .int .i64 a1, .int .i64 a2] rfl tm ?_; (with_reducible refine (impl_two.calls a0 a1 a2 true _ A4.out).mono ?_); rintro e w' ⟨rfl, ⟨nd, rfl⟩⟩; refine ⟨_, rfl, ?_⟩) | ((with_reducible refine gate_callee (f := 141) rfl ?_); refine goesL_ (some 16) rfl rfl Try.func141 (by kernel_rfl) rfl #[.int .i64 a0, .int .i64 (wrap64 (a1 + a2))] rfl tm ?_; (with_reducible refine (impl_cut.calls a0 (wrap64 (a1 + a2)) t380 _ A6.out).mono ?_); rintro e w' ⟨rfl, ⟨nd, rfl⟩⟩; refine ⟨_, rfl, ?_⟩))
  go_ret
  exact ⟨by rfl, by repeat (first | exact Drawn0.refl _ | apply Drawn0.step)⟩
 ·replace c5 := Bool.eq_false_iff.mpr c5
  subst c5
  rw [if_neg (show ¬ (false = true) by decide)] at H
  obtain rfl := oI H
  go_enter Try.func132, Try.ntmps132
  go_wp2_with (first | ((with_reducible refine gate_callee (f := 139) rfl ?_); refine goesL_ (some 10) rfl rfl Try.func139 (by kernel_rfl) rfl #[.int .i64 a0, .int .i64 a1, .int .i64 a2] rfl tm ?_; (with_reducible refine (impl_two.calls a0 a1 a2 false _ A4.out).mono ?_); rintro e w' ⟨rfl, ⟨nd, rfl⟩⟩; refine ⟨_, rfl, ?_⟩))
  go_ret
  exact ⟨by rfl, by repeat (first | exact Drawn0.refl _ | apply Drawn0.step)⟩
/-! ### impl_Sub: function 133 -/
def impl_Sub.f (a0 : Int) (a1 : Int) (a2 : Int) : Option (Int) := (impl_two.f a0 a1 a2).bind fun t381 => (if t381 = true then ((impl_cut.f a0 (wrap64 (a1 - a2))).bind fun t382 => (some t382)) else (some 0))
set_option maxHeartbeats 8000000 in
set_option maxRecDepth 100000 in
theorem impl_Sub.calls (a0 : Int) (a1 : Int) (a2 : Int) (r : Int) (w : World) (h : impl_Sub.f a0 a1 a2 = some r) :
  Calls Try.prog 133 #[.int .i64 a0, .int .i64 a1, .int .i64 a2] w fun e w' => e = .returned (.int .i64 r) ∧ Drawn0 w w' := by
 have H : ((impl_two.f a0 a1 a2).bind fun t381 => (if t381 = true then ((impl_cut.f a0 (wrap64 (a1 - a2))).bind fun t382 => (some t382)) else (some 0))) = some r := h
 clear h
 replace H := oB H
 obtain ⟨t381, A40, H⟩ := H
 have A4 := am A40
 clear A40
 by_cases c5 : t381 = true
 ·subst c5
  rw [if_pos rfl] at H
  replace H := oB H
  obtain ⟨t382, A60, H⟩ := H
  have A6 := am A60
  clear A60
  obtain rfl := oI H
  go_enter Try.func133, Try.ntmps133
  go_wp2_with (first | ((with_reducible refine gate_callee (f := 139) rfl ?_); refine goesL_ (some 10) rfl rfl Try.func139 (by kernel_rfl) rfl #[.int .i64 a0, .int .i64 a1, .int .i64 a2] rfl tm ?_; (with_reducible refine (impl_two.calls a0 a1 a2 true _ A4.out).mono ?_); rintro e w' ⟨rfl, ⟨nd, rfl⟩⟩; refine ⟨_, rfl, ?_⟩) | ((with_reducible refine gate_callee (f := 141) rfl ?_); refine goesL_ (some 16) rfl rfl Try.func141 (by kernel_rfl) rfl #[.int .i64 a0, .int .i64 (wrap64 (a1 - a2))] rfl tm ?_; (with_reducible refine (impl_cut.calls a0 (wrap64 (a1 - a2)) t382 _ A6.out).mono ?_); rintro e w' ⟨rfl, ⟨nd, rfl⟩⟩; refine ⟨_, rfl, ?_⟩))
  go_ret
  exact ⟨by rfl, by repeat (first | exact Drawn0.refl _ | apply Drawn0.step)⟩
 ·replace c5 := Bool.eq_false_iff.mpr c5
  subst c5
  rw [if_neg (show ¬ (false = true) by decide)] at H
  obtain rfl := oI H
  go_enter Try.func133, Try.ntmps133
  go_wp2_with (first | ((with_reducible refine gate_callee (f := 139) rfl ?_); refine goesL_ (some 10) rfl rfl Try.func139 (by kernel_rfl) rfl #[.int .i64 a0, .int .i64 a1, .int .i64 a2] rfl tm ?_; (with_reducible refine (impl_two.calls a0 a1 a2 false _ A4.out).mono ?_); rintro e w' ⟨rfl, ⟨nd, rfl⟩⟩; refine ⟨_, rfl, ?_⟩))
  go_ret
  exact ⟨by rfl, by repeat (first | exact Drawn0.refl _ | apply Drawn0.step)⟩
/-! ### impl_Mul: function 134 -/
def impl_Mul.f (a0 : Int) (a1 : Int) (a2 : Int) : Option (Int) := (impl_two.f a0 a1 a2).bind fun t383 => (if t383 = true then ((impl_cut.f a0 (wrap64 (a1 * a2))).bind fun t384 => (some t384)) else (some 0))
set_option maxHeartbeats 8000000 in
set_option maxRecDepth 100000 in
theorem impl_Mul.calls (a0 : Int) (a1 : Int) (a2 : Int) (r : Int) (w : World) (h : impl_Mul.f a0 a1 a2 = some r) :
  Calls Try.prog 134 #[.int .i64 a0, .int .i64 a1, .int .i64 a2] w fun e w' => e = .returned (.int .i64 r) ∧ Drawn0 w w' := by
 have H : ((impl_two.f a0 a1 a2).bind fun t383 => (if t383 = true then ((impl_cut.f a0 (wrap64 (a1 * a2))).bind fun t384 => (some t384)) else (some 0))) = some r := h
 clear h
 replace H := oB H
 obtain ⟨t383, A40, H⟩ := H
 have A4 := am A40
 clear A40
 by_cases c5 : t383 = true
 ·subst c5
  rw [if_pos rfl] at H
  replace H := oB H
  obtain ⟨t384, A60, H⟩ := H
  have A6 := am A60
  clear A60
  obtain rfl := oI H
  go_enter Try.func134, Try.ntmps134
  go_wp2_with (first | ((with_reducible refine gate_callee (f := 139) rfl ?_); refine goesL_ (some 10) rfl rfl Try.func139 (by kernel_rfl) rfl #[.int .i64 a0, .int .i64 a1, .int .i64 a2] rfl tm ?_; (with_reducible refine (impl_two.calls a0 a1 a2 true _ A4.out).mono ?_); rintro e w' ⟨rfl, ⟨nd, rfl⟩⟩; refine ⟨_, rfl, ?_⟩) | ((with_reducible refine gate_callee (f := 141) rfl ?_); refine goesL_ (some 16) rfl rfl Try.func141 (by kernel_rfl) rfl #[.int .i64 a0, .int .i64 (wrap64 (a1 * a2))] rfl tm ?_; (with_reducible refine (impl_cut.calls a0 (wrap64 (a1 * a2)) t384 _ A6.out).mono ?_); rintro e w' ⟨rfl, ⟨nd, rfl⟩⟩; refine ⟨_, rfl, ?_⟩))
  go_ret
  exact ⟨by rfl, by repeat (first | exact Drawn0.refl _ | apply Drawn0.step)⟩
 ·replace c5 := Bool.eq_false_iff.mpr c5
  subst c5
  rw [if_neg (show ¬ (false = true) by decide)] at H
  obtain rfl := oI H
  go_enter Try.func134, Try.ntmps134
  go_wp2_with (first | ((with_reducible refine gate_callee (f := 139) rfl ?_); refine goesL_ (some 10) rfl rfl Try.func139 (by kernel_rfl) rfl #[.int .i64 a0, .int .i64 a1, .int .i64 a2] rfl tm ?_; (with_reducible refine (impl_two.calls a0 a1 a2 false _ A4.out).mono ?_); rintro e w' ⟨rfl, ⟨nd, rfl⟩⟩; refine ⟨_, rfl, ?_⟩))
  go_ret
  exact ⟨by rfl, by repeat (first | exact Drawn0.refl _ | apply Drawn0.step)⟩
/-! ### impl_Div: function 135 -/
def impl_Div.f (a0 : Int) (a1 : Int) (a2 : Int) : Option (Int) := (impl_two.f a0 a1 a2).bind fun t385 => (if t385 = true then (if a2 = 0 then (if 0 ≤ (IntKind.u64.wrap (a0)) then (some (wrap64 ((shl .i64 1 (IntKind.u64.wrap (a0))) - 1))) else (none)) else (some (wrap64 (Int.tdiv a1 a2)))) else (some 0))
set_option maxHeartbeats 8000000 in
set_option maxRecDepth 100000 in
theorem impl_Div.calls (a0 : Int) (a1 : Int) (a2 : Int) (r : Int) (w : World) (h : impl_Div.f a0 a1 a2 = some r) :
  Calls Try.prog 135 #[.int .i64 a0, .int .i64 a1, .int .i64 a2] w fun e w' => e = .returned (.int .i64 r) ∧ Drawn0 w w' := by
 have H : ((impl_two.f a0 a1 a2).bind fun t385 => (if t385 = true then (if a2 = 0 then (if 0 ≤ (IntKind.u64.wrap (a0)) then (some (wrap64 ((shl .i64 1 (IntKind.u64.wrap (a0))) - 1))) else (none)) else (some (wrap64 (Int.tdiv a1 a2)))) else (some 0))) = some r := h
 clear h
 replace H := oB H
 obtain ⟨t385, A40, H⟩ := H
 have A4 := am A40
 clear A40
 by_cases c5 : t385 = true
 ·subst c5
  rw [if_pos rfl] at H
  by_cases c6 : a2 = 0
  ·rw [if_pos c6] at H
   have c6b0 : (a2 == 0) = true := beq_iff_eq.mpr c6
   have c6b1 : (a2 != 0) = false := bne_eq_false_iff_eq.mpr c6
   clear c6
   obtain ⟨ji7, hji7⟩ : ∃ j_ : Int, (IntKind.u64.wrap (a0)) = j_ := ⟨_, rfl⟩
   replace H : (if 0 ≤ (ji7) then (some (wrap64 ((shl .i64 1 (ji7)) - 1))) else (none)) = some r := by (rw [hji7] at H; exact H)
   (try rw [hji7] at A4)
   by_cases c8 : 0 ≤ (ji7)
   ·rw [if_pos c8] at H
    have c8b0 := eq_true c8
    have c8b1 : decide (0 ≤ (ji7)) = true := decide_eq_true c8
    clear c8
    obtain ⟨ji9, hji9⟩ : ∃ j_ : Int, (shl .i64 1 (ji7)) = j_ := ⟨_, rfl⟩
    replace H : (some (wrap64 ((ji9) - 1))) = some r := by (rw [hji9] at H; exact H)
    (try rw [hji9] at A4)
    have hji9_ : (IntKind.i64.wrap (1 * 2 ^ min (ji7).toNat 64)) = ji9 := hji9
    have hji9z : (ji7) ≤ 64 → (IntKind.i64.wrap (1 * 2 ^ (ji7).toNat)) = ji9 := shl_small hji9
    have hji9u : (IntKind.i64.wrap (2 ^ min (ji7).toNat 64)) = ji9 := by have h_ := hji9_; rw [Int.one_mul] at h_; exact h_
    have hji9v : (ji7) ≤ 64 → (IntKind.i64.wrap (2 ^ (ji7).toNat)) = ji9 := fun hle_ => by have h_ := hji9z hle_; rw [Int.one_mul] at h_; exact h_
    have hji9y : (wrap64 (1 * 2 ^ min (ji7).toNat 64)) = ji9 := (i64_w _).symm.trans hji9_
    have hji9x : (ji7) ≤ 64 → (wrap64 (1 * 2 ^ (ji7).toNat)) = ji9 := fun h_ => (i64_w _).symm.trans (hji9z h_)
    obtain rfl := oI H
    go_enter Try.func135, Try.ntmps135
    go_wp2_with (first | ((with_reducible refine gate_callee (f := 139) rfl ?_); refine goesL_ (some 11) rfl rfl Try.func139 (by kernel_rfl) rfl #[.int .i64 a0, .int .i64 a1, .int .i64 a2] rfl tm ?_; (with_reducible refine (impl_two.calls a0 a1 a2 true _ A4.out).mono ?_); rintro e w' ⟨rfl, ⟨nd, rfl⟩⟩; refine ⟨_, rfl, ?_⟩))
    go_ret
    exact ⟨by rfl, by repeat (first | exact Drawn0.refl _ | apply Drawn0.step)⟩
   ·rw [if_neg c8] at H
    exact absurd H (by simp)
  ·rw [if_neg c6] at H
   have c6b0 : (a2 == 0) = false := beq_eq_false_iff_ne.mpr c6
   have c6b1 : (a2 != 0) = true := bne_iff_ne.mpr c6
   obtain rfl := oI H
   go_enter Try.func135, Try.ntmps135
   go_wp2_with (first | ((with_reducible refine gate_callee (f := 139) rfl ?_); refine goesL_ (some 11) rfl rfl Try.func139 (by kernel_rfl) rfl #[.int .i64 a0, .int .i64 a1, .int .i64 a2] rfl tm ?_; (with_reducible refine (impl_two.calls a0 a1 a2 true _ A4.out).mono ?_); rintro e w' ⟨rfl, ⟨nd, rfl⟩⟩; refine ⟨_, rfl, ?_⟩))
   go_ret
   exact ⟨by rfl, by repeat (first | exact Drawn0.refl _ | apply Drawn0.step)⟩
 ·replace c5 := Bool.eq_false_iff.mpr c5
  subst c5
  rw [if_neg (show ¬ (false = true) by decide)] at H
  obtain rfl := oI H
  go_enter Try.func135, Try.ntmps135
  go_wp2_with (first | ((with_reducible refine gate_callee (f := 139) rfl ?_); refine goesL_ (some 11) rfl rfl Try.func139 (by kernel_rfl) rfl #[.int .i64 a0, .int .i64 a1, .int .i64 a2] rfl tm ?_; (with_reducible refine (impl_two.calls a0 a1 a2 false _ A4.out).mono ?_); rintro e w' ⟨rfl, ⟨nd, rfl⟩⟩; refine ⟨_, rfl, ?_⟩))
  go_ret
  exact ⟨by rfl, by repeat (first | exact Drawn0.refl _ | apply Drawn0.step)⟩
/-! ### impl_Rem: function 136 -/
def impl_Rem.f (a0 : Int) (a1 : Int) (a2 : Int) : Option (Int) := (impl_two.f a0 a1 a2).bind fun t386 => (if t386 = true then (if a2 = 0 then (some a1) else (some (Int.tmod a1 a2))) else (some 0))
set_option maxHeartbeats 8000000 in
set_option maxRecDepth 100000 in
theorem impl_Rem.calls (a0 : Int) (a1 : Int) (a2 : Int) (r : Int) (w : World) (h : impl_Rem.f a0 a1 a2 = some r) :
  Calls Try.prog 136 #[.int .i64 a0, .int .i64 a1, .int .i64 a2] w fun e w' => e = .returned (.int .i64 r) ∧ Drawn0 w w' := by
 have H : ((impl_two.f a0 a1 a2).bind fun t386 => (if t386 = true then (if a2 = 0 then (some a1) else (some (Int.tmod a1 a2))) else (some 0))) = some r := h
 clear h
 replace H := oB H
 obtain ⟨t386, A40, H⟩ := H
 have A4 := am A40
 clear A40
 by_cases c5 : t386 = true
 ·subst c5
  rw [if_pos rfl] at H
  by_cases c6 : a2 = 0
  ·rw [if_pos c6] at H
   have c6b0 : (a2 == 0) = true := beq_iff_eq.mpr c6
   have c6b1 : (a2 != 0) = false := bne_eq_false_iff_eq.mpr c6
   clear c6
   obtain rfl := oI H
   go_enter Try.func136, Try.ntmps136
   go_wp2_with (first | ((with_reducible refine gate_callee (f := 139) rfl ?_); refine goesL_ (some 11) rfl rfl Try.func139 (by kernel_rfl) rfl #[.int .i64 a0, .int .i64 a1, .int .i64 a2] rfl tm ?_; (with_reducible refine (impl_two.calls a0 a1 a2 true _ A4.out).mono ?_); rintro e w' ⟨rfl, ⟨nd, rfl⟩⟩; refine ⟨_, rfl, ?_⟩))
   go_ret
   exact ⟨by rfl, by repeat (first | exact Drawn0.refl _ | apply Drawn0.step)⟩
  ·rw [if_neg c6] at H
   have c6b0 : (a2 == 0) = false := beq_eq_false_iff_ne.mpr c6
   have c6b1 : (a2 != 0) = true := bne_iff_ne.mpr c6
   obtain rfl := oI H
   go_enter Try.func136, Try.ntmps136
   go_wp2_with (first | ((with_reducible refine gate_callee (f := 139) rfl ?_); refine goesL_ (some 11) rfl rfl Try.func139 (by kernel_rfl) rfl #[.int .i64 a0, .int .i64 a1, .int .i64 a2] rfl tm ?_; (with_reducible refine (impl_two.calls a0 a1 a2 true _ A4.out).mono ?_); rintro e w' ⟨rfl, ⟨nd, rfl⟩⟩; refine ⟨_, rfl, ?_⟩))
   go_ret
   exact ⟨by rfl, by repeat (first | exact Drawn0.refl _ | apply Drawn0.step)⟩
 ·replace c5 := Bool.eq_false_iff.mpr c5
  subst c5
  rw [if_neg (show ¬ (false = true) by decide)] at H
  obtain rfl := oI H
  go_enter Try.func136, Try.ntmps136
  go_wp2_with (first | ((with_reducible refine gate_callee (f := 139) rfl ?_); refine goesL_ (some 11) rfl rfl Try.func139 (by kernel_rfl) rfl #[.int .i64 a0, .int .i64 a1, .int .i64 a2] rfl tm ?_; (with_reducible refine (impl_two.calls a0 a1 a2 false _ A4.out).mono ?_); rintro e w' ⟨rfl, ⟨nd, rfl⟩⟩; refine ⟨_, rfl, ?_⟩))
  go_ret
  exact ⟨by rfl, by repeat (first | exact Drawn0.refl _ | apply Drawn0.step)⟩
/-! ### impl_Shl: function 137 -/
def impl_Shl.f (a0 : Int) (a1 : Int) (a2 : Int) : Option (Int) := (impl_two.f a0 a1 a2).bind fun t387 => (if t387 = true then (if a2 ≥ a0 then (some 0) else (if 0 ≤ (IntKind.u64.wrap (a2)) then ((impl_cut.f a0 (shl .i64 a1 (IntKind.u64.wrap (a2)))).bind fun t388 => (some t388)) else (none))) else (some 0))
set_option maxHeartbeats 8000000 in
set_option maxRecDepth 100000 in
theorem impl_Shl.calls (a0 : Int) (a1 : Int) (a2 : Int) (r : Int) (w : World) (h : impl_Shl.f a0 a1 a2 = some r) :
  Calls Try.prog 137 #[.int .i64 a0, .int .i64 a1, .int .i64 a2] w fun e w' => e = .returned (.int .i64 r) ∧ Drawn0 w w' := by
 have H : ((impl_two.f a0 a1 a2).bind fun t387 => (if t387 = true then (if a2 ≥ a0 then (some 0) else (if 0 ≤ (IntKind.u64.wrap (a2)) then ((impl_cut.f a0 (shl .i64 a1 (IntKind.u64.wrap (a2)))).bind fun t388 => (some t388)) else (none))) else (some 0))) = some r := h
 clear h
 replace H := oB H
 obtain ⟨t387, A40, H⟩ := H
 have A4 := am A40
 clear A40
 by_cases c5 : t387 = true
 ·subst c5
  rw [if_pos rfl] at H
  by_cases c6 : a2 ≥ a0
  ·rw [if_pos c6] at H
   have c6b0 : decide (a0 ≤ a2) = true := decide_eq_true c6
   clear c6
   obtain rfl := oI H
   go_enter Try.func137, Try.ntmps137
   go_wp2_with (first | ((with_reducible refine gate_callee (f := 139) rfl ?_); refine goesL_ (some 10) rfl rfl Try.func139 (by kernel_rfl) rfl #[.int .i64 a0, .int .i64 a1, .int .i64 a2] rfl tm ?_; (with_reducible refine (impl_two.calls a0 a1 a2 true _ A4.out).mono ?_); rintro e w' ⟨rfl, ⟨nd, rfl⟩⟩; refine ⟨_, rfl, ?_⟩))
   go_ret
   exact ⟨by rfl, by repeat (first | exact Drawn0.refl _ | apply Drawn0.step)⟩
  ·rw [if_neg c6] at H
   have c6b0 : decide (a0 ≤ a2) = false := decide_eq_false c6
   clear c6
   obtain ⟨ji7, hji7⟩ : ∃ j_ : Int, (IntKind.u64.wrap (a2)) = j_ := ⟨_, rfl⟩
   replace H : (if 0 ≤ (ji7) then ((impl_cut.f a0 (shl .i64 a1 (ji7))).bind fun t388 => (some t388)) else (none)) = some r := by (rw [hji7] at H; exact H)
   (try rw [hji7] at A4)
   by_cases c8 : 0 ≤ (ji7)
   ·rw [if_pos c8] at H
    have c8b0 := eq_true c8
    have c8b1 : decide (0 ≤ (ji7)) = true := decide_eq_true c8
    clear c8
    obtain ⟨ji9, hji9⟩ : ∃ j_ : Int, (shl .i64 a1 (ji7)) = j_ := ⟨_, rfl⟩
    replace H : ((impl_cut.f a0 (ji9)).bind fun t388 => (some t388)) = some r := by (rw [hji9] at H; exact H)
    (try rw [hji9] at A4)
    have hji9_ : (IntKind.i64.wrap (a1 * 2 ^ min (ji7).toNat 64)) = ji9 := hji9
    have hji9z : (ji7) ≤ 64 → (IntKind.i64.wrap (a1 * 2 ^ (ji7).toNat)) = ji9 := shl_small hji9
    have hji9y : (wrap64 (a1 * 2 ^ min (ji7).toNat 64)) = ji9 := (i64_w _).symm.trans hji9_
    have hji9x : (ji7) ≤ 64 → (wrap64 (a1 * 2 ^ (ji7).toNat)) = ji9 := fun h_ => (i64_w _).symm.trans (hji9z h_)
    replace H := oB H
    obtain ⟨t388, A100, H⟩ := H
    have A10 := am A100
    clear A100
    obtain rfl := oI H
    go_enter Try.func137, Try.ntmps137
    go_wp2_with (first | ((with_reducible refine gate_callee (f := 139) rfl ?_); refine goesL_ (some 10) rfl rfl Try.func139 (by kernel_rfl) rfl #[.int .i64 a0, .int .i64 a1, .int .i64 a2] rfl tm ?_; (with_reducible refine (impl_two.calls a0 a1 a2 true _ A4.out).mono ?_); rintro e w' ⟨rfl, ⟨nd, rfl⟩⟩; refine ⟨_, rfl, ?_⟩) | ((with_reducible refine gate_callee (f := 141) rfl ?_); refine goesL_ (some 22) rfl rfl Try.func141 (by kernel_rfl) rfl #[.int .i64 a0, .int .i64 ji9] rfl tm ?_; (with_reducible refine (impl_cut.calls a0 ji9 t388 _ A10.out).mono ?_); rintro e w' ⟨rfl, ⟨nd, rfl⟩⟩; refine ⟨_, rfl, ?_⟩))
    go_ret
    exact ⟨by rfl, by repeat (first | exact Drawn0.refl _ | apply Drawn0.step)⟩
   ·rw [if_neg c8] at H
    exact absurd H (by simp)
 ·replace c5 := Bool.eq_false_iff.mpr c5
  subst c5
  rw [if_neg (show ¬ (false = true) by decide)] at H
  obtain rfl := oI H
  go_enter Try.func137, Try.ntmps137
  go_wp2_with (first | ((with_reducible refine gate_callee (f := 139) rfl ?_); refine goesL_ (some 10) rfl rfl Try.func139 (by kernel_rfl) rfl #[.int .i64 a0, .int .i64 a1, .int .i64 a2] rfl tm ?_; (with_reducible refine (impl_two.calls a0 a1 a2 false _ A4.out).mono ?_); rintro e w' ⟨rfl, ⟨nd, rfl⟩⟩; refine ⟨_, rfl, ?_⟩))
  go_ret
  exact ⟨by rfl, by repeat (first | exact Drawn0.refl _ | apply Drawn0.step)⟩
/-! ### impl_Shr: function 138 -/
def impl_Shr.f (a0 : Int) (a1 : Int) (a2 : Int) : Option (Int) := (impl_two.f a0 a1 a2).bind fun t389 => (if t389 = true then (if a2 ≥ a0 then (some 0) else (if 0 ≤ (IntKind.u64.wrap (a2)) then (some (shr .i64 a1 (IntKind.u64.wrap (a2)))) else (none))) else (some 0))
set_option maxHeartbeats 8000000 in
set_option maxRecDepth 100000 in
theorem impl_Shr.calls (a0 : Int) (a1 : Int) (a2 : Int) (r : Int) (w : World) (h : impl_Shr.f a0 a1 a2 = some r) :
  Calls Try.prog 138 #[.int .i64 a0, .int .i64 a1, .int .i64 a2] w fun e w' => e = .returned (.int .i64 r) ∧ Drawn0 w w' := by
 have H : ((impl_two.f a0 a1 a2).bind fun t389 => (if t389 = true then (if a2 ≥ a0 then (some 0) else (if 0 ≤ (IntKind.u64.wrap (a2)) then (some (shr .i64 a1 (IntKind.u64.wrap (a2)))) else (none))) else (some 0))) = some r := h
 clear h
 replace H := oB H
 obtain ⟨t389, A40, H⟩ := H
 have A4 := am A40
 clear A40
 by_cases c5 : t389 = true
 ·subst c5
  rw [if_pos rfl] at H
  by_cases c6 : a2 ≥ a0
  ·rw [if_pos c6] at H
   have c6b0 : decide (a0 ≤ a2) = true := decide_eq_true c6
   clear c6
   obtain rfl := oI H
   go_enter Try.func138, Try.ntmps138
   go_wp2_with (first | ((with_reducible refine gate_callee (f := 139) rfl ?_); refine goesL_ (some 10) rfl rfl Try.func139 (by kernel_rfl) rfl #[.int .i64 a0, .int .i64 a1, .int .i64 a2] rfl tm ?_; (with_reducible refine (impl_two.calls a0 a1 a2 true _ A4.out).mono ?_); rintro e w' ⟨rfl, ⟨nd, rfl⟩⟩; refine ⟨_, rfl, ?_⟩))
   go_ret
   exact ⟨by rfl, by repeat (first | exact Drawn0.refl _ | apply Drawn0.step)⟩
  ·rw [if_neg c6] at H
   have c6b0 : decide (a0 ≤ a2) = false := decide_eq_false c6
   clear c6
   obtain ⟨ji7, hji7⟩ : ∃ j_ : Int, (IntKind.u64.wrap (a2)) = j_ := ⟨_, rfl⟩
   replace H : (if 0 ≤ (ji7) then (some (shr .i64 a1 (ji7))) else (none)) = some r := by (rw [hji7] at H; exact H)
   (try rw [hji7] at A4)
   by_cases c8 : 0 ≤ (ji7)
   ·rw [if_pos c8] at H
    have c8b0 := eq_true c8
    have c8b1 : decide (0 ≤ (ji7)) = true := decide_eq_true c8
    clear c8
    obtain ⟨ji9, hji9⟩ : ∃ j_ : Int, (shr .i64 a1 (ji7)) = j_ := ⟨_, rfl⟩
    replace H : (some ji9) = some r := by (rw [hji9] at H; exact H)
    (try rw [hji9] at A4)
    have hji9_ : (a1 / 2 ^ min (ji7).toNat 64) = ji9 := hji9
    have hji9z : (ji7) ≤ 64 → (a1 / 2 ^ (ji7).toNat) = ji9 := shr_small hji9
    obtain rfl := oI H
    go_enter Try.func138, Try.ntmps138
    go_wp2_with (first | ((with_reducible refine gate_callee (f := 139) rfl ?_); refine goesL_ (some 10) rfl rfl Try.func139 (by kernel_rfl) rfl #[.int .i64 a0, .int .i64 a1, .int .i64 a2] rfl tm ?_; (with_reducible refine (impl_two.calls a0 a1 a2 true _ A4.out).mono ?_); rintro e w' ⟨rfl, ⟨nd, rfl⟩⟩; refine ⟨_, rfl, ?_⟩))
    go_ret
    exact ⟨by rfl, by repeat (first | exact Drawn0.refl _ | apply Drawn0.step)⟩
   ·rw [if_neg c8] at H
    exact absurd H (by simp)
 ·replace c5 := Bool.eq_false_iff.mpr c5
  subst c5
  rw [if_neg (show ¬ (false = true) by decide)] at H
  obtain rfl := oI H
  go_enter Try.func138, Try.ntmps138
  go_wp2_with (first | ((with_reducible refine gate_callee (f := 139) rfl ?_); refine goesL_ (some 10) rfl rfl Try.func139 (by kernel_rfl) rfl #[.int .i64 a0, .int .i64 a1, .int .i64 a2] rfl tm ?_; (with_reducible refine (impl_two.calls a0 a1 a2 false _ A4.out).mono ?_); rintro e w' ⟨rfl, ⟨nd, rfl⟩⟩; refine ⟨_, rfl, ?_⟩))
  go_ret
  exact ⟨by rfl, by repeat (first | exact Drawn0.refl _ | apply Drawn0.step)⟩
/-! ### impl_binary: function 116 -/
def impl_binary.f (a0 : Int) (a1 : Int) (a2 : Int) (a3 : Int) : Option (Int) := if a0 = 3 then (some (Go.bits .and .i64 a2 a3)) else (if a0 = 4 then (some (Go.bits .or .i64 a2 a3)) else (if a0 = 5 then (some (Go.bits .xor .i64 a2 a3)) else (if a0 = 6 then ((impl_Add.f a1 a2 a3).bind fun t390 => (some t390)) else (if a0 = 7 then ((impl_Sub.f a1 a2 a3).bind fun t391 => (some t391)) else (if a0 = 8 then ((impl_Mul.f a1 a2 a3).bind fun t392 => (some t392)) else (if a0 = 9 then ((impl_Div.f a1 a2 a3).bind fun t393 => (some t393)) else (if a0 = 10 then ((impl_Rem.f a1 a2 a3).bind fun t394 => (some t394)) else (if a0 = 11 then ((impl_Shl.f a1 a2 a3).bind fun t395 => (some t395)) else ((impl_Shr.f a1 a2 a3).bind fun t396 => (some t396))))))))))
set_option maxHeartbeats 8000000 in
set_option maxRecDepth 100000 in
theorem impl_binary.calls (a0 : Int) (a1 : Int) (a2 : Int) (a3 : Int) (r : Int) (w : World) (h : impl_binary.f a0 a1 a2 a3 = some r) :
  Calls Try.prog 116 #[.int .i64 a0, .int .i64 a1, .int .i64 a2, .int .i64 a3] w fun e w' => e = .returned (.int .i64 r) ∧ Drawn0 w w' := by
 have H : (if a0 = 3 then (some (Go.bits .and .i64 a2 a3)) else (if a0 = 4 then (some (Go.bits .or .i64 a2 a3)) else (if a0 = 5 then (some (Go.bits .xor .i64 a2 a3)) else (if a0 = 6 then ((impl_Add.f a1 a2 a3).bind fun t390 => (some t390)) else (if a0 = 7 then ((impl_Sub.f a1 a2 a3).bind fun t391 => (some t391)) else (if a0 = 8 then ((impl_Mul.f a1 a2 a3).bind fun t392 => (some t392)) else (if a0 = 9 then ((impl_Div.f a1 a2 a3).bind fun t393 => (some t393)) else (if a0 = 10 then ((impl_Rem.f a1 a2 a3).bind fun t394 => (some t394)) else (if a0 = 11 then ((impl_Shl.f a1 a2 a3).bind fun t395 => (some t395)) else ((impl_Shr.f a1 a2 a3).bind fun t396 => (some t396))))))))))) = some r := h
 clear h
 by_cases c5 : a0 = 3
 ·rw [if_pos c5] at H
  have c5b0 : (a0 == 3) = true := beq_iff_eq.mpr c5
  have c5b1 : (a0 != 3) = false := bne_eq_false_iff_eq.mpr c5
  clear c5
  obtain rfl := oI H
  go_enter Try.func116, Try.ntmps116
  go_wp2
  go_ret
  exact ⟨by rfl, by repeat (first | exact Drawn0.refl _ | apply Drawn0.step)⟩
 ·rw [if_neg c5] at H
  have c5b0 : (a0 == 3) = false := beq_eq_false_iff_ne.mpr c5
  have c5b1 : (a0 != 3) = true := bne_iff_ne.mpr c5
  by_cases c6 : a0 = 4
  ·rw [if_pos c6] at H
   have c6b0 : (a0 == 4) = true := beq_iff_eq.mpr c6
   have c6b1 : (a0 != 4) = false := bne_eq_false_iff_eq.mpr c6
   clear c6
   obtain rfl := oI H
   go_enter Try.func116, Try.ntmps116
   go_wp2
   go_ret
   exact ⟨by rfl, by repeat (first | exact Drawn0.refl _ | apply Drawn0.step)⟩
  ·rw [if_neg c6] at H
   have c6b0 : (a0 == 4) = false := beq_eq_false_iff_ne.mpr c6
   have c6b1 : (a0 != 4) = true := bne_iff_ne.mpr c6
   by_cases c7 : a0 = 5
   ·rw [if_pos c7] at H
    have c7b0 : (a0 == 5) = true := beq_iff_eq.mpr c7
    have c7b1 : (a0 != 5) = false := bne_eq_false_iff_eq.mpr c7
    clear c7
    obtain rfl := oI H
    go_enter Try.func116, Try.ntmps116
    go_wp2
    go_ret
    exact ⟨by rfl, by repeat (first | exact Drawn0.refl _ | apply Drawn0.step)⟩
   ·rw [if_neg c7] at H
    have c7b0 : (a0 == 5) = false := beq_eq_false_iff_ne.mpr c7
    have c7b1 : (a0 != 5) = true := bne_iff_ne.mpr c7
    by_cases c8 : a0 = 6
    ·rw [if_pos c8] at H
     have c8b0 : (a0 == 6) = true := beq_iff_eq.mpr c8
     have c8b1 : (a0 != 6) = false := bne_eq_false_iff_eq.mpr c8
     clear c8
     replace H := oB H
     obtain ⟨t390, A90, H⟩ := H
     have A9 := am A90
     clear A90
     obtain rfl := oI H
     go_enter Try.func116, Try.ntmps116
     go_wp2_with (first | ((with_reducible refine gate_callee (f := 132) rfl ?_); refine goesL_ (some 30) rfl rfl Try.func132 (by kernel_rfl) rfl #[.int .i64 a1, .int .i64 a2, .int .i64 a3] rfl tm ?_; (with_reducible refine (impl_Add.calls a1 a2 a3 t390 _ A9.out).mono ?_); rintro e w' ⟨rfl, ⟨nd, rfl⟩⟩; refine ⟨_, rfl, ?_⟩))
     go_ret
     exact ⟨by rfl, by repeat (first | exact Drawn0.refl _ | apply Drawn0.step)⟩
    ·rw [if_neg c8] at H
     have c8b0 : (a0 == 6) = false := beq_eq_false_iff_ne.mpr c8
     have c8b1 : (a0 != 6) = true := bne_iff_ne.mpr c8
     by_cases c10 : a0 = 7
     ·rw [if_pos c10] at H
      have c10b0 : (a0 == 7) = true := beq_iff_eq.mpr c10
      have c10b1 : (a0 != 7) = false := bne_eq_false_iff_eq.mpr c10
      clear c10
      replace H := oB H
      obtain ⟨t391, A110, H⟩ := H
      have A11 := am A110
      clear A110
      obtain rfl := oI H
      go_enter Try.func116, Try.ntmps116
      go_wp2_with (first | ((with_reducible refine gate_callee (f := 133) rfl ?_); refine goesL_ (some 36) rfl rfl Try.func133 (by kernel_rfl) rfl #[.int .i64 a1, .int .i64 a2, .int .i64 a3] rfl tm ?_; (with_reducible refine (impl_Sub.calls a1 a2 a3 t391 _ A11.out).mono ?_); rintro e w' ⟨rfl, ⟨nd, rfl⟩⟩; refine ⟨_, rfl, ?_⟩))
      go_ret
      exact ⟨by rfl, by repeat (first | exact Drawn0.refl _ | apply Drawn0.step)⟩
     ·rw [if_neg c10] at H
      have c10b0 : (a0 == 7) = false := beq_eq_false_iff_ne.mpr c10
      have c10b1 : (a0 != 7) = true := bne_iff_ne.mpr c10
      by_cases c12 : a0 = 8
      ·rw [if_pos c12] at H
       have c12b0 : (a0 == 8) = true := beq_iff_eq.mpr c12
       have c12b1 : (a0 != 8) = false := bne_eq_false_iff_eq.mpr c12
       clear c12
       replace H := oB H
       obtain ⟨t392, A130, H⟩ := H
       have A13 := am A130
       clear A130
       obtain rfl := oI H
       go_enter Try.func116, Try.ntmps116
       go_wp2_with (first | ((with_reducible refine gate_callee (f := 134) rfl ?_); refine goesL_ (some 42) rfl rfl Try.func134 (by kernel_rfl) rfl #[.int .i64 a1, .int .i64 a2, .int .i64 a3] rfl tm ?_; (with_reducible refine (impl_Mul.calls a1 a2 a3 t392 _ A13.out).mono ?_); rintro e w' ⟨rfl, ⟨nd, rfl⟩⟩; refine ⟨_, rfl, ?_⟩))
       go_ret
       exact ⟨by rfl, by repeat (first | exact Drawn0.refl _ | apply Drawn0.step)⟩
      ·rw [if_neg c12] at H
       have c12b0 : (a0 == 8) = false := beq_eq_false_iff_ne.mpr c12
       have c12b1 : (a0 != 8) = true := bne_iff_ne.mpr c12
       by_cases c14 : a0 = 9
       ·rw [if_pos c14] at H
        have c14b0 : (a0 == 9) = true := beq_iff_eq.mpr c14
        have c14b1 : (a0 != 9) = false := bne_eq_false_iff_eq.mpr c14
        clear c14
        replace H := oB H
        obtain ⟨t393, A150, H⟩ := H
        have A15 := am A150
        clear A150
        obtain rfl := oI H
        go_enter Try.func116, Try.ntmps116
        go_wp2_with (first | ((with_reducible refine gate_callee (f := 135) rfl ?_); refine goesL_ (some 48) rfl rfl Try.func135 (by kernel_rfl) rfl #[.int .i64 a1, .int .i64 a2, .int .i64 a3] rfl tm ?_; (with_reducible refine (impl_Div.calls a1 a2 a3 t393 _ A15.out).mono ?_); rintro e w' ⟨rfl, ⟨nd, rfl⟩⟩; refine ⟨_, rfl, ?_⟩))
        go_ret
        exact ⟨by rfl, by repeat (first | exact Drawn0.refl _ | apply Drawn0.step)⟩
       ·rw [if_neg c14] at H
        have c14b0 : (a0 == 9) = false := beq_eq_false_iff_ne.mpr c14
        have c14b1 : (a0 != 9) = true := bne_iff_ne.mpr c14
        by_cases c16 : a0 = 10
        ·rw [if_pos c16] at H
         have c16b0 : (a0 == 10) = true := beq_iff_eq.mpr c16
         have c16b1 : (a0 != 10) = false := bne_eq_false_iff_eq.mpr c16
         clear c16
         replace H := oB H
         obtain ⟨t394, A170, H⟩ := H
         have A17 := am A170
         clear A170
         obtain rfl := oI H
         go_enter Try.func116, Try.ntmps116
         go_wp2_with (first | ((with_reducible refine gate_callee (f := 136) rfl ?_); refine goesL_ (some 54) rfl rfl Try.func136 (by kernel_rfl) rfl #[.int .i64 a1, .int .i64 a2, .int .i64 a3] rfl tm ?_; (with_reducible refine (impl_Rem.calls a1 a2 a3 t394 _ A17.out).mono ?_); rintro e w' ⟨rfl, ⟨nd, rfl⟩⟩; refine ⟨_, rfl, ?_⟩))
         go_ret
         exact ⟨by rfl, by repeat (first | exact Drawn0.refl _ | apply Drawn0.step)⟩
        ·rw [if_neg c16] at H
         have c16b0 : (a0 == 10) = false := beq_eq_false_iff_ne.mpr c16
         have c16b1 : (a0 != 10) = true := bne_iff_ne.mpr c16
         by_cases c18 : a0 = 11
         ·rw [if_pos c18] at H
          have c18b0 : (a0 == 11) = true := beq_iff_eq.mpr c18
          have c18b1 : (a0 != 11) = false := bne_eq_false_iff_eq.mpr c18
          clear c18
          replace H := oB H
          obtain ⟨t395, A190, H⟩ := H
          have A19 := am A190
          clear A190
          obtain rfl := oI H
          go_enter Try.func116, Try.ntmps116
          go_wp2_with (first | ((with_reducible refine gate_callee (f := 137) rfl ?_); refine goesL_ (some 60) rfl rfl Try.func137 (by kernel_rfl) rfl #[.int .i64 a1, .int .i64 a2, .int .i64 a3] rfl tm ?_; (with_reducible refine (impl_Shl.calls a1 a2 a3 t395 _ A19.out).mono ?_); rintro e w' ⟨rfl, ⟨nd, rfl⟩⟩; refine ⟨_, rfl, ?_⟩))
          go_ret
          exact ⟨by rfl, by repeat (first | exact Drawn0.refl _ | apply Drawn0.step)⟩
         ·rw [if_neg c18] at H
          have c18b0 : (a0 == 11) = false := beq_eq_false_iff_ne.mpr c18
          have c18b1 : (a0 != 11) = true := bne_iff_ne.mpr c18
          replace H := oB H
          obtain ⟨t396, A200, H⟩ := H
          have A20 := am A200
          clear A200
          obtain rfl := oI H
          go_enter Try.func116, Try.ntmps116
          go_wp2_with (first | ((with_reducible refine gate_callee (f := 138) rfl ?_); refine goesL_ (some 64) rfl rfl Try.func138 (by kernel_rfl) rfl #[.int .i64 a1, .int .i64 a2, .int .i64 a3] rfl tm ?_; (with_reducible refine (impl_Shr.calls a1 a2 a3 t396 _ A20.out).mono ?_); rintro e w' ⟨rfl, ⟨nd, rfl⟩⟩; refine ⟨_, rfl, ?_⟩))
          go_ret
          exact ⟨by rfl, by repeat (first | exact Drawn0.refl _ | apply Drawn0.step)⟩
/-! ### impl_Less: function 117 -/
def impl_Less.f (a0 : Int) (a1 : Int) (a2 : Int) : Option (Int) := (impl_two.f a0 a1 a2).bind fun t397 => (if t397 = true then ((impl_bit.f (decide (a1 < a2))).bind fun t398 => (some t398)) else ((impl_bit.f false).bind fun t399 => (some t399)))
set_option maxHeartbeats 8000000 in
set_option maxRecDepth 100000 in
theorem impl_Less.calls (a0 : Int) (a1 : Int) (a2 : Int) (r : Int) (w : World) (h : impl_Less.f a0 a1 a2 = some r) :
  Calls Try.prog 117 #[.int .i64 a0, .int .i64 a1, .int .i64 a2] w fun e w' => e = .returned (.int .i64 r) ∧ Drawn0 w w' := by
 have H : ((impl_two.f a0 a1 a2).bind fun t397 => (if t397 = true then ((impl_bit.f (decide (a1 < a2))).bind fun t398 => (some t398)) else ((impl_bit.f false).bind fun t399 => (some t399)))) = some r := h
 clear h
 replace H := oB H
 obtain ⟨t397, A40, H⟩ := H
 have A4 := am A40
 clear A40
 by_cases c5 : t397 = true
 ·subst c5
  rw [if_pos rfl] at H
  replace H := oB H
  obtain ⟨t398, A60, H⟩ := H
  have A6 := am A60
  clear A60
  obtain rfl := oI H
  go_enter Try.func117, Try.ntmps117
  go_wp2_with (first | ((with_reducible refine gate_callee (f := 139) rfl ?_); refine goesL_ (some 10) rfl rfl Try.func139 (by kernel_rfl) rfl #[.int .i64 a0, .int .i64 a1, .int .i64 a2] rfl tm ?_; (with_reducible refine (impl_two.calls a0 a1 a2 true _ A4.out).mono ?_); rintro e w' ⟨rfl, ⟨nd, rfl⟩⟩; refine ⟨_, rfl, ?_⟩) | ((with_reducible refine gate_callee (f := 113) rfl ?_); refine goesL_ (some 16) rfl rfl Try.func113 (by kernel_rfl) rfl #[.bool (decide (a1 < a2))] rfl tm ?_; (with_reducible refine (impl_bit.calls (decide (a1 < a2)) t398 _ A6.out).mono ?_); rintro e w' ⟨rfl, ⟨nd, rfl⟩⟩; refine ⟨_, rfl, ?_⟩))
  go_ret
  exact ⟨by rfl, by repeat (first | exact Drawn0.refl _ | apply Drawn0.step)⟩
 ·replace c5 := Bool.eq_false_iff.mpr c5
  subst c5
  rw [if_neg (show ¬ (false = true) by decide)] at H
  replace H := oB H
  obtain ⟨t399, A70, H⟩ := H
  have A7 := am A70
  clear A70
  obtain rfl := oI H
  go_enter Try.func117, Try.ntmps117
  go_wp2_with (first | ((with_reducible refine gate_callee (f := 139) rfl ?_); refine goesL_ (some 10) rfl rfl Try.func139 (by kernel_rfl) rfl #[.int .i64 a0, .int .i64 a1, .int .i64 a2] rfl tm ?_; (with_reducible refine (impl_two.calls a0 a1 a2 false _ A4.out).mono ?_); rintro e w' ⟨rfl, ⟨nd, rfl⟩⟩; refine ⟨_, rfl, ?_⟩) | ((with_reducible refine gate_callee (f := 113) rfl ?_); refine goesL_ (some 16) rfl rfl Try.func113 (by kernel_rfl) rfl #[.bool false] rfl tm ?_; (with_reducible refine (impl_bit.calls false t399 _ A7.out).mono ?_); rintro e w' ⟨rfl, ⟨nd, rfl⟩⟩; refine ⟨_, rfl, ?_⟩))
  go_ret
  exact ⟨by rfl, by repeat (first | exact Drawn0.refl _ | apply Drawn0.step)⟩
/-! ### impl_Signed: function 140 -/
def impl_Signed.f (a0 : Int) (a1 : Int) : Option (Int) := (impl_WordOk.f a0 a1).bind fun t400 => (if t400 = true then (if 0 ≤ (IntKind.u64.wrap (wrap64 (a0 - 1))) then (if a1 ≥ (shl .i64 1 (IntKind.u64.wrap (wrap64 (a0 - 1)))) then (if 0 ≤ (IntKind.u64.wrap (a0)) then (some (wrap64 (a1 - (shl .i64 1 (IntKind.u64.wrap (a0)))))) else (none)) else (some a1)) else (none)) else (some 0))
set_option maxHeartbeats 8000000 in
set_option maxRecDepth 100000 in
theorem impl_Signed.calls (a0 : Int) (a1 : Int) (r : Int) (w : World) (h : impl_Signed.f a0 a1 = some r) :
  Calls Try.prog 140 #[.int .i64 a0, .int .i64 a1] w fun e w' => e = .returned (.int .i64 r) ∧ Drawn0 w w' := by
 have H : ((impl_WordOk.f a0 a1).bind fun t400 => (if t400 = true then (if 0 ≤ (IntKind.u64.wrap (wrap64 (a0 - 1))) then (if a1 ≥ (shl .i64 1 (IntKind.u64.wrap (wrap64 (a0 - 1)))) then (if 0 ≤ (IntKind.u64.wrap (a0)) then (some (wrap64 (a1 - (shl .i64 1 (IntKind.u64.wrap (a0)))))) else (none)) else (some a1)) else (none)) else (some 0))) = some r := h
 clear h
 replace H := oB H
 obtain ⟨t400, A30, H⟩ := H
 have A3 := am A30
 clear A30
 by_cases c4 : t400 = true
 ·subst c4
  rw [if_pos rfl] at H
  obtain ⟨ji5, hji5⟩ : ∃ j_ : Int, (IntKind.u64.wrap (wrap64 (a0 - 1))) = j_ := ⟨_, rfl⟩
  replace H : (if 0 ≤ (ji5) then (if a1 ≥ (shl .i64 1 (ji5)) then (if 0 ≤ (IntKind.u64.wrap (a0)) then (some (wrap64 (a1 - (shl .i64 1 (IntKind.u64.wrap (a0)))))) else (none)) else (some a1)) else (none)) = some r := by (rw [hji5] at H; exact H)
  (try rw [hji5] at A3)
  by_cases c6 : 0 ≤ (ji5)
  ·rw [if_pos c6] at H
   have c6b0 := eq_true c6
   have c6b1 : decide (0 ≤ (ji5)) = true := decide_eq_true c6
   clear c6
   obtain ⟨ji7, hji7⟩ : ∃ j_ : Int, (shl .i64 1 (ji5)) = j_ := ⟨_, rfl⟩
   replace H : (if a1 ≥ (ji7) then (if 0 ≤ (IntKind.u64.wrap (a0)) then (some (wrap64 (a1 - (shl .i64 1 (IntKind.u64.wrap (a0)))))) else (none)) else (some a1)) = some r := by (rw [hji7] at H; exact H)
   (try rw [hji7] at A3)
   have hji7_ : (IntKind.i64.wrap (1 * 2 ^ min (ji5).toNat 64)) = ji7 := hji7
   have hji7z : (ji5) ≤ 64 → (IntKind.i64.wrap (1 * 2 ^ (ji5).toNat)) = ji7 := shl_small hji7
   have hji7u : (IntKind.i64.wrap (2 ^ min (ji5).toNat 64)) = ji7 := by have h_ := hji7_; rw [Int.one_mul] at h_; exact h_
   have hji7v : (ji5) ≤ 64 → (IntKind.i64.wrap (2 ^ (ji5).toNat)) = ji7 := fun hle_ => by have h_ := hji7z hle_; rw [Int.one_mul] at h_; exact h_
   have hji7y : (wrap64 (1 * 2 ^ min (ji5).toNat 64)) = ji7 := (i64_w _).symm.trans hji7_
   have hji7x : (ji5) ≤ 64 → (wrap64 (1 * 2 ^ (ji5).toNat)) = ji7 := fun h_ => (i64_w _).symm.trans (hji7z h_)
   by_cases c8 : a1 ≥ (ji7)
   ·rw [if_pos c8] at H
    have c8b0 : decide ((ji7) ≤ a1) = true := decide_eq_true c8
    clear c8
    obtain ⟨ji9, hji9⟩ : ∃ j_ : Int, (IntKind.u64.wrap (a0)) = j_ := ⟨_, rfl⟩
    replace H : (if 0 ≤ (ji9) then (some (wrap64 (a1 - (shl .i64 1 (ji9))))) else (none)) = some r := by (rw [hji9] at H; exact H)
    (try rw [hji9] at A3)
    by_cases c10 : 0 ≤ (ji9)
    ·rw [if_pos c10] at H
     have c10b0 := eq_true c10
     have c10b1 : decide (0 ≤ (ji9)) = true := decide_eq_true c10
     clear c10
     obtain ⟨ji11, hji11⟩ : ∃ j_ : Int, (shl .i64 1 (ji9)) = j_ := ⟨_, rfl⟩
     replace H : (some (wrap64 (a1 - (ji11)))) = some r := by (rw [hji11] at H; exact H)
     (try rw [hji11] at A3)
     have hji11_ : (IntKind.i64.wrap (1 * 2 ^ min (ji9).toNat 64)) = ji11 := hji11
     have hji11z : (ji9) ≤ 64 → (IntKind.i64.wrap (1 * 2 ^ (ji9).toNat)) = ji11 := shl_small hji11
     have hji11u : (IntKind.i64.wrap (2 ^ min (ji9).toNat 64)) = ji11 := by have h_ := hji11_; rw [Int.one_mul] at h_; exact h_
     have hji11v : (ji9) ≤ 64 → (IntKind.i64.wrap (2 ^ (ji9).toNat)) = ji11 := fun hle_ => by have h_ := hji11z hle_; rw [Int.one_mul] at h_; exact h_
     have hji11y : (wrap64 (1 * 2 ^ min (ji9).toNat 64)) = ji11 := (i64_w _).symm.trans hji11_
     have hji11x : (ji9) ≤ 64 → (wrap64 (1 * 2 ^ (ji9).toNat)) = ji11 := fun h_ => (i64_w _).symm.trans (hji11z h_)
     obtain rfl := oI H
     go_enter Try.func140, Try.ntmps140
     go_wp2_with (first | ((with_reducible refine gate_callee (f := 54) rfl ?_); refine goesL_ (some 8) rfl rfl Try.func54 (by kernel_rfl) rfl #[.int .i64 a0, .int .i64 a1] rfl tm ?_; (with_reducible refine (impl_WordOk.calls a0 a1 true _ A3.out).mono ?_); rintro e w' ⟨rfl, ⟨nd, rfl⟩⟩; refine ⟨_, rfl, ?_⟩))
     go_ret
     exact ⟨by rfl, by repeat (first | exact Drawn0.refl _ | apply Drawn0.step)⟩
    ·rw [if_neg c10] at H
     exact absurd H (by simp)
   ·rw [if_neg c8] at H
    have c8b0 : decide ((ji7) ≤ a1) = false := decide_eq_false c8
    clear c8
    obtain rfl := oI H
    go_enter Try.func140, Try.ntmps140
    go_wp2_with (first | ((with_reducible refine gate_callee (f := 54) rfl ?_); refine goesL_ (some 8) rfl rfl Try.func54 (by kernel_rfl) rfl #[.int .i64 a0, .int .i64 a1] rfl tm ?_; (with_reducible refine (impl_WordOk.calls a0 a1 true _ A3.out).mono ?_); rintro e w' ⟨rfl, ⟨nd, rfl⟩⟩; refine ⟨_, rfl, ?_⟩))
    go_ret
    exact ⟨by rfl, by repeat (first | exact Drawn0.refl _ | apply Drawn0.step)⟩
  ·rw [if_neg c6] at H
   exact absurd H (by simp)
 ·replace c4 := Bool.eq_false_iff.mpr c4
  subst c4
  rw [if_neg (show ¬ (false = true) by decide)] at H
  obtain rfl := oI H
  go_enter Try.func140, Try.ntmps140
  go_wp2_with (first | ((with_reducible refine gate_callee (f := 54) rfl ?_); refine goesL_ (some 8) rfl rfl Try.func54 (by kernel_rfl) rfl #[.int .i64 a0, .int .i64 a1] rfl tm ?_; (with_reducible refine (impl_WordOk.calls a0 a1 false _ A3.out).mono ?_); rintro e w' ⟨rfl, ⟨nd, rfl⟩⟩; refine ⟨_, rfl, ?_⟩))
  go_ret
  exact ⟨by rfl, by repeat (first | exact Drawn0.refl _ | apply Drawn0.step)⟩
/-! ### impl_LessSigned: function 118 -/
def impl_LessSigned.f (a0 : Int) (a1 : Int) (a2 : Int) : Option (Int) := (impl_two.f a0 a1 a2).bind fun t401 => (if t401 = true then ((impl_Signed.f a0 a1).bind fun t402 => ((impl_Signed.f a0 a2).bind fun t403 => ((impl_bit.f (decide (t402 < t403))).bind fun t404 => (some t404)))) else ((impl_bit.f false).bind fun t405 => (some t405)))
set_option maxHeartbeats 8000000 in
set_option maxRecDepth 100000 in
theorem impl_LessSigned.calls (a0 : Int) (a1 : Int) (a2 : Int) (r : Int) (w : World) (h : impl_LessSigned.f a0 a1 a2 = some r) :
  Calls Try.prog 118 #[.int .i64 a0, .int .i64 a1, .int .i64 a2] w fun e w' => e = .returned (.int .i64 r) ∧ Drawn0 w w' := by
 have H : ((impl_two.f a0 a1 a2).bind fun t401 => (if t401 = true then ((impl_Signed.f a0 a1).bind fun t402 => ((impl_Signed.f a0 a2).bind fun t403 => ((impl_bit.f (decide (t402 < t403))).bind fun t404 => (some t404)))) else ((impl_bit.f false).bind fun t405 => (some t405)))) = some r := h
 clear h
 replace H := oB H
 obtain ⟨t401, A40, H⟩ := H
 have A4 := am A40
 clear A40
 by_cases c5 : t401 = true
 ·subst c5
  rw [if_pos rfl] at H
  replace H := oB H
  obtain ⟨t402, A60, H⟩ := H
  have A6 := am A60
  clear A60
  replace H := oB H
  obtain ⟨t403, A70, H⟩ := H
  have A7 := am A70
  clear A70
  replace H := oB H
  obtain ⟨t404, A80, H⟩ := H
  have A8 := am A80
  clear A80
  obtain rfl := oI H
  go_enter Try.func118, Try.ntmps118
  go_wp2_with (first | ((with_reducible refine gate_callee (f := 139) rfl ?_); refine goesL_ (some 10) rfl rfl Try.func139 (by kernel_rfl) rfl #[.int .i64 a0, .int .i64 a1, .int .i64 a2] rfl tm ?_; (with_reducible refine (impl_two.calls a0 a1 a2 true _ A4.out).mono ?_); rintro e w' ⟨rfl, ⟨nd, rfl⟩⟩; refine ⟨_, rfl, ?_⟩) | (go_at_call 140; (with_reducible refine (impl_Signed.calls a0 a1 t402 _ A6.out).mono ?_); rintro e w' ⟨rfl, ⟨nd, rfl⟩⟩) | (go_at_call 140; (with_reducible refine (impl_Signed.calls a0 a2 t403 _ A7.out).mono ?_); rintro e w' ⟨rfl, ⟨nd, rfl⟩⟩) | ((with_reducible refine gate_callee (f := 113) rfl ?_); refine goesL_ (some 20) rfl rfl Try.func113 (by kernel_rfl) rfl #[.bool (decide (t402 < t403))] rfl tm ?_; (with_reducible refine (impl_bit.calls (decide (t402 < t403)) t404 _ A8.out).mono ?_); rintro e w' ⟨rfl, ⟨nd, rfl⟩⟩; refine ⟨_, rfl, ?_⟩))
  go_ret
  exact ⟨by rfl, by repeat (first | exact Drawn0.refl _ | apply Drawn0.step)⟩
 ·replace c5 := Bool.eq_false_iff.mpr c5
  subst c5
  rw [if_neg (show ¬ (false = true) by decide)] at H
  replace H := oB H
  obtain ⟨t405, A90, H⟩ := H
  have A9 := am A90
  clear A90
  obtain rfl := oI H
  go_enter Try.func118, Try.ntmps118
  go_wp2_with (first | ((with_reducible refine gate_callee (f := 139) rfl ?_); refine goesL_ (some 10) rfl rfl Try.func139 (by kernel_rfl) rfl #[.int .i64 a0, .int .i64 a1, .int .i64 a2] rfl tm ?_; (with_reducible refine (impl_two.calls a0 a1 a2 false _ A4.out).mono ?_); rintro e w' ⟨rfl, ⟨nd, rfl⟩⟩; refine ⟨_, rfl, ?_⟩) | ((with_reducible refine gate_callee (f := 113) rfl ?_); refine goesL_ (some 20) rfl rfl Try.func113 (by kernel_rfl) rfl #[.bool false] rfl tm ?_; (with_reducible refine (impl_bit.calls false t405 _ A9.out).mono ?_); rintro e w' ⟨rfl, ⟨nd, rfl⟩⟩; refine ⟨_, rfl, ?_⟩))
  go_ret
  exact ⟨by rfl, by repeat (first | exact Drawn0.refl _ | apply Drawn0.step)⟩
/-! ### impl_Slice: function 119 -/
def impl_Slice.f (a0 : Int) (a1 : Int) (a2 : Int) (a3 : Int) : Option (Int) := (impl_WordOk.f a0 a1).bind fun t406 => (if t406 = true then ((impl_within.f a3 1 a0).bind fun t407 => (if t407 = true then ((impl_within.f a2 0 (wrap64 (a0 - a3))).bind fun t408 => (if t408 = true then (if 0 ≤ (IntKind.u64.wrap (a2)) then ((impl_cut.f a3 (shr .i64 a1 (IntKind.u64.wrap (a2)))).bind fun t409 => (some t409)) else (none)) else (some 0))) else (some 0))) else (some 0))
set_option maxHeartbeats 8000000 in
set_option maxRecDepth 100000 in
theorem impl_Slice.calls (a0 : Int) (a1 : Int) (a2 : Int) (a3 : Int) (r : Int) (w : World) (h : impl_Slice.f a0 a1 a2 a3 = some r) :
  Calls Try.prog 119 #[.int .i64 a0, .int .i64 a1, .int .i64 a2, .int .i64 a3] w fun e w' => e = .returned (.int .i64 r) ∧ Drawn0 w w' := by
 have H : ((impl_WordOk.f a0 a1).bind fun t406 => (if t406 = true then ((impl_within.f a3 1 a0).bind fun t407 => (if t407 = true then ((impl_within.f a2 0 (wrap64 (a0 - a3))).bind fun t408 => (if t408 = true then (if 0 ≤ (IntKind.u64.wrap (a2)) then ((impl_cut.f a3 (shr .i64 a1 (IntKind.u64.wrap (a2)))).bind fun t409 => (some t409)) else (none)) else (some 0))) else (some 0))) else (some 0))) = some r := h
 clear h
 replace H := oB H
 obtain ⟨t406, A50, H⟩ := H
 have A5 := am A50
 clear A50
 by_cases c6 : t406 = true
 ·subst c6
  rw [if_pos rfl] at H
  replace H := oB H
  obtain ⟨t407, A70, H⟩ := H
  have A7 := am A70
  clear A70
  by_cases c8 : t407 = true
  ·subst c8
   rw [if_pos rfl] at H
   replace H := oB H
   obtain ⟨t408, A90, H⟩ := H
   have A9 := am A90
   clear A90
   by_cases c10 : t408 = true
   ·subst c10
    rw [if_pos rfl] at H
    obtain ⟨ji11, hji11⟩ : ∃ j_ : Int, (IntKind.u64.wrap (a2)) = j_ := ⟨_, rfl⟩
    replace H : (if 0 ≤ (ji11) then ((impl_cut.f a3 (shr .i64 a1 (ji11))).bind fun t409 => (some t409)) else (none)) = some r := by (rw [hji11] at H; exact H)
    (try rw [hji11] at A5)
    (try rw [hji11] at A7)
    (try rw [hji11] at A9)
    by_cases c12 : 0 ≤ (ji11)
    ·rw [if_pos c12] at H
     have c12b0 := eq_true c12
     have c12b1 : decide (0 ≤ (ji11)) = true := decide_eq_true c12
     clear c12
     obtain ⟨ji13, hji13⟩ : ∃ j_ : Int, (shr .i64 a1 (ji11)) = j_ := ⟨_, rfl⟩
     replace H : ((impl_cut.f a3 (ji13)).bind fun t409 => (some t409)) = some r := by (rw [hji13] at H; exact H)
     (try rw [hji13] at A5)
     (try rw [hji13] at A7)
     (try rw [hji13] at A9)
     have hji13_ : (a1 / 2 ^ min (ji11).toNat 64) = ji13 := hji13
     have hji13z : (ji11) ≤ 64 → (a1 / 2 ^ (ji11).toNat) = ji13 := shr_small hji13
     replace H := oB H
     obtain ⟨t409, A140, H⟩ := H
     have A14 := am A140
     clear A140
     obtain rfl := oI H
     go_enter Try.func119, Try.ntmps119
     go_wp2_with (first | ((with_reducible refine gate_callee (f := 54) rfl ?_); refine goesL_ (some 11) rfl rfl Try.func54 (by kernel_rfl) rfl #[.int .i64 a0, .int .i64 a1] rfl tm ?_; (with_reducible refine (impl_WordOk.calls a0 a1 true _ A5.out).mono ?_); rintro e w' ⟨rfl, ⟨nd, rfl⟩⟩; refine ⟨_, rfl, ?_⟩) | (go_at_call 72; (with_reducible refine (impl_within.calls a3 1 a0 true _ A7.out).mono ?_); rintro e w' ⟨rfl, ⟨nd, rfl⟩⟩) | (go_at_call 72; (with_reducible refine (impl_within.calls a2 0 (wrap64 (a0 - a3)) true _ A9.out).mono ?_); rintro e w' ⟨rfl, ⟨nd, rfl⟩⟩) | ((with_reducible refine gate_callee (f := 141) rfl ?_); refine goesL_ (some 32) rfl rfl Try.func141 (by kernel_rfl) rfl #[.int .i64 a3, .int .i64 ji13] rfl tm ?_; (with_reducible refine (impl_cut.calls a3 ji13 t409 _ A14.out).mono ?_); rintro e w' ⟨rfl, ⟨nd, rfl⟩⟩; refine ⟨_, rfl, ?_⟩))
     go_ret
     exact ⟨by rfl, by repeat (first | exact Drawn0.refl _ | apply Drawn0.step)⟩
    ·rw [if_neg c12] at H
     exact absurd H (by simp)
   ·replace c10 := Bool.eq_false_iff.mpr c10
    subst c10
    rw [if_neg (show ¬ (false = true) by decide)] at H
    obtain rfl := oI H
    go_enter Try.func119, Try.ntmps119
    go_wp2_with (first | ((with_reducible refine gate_callee (f := 54) rfl ?_); refine goesL_ (some 11) rfl rfl Try.func54 (by kernel_rfl) rfl #[.int .i64 a0, .int .i64 a1] rfl tm ?_; (with_reducible refine (impl_WordOk.calls a0 a1 true _ A5.out).mono ?_); rintro e w' ⟨rfl, ⟨nd, rfl⟩⟩; refine ⟨_, rfl, ?_⟩) | (go_at_call 72; (with_reducible refine (impl_within.calls a3 1 a0 true _ A7.out).mono ?_); rintro e w' ⟨rfl, ⟨nd, rfl⟩⟩) | (go_at_call 72; (with_reducible refine (impl_within.calls a2 0 (wrap64 (a0 - a3)) false _ A9.out).mono ?_); rintro e w' ⟨rfl, ⟨nd, rfl⟩⟩))
    go_ret
    exact ⟨by rfl, by repeat (first | exact Drawn0.refl _ | apply Drawn0.step)⟩
  ·replace c8 := Bool.eq_false_iff.mpr c8
   subst c8
   rw [if_neg (show ¬ (false = true) by decide)] at H
   obtain rfl := oI H
   go_enter Try.func119, Try.ntmps119
   go_wp2_with (first | ((with_reducible refine gate_callee (f := 54) rfl ?_); refine goesL_ (some 11) rfl rfl Try.func54 (by kernel_rfl) rfl #[.int .i64 a0, .int .i64 a1] rfl tm ?_; (with_reducible refine (impl_WordOk.calls a0 a1 true _ A5.out).mono ?_); rintro e w' ⟨rfl, ⟨nd, rfl⟩⟩; refine ⟨_, rfl, ?_⟩) | (go_at_call 72; (with_reducible refine (impl_within.calls a3 1 a0 false _ A7.out).mono ?_); rintro e w' ⟨rfl, ⟨nd, rfl⟩⟩))
   go_ret
   exact ⟨by rfl, by repeat (first | exact Drawn0.refl _ | apply Drawn0.step)⟩
 ·replace c6 := Bool.eq_false_iff.mpr c6
  subst c6
  rw [if_neg (show ¬ (false = true) by decide)] at H
  obtain rfl := oI H
  go_enter Try.func119, Try.ntmps119
  go_wp2_with (first | ((with_reducible refine gate_callee (f := 54) rfl ?_); refine goesL_ (some 11) rfl rfl Try.func54 (by kernel_rfl) rfl #[.int .i64 a0, .int .i64 a1] rfl tm ?_; (with_reducible refine (impl_WordOk.calls a0 a1 false _ A5.out).mono ?_); rintro e w' ⟨rfl, ⟨nd, rfl⟩⟩; refine ⟨_, rfl, ?_⟩))
  go_ret
  exact ⟨by rfl, by repeat (first | exact Drawn0.refl _ | apply Drawn0.step)⟩
/-! ### impl_Apply: function 79 -/
mutual
def impl_Apply.j0 : Nat → Int → Int → Int → Int → Bool → Int → Int → Int → Int → Int → Int → Option (Int)
 | 0, _, _, _, _, _, _, _, _, _, _, _ => none
 | k + 1, x1, x2, x3, x4, x34, x411000, x411001, x411002, x411003, x411004, x411005 => if x34 = true then (some 0) else (if x411000 = 0 then (some x411002) else (if x411000 = 2 then ((impl_Flip.f x411001 x2).bind fun t416 => (some t416)) else ((impl_within.f x411000 3 12).bind fun t417 => (if t417 = true then ((impl_binary.f x411000 x411001 x2 x3).bind fun t418 => (some t418)) else (if x411000 = 13 then ((impl_bit.f (x2 == x3)).bind fun t419 => (some t419)) else (if x411000 = 14 then ((impl_Less.f x1 x2 x3).bind fun t420 => (some t420)) else (if x411000 = 15 then ((impl_LessSigned.f x1 x2 x3).bind fun t421 => (some t421)) else (if x411000 = 16 then (impl_Apply.j1 k x1 x2 x3 x4 (decide (x411001 < x1)) x411000 x411001 x411002 x411003 x411004 x411005) else (impl_Apply.j1 k x1 x2 x3 x4 false x411000 x411001 x411002 x411003 x411004 x411005)))))))))
def impl_Apply.j1 : Nat → Int → Int → Int → Int → Bool → Int → Int → Int → Int → Int → Int → Option (Int)
 | 0, _, _, _, _, _, _, _, _, _, _, _ => none
 | k + 1, x1, x2, x3, x4, x84, x411000, x411001, x411002, x411003, x411004, x411005 => if x84 = true then (some x3) else (if x411000 = 16 then (if 0 ≤ (IntKind.u64.wrap (wrap64 (x411001 - x1))) then (some (wrap64 ((shl .i64 x2 (IntKind.u64.wrap (wrap64 (x411001 - x1)))) + x3))) else (none)) else (if x411000 = 17 then ((impl_Slice.f x1 x2 x411002 x411001).bind fun t422 => (some t422)) else (if x411000 = 18 then (impl_Apply.j2 k x3 x4 (x2 == 1) x411000 x411001 x411002 x411003 x411004 x411005) else (impl_Apply.j2 k x3 x4 false x411000 x411001 x411002 x411003 x411004 x411005))))
def impl_Apply.j2 : Nat → Int → Int → Bool → Int → Int → Int → Int → Int → Int → Option (Int)
 | 0, _, _, _, _, _, _, _, _, _ => none
 | k + 1, x3, x4, x119, x411000, x411001, x411002, x411003, x411004, x411005 => if x119 = true then (some x3) else (if x411000 = 18 then (some x4) else (some 0))
end
def impl_Apply.f (k : Nat) (a0_0 : Int) (a0_1 : Int) (a0_2 : Int) (a0_3 : Int) (a0_4 : Int) (a0_5 : Int) (a1 : Int) (a2 : Int) (a3 : Int) (a4 : Int) : Option (Int) := (impl_isWidth.f a0_1).bind fun t411 => (if t411 = true then ((impl_isWidth.f a1).bind fun t412 => (if t412 = true then ((impl_isByte.f a2).bind fun t413 => (if t413 = true then ((impl_isByte.f a3).bind fun t414 => (if t414 = true then ((impl_isByte.f a4).bind fun t415 => (impl_Apply.j0 k a1 a2 a3 a4 (!t415) a0_0 a0_1 a0_2 a0_3 a0_4 a0_5)) else (impl_Apply.j0 k a1 a2 a3 a4 true a0_0 a0_1 a0_2 a0_3 a0_4 a0_5))) else (impl_Apply.j0 k a1 a2 a3 a4 true a0_0 a0_1 a0_2 a0_3 a0_4 a0_5))) else (impl_Apply.j0 k a1 a2 a3 a4 true a0_0 a0_1 a0_2 a0_3 a0_4 a0_5))) else (impl_Apply.j0 k a1 a2 a3 a4 true a0_0 a0_1 a0_2 a0_3 a0_4 a0_5))
set_option maxHeartbeats 8000000 in
set_option maxRecDepth 100000 in
theorem impl_Apply.calls (k : Nat) (a0_0 : Int) (a0_1 : Int) (a0_2 : Int) (a0_3 : Int) (a0_4 : Int) (a0_5 : Int) (a1 : Int) (a2 : Int) (a3 : Int) (a4 : Int) (r : Int) (w : World) (h : impl_Apply.f k a0_0 a0_1 a0_2 a0_3 a0_4 a0_5 a1 a2 a3 a4 = some r) :
  Calls Try.prog 79 #[.agg #[.int .i64 a0_0, .int .i64 a0_1, .int .i64 a0_2, .int .i64 a0_3, .int .i64 a0_4, .int .i64 a0_5], .int .i64 a1, .int .i64 a2, .int .i64 a3, .int .i64 a4] w fun e w' => e = .returned (.int .i64 r) ∧ Below w.heap.size w w' := by
 have hu31 := Try.underlying31
 have HB := am (Below.refl w.heap.size w)
 have H : ((impl_isWidth.f a0_1).bind fun t411 => (if t411 = true then ((impl_isWidth.f a1).bind fun t412 => (if t412 = true then ((impl_isByte.f a2).bind fun t413 => (if t413 = true then ((impl_isByte.f a3).bind fun t414 => (if t414 = true then ((impl_isByte.f a4).bind fun t415 => (impl_Apply.j0 k a1 a2 a3 a4 (!t415) a0_0 a0_1 a0_2 a0_3 a0_4 a0_5)) else (impl_Apply.j0 k a1 a2 a3 a4 true a0_0 a0_1 a0_2 a0_3 a0_4 a0_5))) else (impl_Apply.j0 k a1 a2 a3 a4 true a0_0 a0_1 a0_2 a0_3 a0_4 a0_5))) else (impl_Apply.j0 k a1 a2 a3 a4 true a0_0 a0_1 a0_2 a0_3 a0_4 a0_5))) else (impl_Apply.j0 k a1 a2 a3 a4 true a0_0 a0_1 a0_2 a0_3 a0_4 a0_5))) = some r := h
 clear h
 have HC6 := am H
 clear H
 go_enter Try.func79, Try.ntmps79
 go_upto_region 1 with (first | ((with_reducible refine gate_dst (N := 5) rfl ?_); refine box_event ?hg (N := 5) ?hd (cs := #[.int .i64 a0_0, .int .i64 a0_1, .int .i64 a0_2, .int .i64 a0_3, .int .i64 a0_4, .int .i64 a0_5]) (t := 31) ?hr ?_; (case hd => rfl); (case hg => rfl); (case hr => (go_simp; done)); intro gb410 hg w7 hbox hb; have n0_ := am (below_step (by exact sW HB.out) hb); have n1_ := am (hbox); have n2_ := am ((by rw [hg]; exact (below_size (by exact sW HB.out)) : w.heap.size ≤ gb410)); have n3_ := am ((by rw [hg]; exact (below_size (by exact sW HB.out)) : w.heap.size ≤ gb410)); clear HB; have HB := n0_; have BK410 := n1_; have GW410 := n2_; have GE410 := n3_; clear n0_ n1_ n2_ n3_; clear hb hbox hg))
 (try simp only [Act.put, List.setIfInBounds_toArray, List.set_cons_zero, List.set_cons_succ])
 go_cut [34] (fun v34 wc => ∃ (kq : Nat) (x34_5 : Bool), v34 = .bool x34_5 ∧ Aside0 (impl_Apply.j0 kq a1 a2 a3 a4 x34_5 a0_0 a0_1 a0_2 a0_3 a0_4 a0_5 = some r) ∧ Aside0 (kq ≤ k) ∧ Aside0 (wc.heap[gb410]? = some (.cells #[.int .i64 a0_0, .int .i64 a0_1, .int .i64 a0_2, .int .i64 a0_3, .int .i64 a0_4, .int .i64 a0_5] 31 (0, 0))) ∧ Aside0 (Below w.heap.size w wc))
 case first =>
  have H := HC6.out
  clear HC6
  replace H := oB H
  obtain ⟨t411, A80, H⟩ := H
  have A8 := am A80
  clear A80
  by_cases c9 : t411 = true
  ·subst c9
   rw [if_pos rfl] at H
   replace H := oB H
   obtain ⟨t412, A100, H⟩ := H
   have A10 := am A100
   clear A100
   by_cases c11 : t412 = true
   ·subst c11
    rw [if_pos rfl] at H
    replace H := oB H
    obtain ⟨t413, A120, H⟩ := H
    have A12 := am A120
    clear A120
    by_cases c13 : t413 = true
    ·subst c13
     rw [if_pos rfl] at H
     replace H := oB H
     obtain ⟨t414, A140, H⟩ := H
     have A14 := am A140
     clear A140
     by_cases c15 : t414 = true
     ·subst c15
      rw [if_pos rfl] at H
      replace H := oB H
      obtain ⟨t415, A160, H⟩ := H
      have A16 := am A160
      clear A160
      have H' := am H
      clear H
      obtain ⟨hcz17_0, hcz17_1, hcz17_2, hcz17_3, hcz17_4, hcz17_5⟩ := cz6 BK410.out
      obtain ⟨hfz17_0, hfz17_1, hfz17_2, hfz17_3, hfz17_4, hfz17_5⟩ := fz6 BK410.out
      go_wp2_with (first | ((with_reducible refine gate_callee (f := 83) rfl ?_); refine goesL_ (some 13) rfl rfl Try.func83 (by kernel_rfl) rfl #[.int .i64 a0_1] rfl tm ?_; (with_reducible refine (impl_isWidth.calls a0_1 true _ A8.out).mono ?_); rintro e w' ⟨rfl, ⟨nd, rfl⟩⟩; refine ⟨_, rfl, ?_⟩) | (go_at_call 83; (with_reducible refine (impl_isWidth.calls a1 true _ A10.out).mono ?_); rintro e w' ⟨rfl, ⟨nd, rfl⟩⟩) | (go_at_call 114; (with_reducible refine (impl_isByte.calls a2 true _ A12.out).mono ?_); rintro e w' ⟨rfl, ⟨nd, rfl⟩⟩) | (go_at_call 114; (with_reducible refine (impl_isByte.calls a3 true _ A14.out).mono ?_); rintro e w' ⟨rfl, ⟨nd, rfl⟩⟩) | (go_at_call 114; (with_reducible refine (impl_isByte.calls a4 t415 _ A16.out).mono ?_); rintro e w' ⟨rfl, ⟨nd, rfl⟩⟩))
      go_meet
      case rel => exact ⟨_, (!t415), (by rfl), H', ⟨by omega⟩, ⟨by exact sB <| BK410.out⟩, ⟨by exact bW⟩⟩
     ·replace c15 := Bool.eq_false_iff.mpr c15
      subst c15
      rw [if_neg (show ¬ (false = true) by decide)] at H
      have H' := am H
      clear H
      obtain ⟨hcz18_0, hcz18_1, hcz18_2, hcz18_3, hcz18_4, hcz18_5⟩ := cz6 BK410.out
      obtain ⟨hfz18_0, hfz18_1, hfz18_2, hfz18_3, hfz18_4, hfz18_5⟩ := fz6 BK410.out
      go_wp2_with (first | ((with_reducible refine gate_callee (f := 83) rfl ?_); refine goesL_ (some 13) rfl rfl Try.func83 (by kernel_rfl) rfl #[.int .i64 a0_1] rfl tm ?_; (with_reducible refine (impl_isWidth.calls a0_1 true _ A8.out).mono ?_); rintro e w' ⟨rfl, ⟨nd, rfl⟩⟩; refine ⟨_, rfl, ?_⟩) | (go_at_call 83; (with_reducible refine (impl_isWidth.calls a1 true _ A10.out).mono ?_); rintro e w' ⟨rfl, ⟨nd, rfl⟩⟩) | (go_at_call 114; (with_reducible refine (impl_isByte.calls a2 true _ A12.out).mono ?_); rintro e w' ⟨rfl, ⟨nd, rfl⟩⟩) | (go_at_call 114; (with_reducible refine (impl_isByte.calls a3 false _ A14.out).mono ?_); rintro e w' ⟨rfl, ⟨nd, rfl⟩⟩))
      go_meet
      case rel => exact ⟨_, (true), (by rfl), H', ⟨by omega⟩, ⟨by exact sB <| BK410.out⟩, ⟨by exact bW⟩⟩
    ·replace c13 := Bool.eq_false_iff.mpr c13
     subst c13
     rw [if_neg (show ¬ (false = true) by decide)] at H
     have H' := am H
     clear H
     obtain ⟨hcz19_0, hcz19_1, hcz19_2, hcz19_3, hcz19_4, hcz19_5⟩ := cz6 BK410.out
     obtain ⟨hfz19_0, hfz19_1, hfz19_2, hfz19_3, hfz19_4, hfz19_5⟩ := fz6 BK410.out
     go_wp2_with (first | ((with_reducible refine gate_callee (f := 83) rfl ?_); refine goesL_ (some 13) rfl rfl Try.func83 (by kernel_rfl) rfl #[.int .i64 a0_1] rfl tm ?_; (with_reducible refine (impl_isWidth.calls a0_1 true _ A8.out).mono ?_); rintro e w' ⟨rfl, ⟨nd, rfl⟩⟩; refine ⟨_, rfl, ?_⟩) | (go_at_call 83; (with_reducible refine (impl_isWidth.calls a1 true _ A10.out).mono ?_); rintro e w' ⟨rfl, ⟨nd, rfl⟩⟩) | (go_at_call 114; (with_reducible refine (impl_isByte.calls a2 false _ A12.out).mono ?_); rintro e w' ⟨rfl, ⟨nd, rfl⟩⟩))
     go_meet
     case rel => exact ⟨_, (true), (by rfl), H', ⟨by omega⟩, ⟨by exact sB <| BK410.out⟩, ⟨by exact bW⟩⟩
   ·replace c11 := Bool.eq_false_iff.mpr c11
    subst c11
    rw [if_neg (show ¬ (false = true) by decide)] at H
    have H' := am H
    clear H
    obtain ⟨hcz20_0, hcz20_1, hcz20_2, hcz20_3, hcz20_4, hcz20_5⟩ := cz6 BK410.out
    obtain ⟨hfz20_0, hfz20_1, hfz20_2, hfz20_3, hfz20_4, hfz20_5⟩ := fz6 BK410.out
    go_wp2_with (first | ((with_reducible refine gate_callee (f := 83) rfl ?_); refine goesL_ (some 13) rfl rfl Try.func83 (by kernel_rfl) rfl #[.int .i64 a0_1] rfl tm ?_; (with_reducible refine (impl_isWidth.calls a0_1 true _ A8.out).mono ?_); rintro e w' ⟨rfl, ⟨nd, rfl⟩⟩; refine ⟨_, rfl, ?_⟩) | (go_at_call 83; (with_reducible refine (impl_isWidth.calls a1 false _ A10.out).mono ?_); rintro e w' ⟨rfl, ⟨nd, rfl⟩⟩))
    go_meet
    case rel => exact ⟨_, (true), (by rfl), H', ⟨by omega⟩, ⟨by exact sB <| BK410.out⟩, ⟨by exact bW⟩⟩
  ·replace c9 := Bool.eq_false_iff.mpr c9
   subst c9
   rw [if_neg (show ¬ (false = true) by decide)] at H
   have H' := am H
   clear H
   obtain ⟨hcz21_0, hcz21_1, hcz21_2, hcz21_3, hcz21_4, hcz21_5⟩ := cz6 BK410.out
   obtain ⟨hfz21_0, hfz21_1, hfz21_2, hfz21_3, hfz21_4, hfz21_5⟩ := fz6 BK410.out
   go_wp2_with (first | ((with_reducible refine gate_callee (f := 83) rfl ?_); refine goesL_ (some 13) rfl rfl Try.func83 (by kernel_rfl) rfl #[.int .i64 a0_1] rfl tm ?_; (with_reducible refine (impl_isWidth.calls a0_1 false _ A8.out).mono ?_); rintro e w' ⟨rfl, ⟨nd, rfl⟩⟩; refine ⟨_, rfl, ?_⟩))
   go_meet
   case rel => exact ⟨_, (true), (by rfl), H', ⟨by omega⟩, ⟨by exact sB <| BK410.out⟩, ⟨by exact bW⟩⟩
 case rest =>
  clear HC6
  obtain ⟨kq, x34_5, rfl, HA, HJ5, BK410, HB⟩ := hcut
  cases kq with
  | zero => exact absurd HA.out (by simp [impl_Apply.j0])
  | succ kj5 =>
   have H := HA.out
   clear HA
   simp only [impl_Apply.j0] at H
   by_cases c22 : x34_5 = true
   ·subst c22
    rw [if_pos rfl] at H
    obtain rfl := oI H
    go_wp2
    go_ret
    exact ⟨by rfl, by exact bW⟩
   ·replace c22 := Bool.eq_false_iff.mpr c22
    subst c22
    rw [if_neg (show ¬ (false = true) by decide)] at H
    by_cases c23 : a0_0 = 0
    ·rw [if_pos c23] at H
     have c23b0 : (a0_0 == 0) = true := beq_iff_eq.mpr c23
     have c23b1 : (a0_0 != 0) = false := bne_eq_false_iff_eq.mpr c23
     clear c23
     obtain rfl := oI H
     obtain ⟨hcz24_0, hcz24_1, hcz24_2, hcz24_3, hcz24_4, hcz24_5⟩ := cz6 BK410.out
     obtain ⟨hfz24_0, hfz24_1, hfz24_2, hfz24_3, hfz24_4, hfz24_5⟩ := fz6 BK410.out
     go_wp2
     go_ret
     exact ⟨by rfl, by exact bW⟩
    ·rw [if_neg c23] at H
     have c23b0 : (a0_0 == 0) = false := beq_eq_false_iff_ne.mpr c23
     have c23b1 : (a0_0 != 0) = true := bne_iff_ne.mpr c23
     by_cases c25 : a0_0 = 2
     ·rw [if_pos c25] at H
      have c25b0 : (a0_0 == 2) = true := beq_iff_eq.mpr c25
      have c25b1 : (a0_0 != 2) = false := bne_eq_false_iff_eq.mpr c25
      clear c25
      replace H := oB H
      obtain ⟨t416, A260, H⟩ := H
      have A26 := am A260
      clear A260
      obtain rfl := oI H
      obtain ⟨hcz27_0, hcz27_1, hcz27_2, hcz27_3, hcz27_4, hcz27_5⟩ := cz6 BK410.out
      obtain ⟨hfz27_0, hfz27_1, hfz27_2, hfz27_3, hfz27_4, hfz27_5⟩ := fz6 BK410.out
      go_wp2_with (first | ((with_reducible refine gate_callee (f := 115) rfl ?_); refine goesL_ (some 48) rfl rfl Try.func115 (by kernel_rfl) rfl #[.int .i64 a0_1, .int .i64 a2] rfl tm ?_; (with_reducible refine (impl_Flip.calls a0_1 a2 t416 _ A26.out).mono ?_); rintro e w' ⟨rfl, ⟨nd, rfl⟩⟩; refine ⟨_, rfl, ?_⟩))
      go_ret
      exact ⟨by rfl, by exact bW⟩
     ·rw [if_neg c25] at H
      have c25b0 : (a0_0 == 2) = false := beq_eq_false_iff_ne.mpr c25
      have c25b1 : (a0_0 != 2) = true := bne_iff_ne.mpr c25
      replace H := oB H
      obtain ⟨t417, A280, H⟩ := H
      have A28 := am A280
      clear A280
      by_cases c29 : t417 = true
      ·subst c29
       rw [if_pos rfl] at H
       replace H := oB H
       obtain ⟨t418, A300, H⟩ := H
       have A30 := am A300
       clear A300
       obtain rfl := oI H
       obtain ⟨hcz31_0, hcz31_1, hcz31_2, hcz31_3, hcz31_4, hcz31_5⟩ := cz6 BK410.out
       obtain ⟨hfz31_0, hfz31_1, hfz31_2, hfz31_3, hfz31_4, hfz31_5⟩ := fz6 BK410.out
       go_wp2_with (first | ((with_reducible refine gate_callee (f := 72) rfl ?_); refine goesL_ (some 52) rfl rfl Try.func72 (by kernel_rfl) rfl #[.int .i64 a0_0, .int .i64 3, .int .i64 12] rfl tm ?_; (with_reducible refine (impl_within.calls a0_0 3 12 true _ A28.out).mono ?_); rintro e w' ⟨rfl, ⟨nd, rfl⟩⟩; refine ⟨_, rfl, ?_⟩) | ((with_reducible refine gate_callee (f := 116) rfl ?_); refine goesL_ (some 59) rfl rfl Try.func116 (by kernel_rfl) rfl #[.int .i64 a0_0, .int .i64 a0_1, .int .i64 a2, .int .i64 a3] rfl tm ?_; (with_reducible refine (impl_binary.calls a0_0 a0_1 a2 a3 t418 _ A30.out).mono ?_); rintro e w' ⟨rfl, ⟨nd, rfl⟩⟩; refine ⟨_, rfl, ?_⟩))
       go_ret
       exact ⟨by rfl, by exact bW⟩
      ·replace c29 := Bool.eq_false_iff.mpr c29
       subst c29
       rw [if_neg (show ¬ (false = true) by decide)] at H
       by_cases c32 : a0_0 = 13
       ·rw [if_pos c32] at H
        have c32b0 : (a0_0 == 13) = true := beq_iff_eq.mpr c32
        have c32b1 : (a0_0 != 13) = false := bne_eq_false_iff_eq.mpr c32
        clear c32
        replace H := oB H
        obtain ⟨t419, A330, H⟩ := H
        have A33 := am A330
        clear A330
        obtain rfl := oI H
        obtain ⟨hcz34_0, hcz34_1, hcz34_2, hcz34_3, hcz34_4, hcz34_5⟩ := cz6 BK410.out
        obtain ⟨hfz34_0, hfz34_1, hfz34_2, hfz34_3, hfz34_4, hfz34_5⟩ := fz6 BK410.out
        go_wp2_with (first | ((with_reducible refine gate_callee (f := 72) rfl ?_); refine goesL_ (some 52) rfl rfl Try.func72 (by kernel_rfl) rfl #[.int .i64 a0_0, .int .i64 3, .int .i64 12] rfl tm ?_; (with_reducible refine (impl_within.calls a0_0 3 12 false _ A28.out).mono ?_); rintro e w' ⟨rfl, ⟨nd, rfl⟩⟩; refine ⟨_, rfl, ?_⟩) | ((with_reducible refine gate_callee (f := 113) rfl ?_); refine goesL_ (some 67) rfl rfl Try.func113 (by kernel_rfl) rfl #[.bool (a2 == a3)] rfl tm ?_; (with_reducible refine (impl_bit.calls (a2 == a3) t419 _ A33.out).mono ?_); rintro e w' ⟨rfl, ⟨nd, rfl⟩⟩; refine ⟨_, rfl, ?_⟩))
        go_ret
        exact ⟨by rfl, by exact bW⟩
       ·rw [if_neg c32] at H
        have c32b0 : (a0_0 == 13) = false := beq_eq_false_iff_ne.mpr c32
        have c32b1 : (a0_0 != 13) = true := bne_iff_ne.mpr c32
        by_cases c35 : a0_0 = 14
        ·rw [if_pos c35] at H
         have c35b0 : (a0_0 == 14) = true := beq_iff_eq.mpr c35
         have c35b1 : (a0_0 != 14) = false := bne_eq_false_iff_eq.mpr c35
         clear c35
         replace H := oB H
         obtain ⟨t420, A360, H⟩ := H
         have A36 := am A360
         clear A360
         obtain rfl := oI H
         obtain ⟨hcz37_0, hcz37_1, hcz37_2, hcz37_3, hcz37_4, hcz37_5⟩ := cz6 BK410.out
         obtain ⟨hfz37_0, hfz37_1, hfz37_2, hfz37_3, hfz37_4, hfz37_5⟩ := fz6 BK410.out
         go_wp2_with (first | ((with_reducible refine gate_callee (f := 72) rfl ?_); refine goesL_ (some 52) rfl rfl Try.func72 (by kernel_rfl) rfl #[.int .i64 a0_0, .int .i64 3, .int .i64 12] rfl tm ?_; (with_reducible refine (impl_within.calls a0_0 3 12 false _ A28.out).mono ?_); rintro e w' ⟨rfl, ⟨nd, rfl⟩⟩; refine ⟨_, rfl, ?_⟩) | ((with_reducible refine gate_callee (f := 117) rfl ?_); refine goesL_ (some 75) rfl rfl Try.func117 (by kernel_rfl) rfl #[.int .i64 a1, .int .i64 a2, .int .i64 a3] rfl tm ?_; (with_reducible refine (impl_Less.calls a1 a2 a3 t420 _ A36.out).mono ?_); rintro e w' ⟨rfl, ⟨nd, rfl⟩⟩; refine ⟨_, rfl, ?_⟩))
         go_ret
         exact ⟨by rfl, by exact bW⟩
        ·rw [if_neg c35] at H
         have c35b0 : (a0_0 == 14) = false := beq_eq_false_iff_ne.mpr c35
         have c35b1 : (a0_0 != 14) = true := bne_iff_ne.mpr c35
         by_cases c38 : a0_0 = 15
         ·rw [if_pos c38] at H
          have c38b0 : (a0_0 == 15) = true := beq_iff_eq.mpr c38
          have c38b1 : (a0_0 != 15) = false := bne_eq_false_iff_eq.mpr c38
          clear c38
          replace H := oB H
          obtain ⟨t421, A390, H⟩ := H
          have A39 := am A390
          clear A390
          obtain rfl := oI H
          obtain ⟨hcz40_0, hcz40_1, hcz40_2, hcz40_3, hcz40_4, hcz40_5⟩ := cz6 BK410.out
          obtain ⟨hfz40_0, hfz40_1, hfz40_2, hfz40_3, hfz40_4, hfz40_5⟩ := fz6 BK410.out
          go_wp2_with (first | ((with_reducible refine gate_callee (f := 72) rfl ?_); refine goesL_ (some 52) rfl rfl Try.func72 (by kernel_rfl) rfl #[.int .i64 a0_0, .int .i64 3, .int .i64 12] rfl tm ?_; (with_reducible refine (impl_within.calls a0_0 3 12 false _ A28.out).mono ?_); rintro e w' ⟨rfl, ⟨nd, rfl⟩⟩; refine ⟨_, rfl, ?_⟩) | ((with_reducible refine gate_callee (f := 118) rfl ?_); refine goesL_ (some 83) rfl rfl Try.func118 (by kernel_rfl) rfl #[.int .i64 a1, .int .i64 a2, .int .i64 a3] rfl tm ?_; (with_reducible refine (impl_LessSigned.calls a1 a2 a3 t421 _ A39.out).mono ?_); rintro e w' ⟨rfl, ⟨nd, rfl⟩⟩; refine ⟨_, rfl, ?_⟩))
          go_ret
          exact ⟨by rfl, by exact bW⟩
         ·rw [if_neg c38] at H
          have c38b0 : (a0_0 == 15) = false := beq_eq_false_iff_ne.mpr c38
          have c38b1 : (a0_0 != 15) = true := bne_iff_ne.mpr c38
          have HC41 := am H
          clear H
          obtain ⟨hcz42_0, hcz42_1, hcz42_2, hcz42_3, hcz42_4, hcz42_5⟩ := cz6 BK410.out
          obtain ⟨hfz42_0, hfz42_1, hfz42_2, hfz42_3, hfz42_4, hfz42_5⟩ := fz6 BK410.out
          go_upto_region 15 with (first | ((with_reducible refine gate_callee (f := 72) rfl ?_); refine goesL_ (some 52) rfl rfl Try.func72 (by kernel_rfl) rfl #[.int .i64 a0_0, .int .i64 3, .int .i64 12] rfl tm ?_; (with_reducible refine (impl_within.calls a0_0 3 12 false _ A28.out).mono ?_); rintro e w' ⟨rfl, ⟨nd, rfl⟩⟩; refine ⟨_, rfl, ?_⟩))
          (try simp only [Act.put, List.setIfInBounds_toArray, List.set_cons_zero, List.set_cons_succ])
          go_cut [84] (fun v84 wc => ∃ (kq : Nat) (x84_40 : Bool), v84 = .bool x84_40 ∧ Aside0 (impl_Apply.j1 kq a1 a2 a3 a4 x84_40 a0_0 a0_1 a0_2 a0_3 a0_4 a0_5 = some r) ∧ Aside0 (kq ≤ kj5) ∧ Aside0 (wc.heap[gb410]? = some (.cells #[.int .i64 a0_0, .int .i64 a0_1, .int .i64 a0_2, .int .i64 a0_3, .int .i64 a0_4, .int .i64 a0_5] 31 (0, 0))) ∧ Aside0 (Below w.heap.size w wc))
          case first =>
           have H := HC41.out
           clear HC41
           by_cases c43 : a0_0 = 16
           ·rw [if_pos c43] at H
            have c43b0 : (a0_0 == 16) = true := beq_iff_eq.mpr c43
            have c43b1 : (a0_0 != 16) = false := bne_eq_false_iff_eq.mpr c43
            clear c43
            (skip)
            have H' := am H
            clear H
            obtain ⟨hcz44_0, hcz44_1, hcz44_2, hcz44_3, hcz44_4, hcz44_5⟩ := cz6 BK410.out
            obtain ⟨hfz44_0, hfz44_1, hfz44_2, hfz44_3, hfz44_4, hfz44_5⟩ := fz6 BK410.out
            go_wp2
            go_meet
            case rel => exact ⟨_, (decide (a0_1 < a1)), (by rfl), H', ⟨by have := HJ5.out; omega⟩, ⟨by exact sB <| BK410.out⟩, ⟨by exact bW⟩⟩
           ·rw [if_neg c43] at H
            have c43b0 : (a0_0 == 16) = false := beq_eq_false_iff_ne.mpr c43
            have c43b1 : (a0_0 != 16) = true := bne_iff_ne.mpr c43
            (skip)
            have H' := am H
            clear H
            obtain ⟨hcz45_0, hcz45_1, hcz45_2, hcz45_3, hcz45_4, hcz45_5⟩ := cz6 BK410.out
            obtain ⟨hfz45_0, hfz45_1, hfz45_2, hfz45_3, hfz45_4, hfz45_5⟩ := fz6 BK410.out
            go_wp2
            go_meet
            case rel => exact ⟨_, (false), (by rfl), H', ⟨by have := HJ5.out; omega⟩, ⟨by exact sB <| BK410.out⟩, ⟨by exact bW⟩⟩
          case rest =>
           clear HC41
           clear c23 c23b0 c23b1 c25 c25b0 c25b1 c32 c32b0 c32b1 c35 c35b0 c35b1 c38 c38b0 c38b1 hcz42_0 hcz42_1 hcz42_2 hcz42_3 hcz42_4 hcz42_5 hfz42_0 hfz42_1 hfz42_2 hfz42_3 hfz42_4 hfz42_5
           obtain ⟨kq, x84_40, rfl, HA, HJ40, BK410, HB⟩ := hcut
           cases kq with
           | zero => exact absurd HA.out (by simp [impl_Apply.j1])
           | succ kj40 =>
            have H := HA.out
            clear HA
            simp only [impl_Apply.j1] at H
            by_cases c46 : x84_40 = true
            ·subst c46
             rw [if_pos rfl] at H
             obtain rfl := oI H
             go_wp2
             go_ret
             exact ⟨by rfl, by exact bW⟩
            ·replace c46 := Bool.eq_false_iff.mpr c46
             subst c46
             rw [if_neg (show ¬ (false = true) by decide)] at H
             by_cases c47 : a0_0 = 16
             ·rw [if_pos c47] at H
              have c47b0 : (a0_0 == 16) = true := beq_iff_eq.mpr c47
              have c47b1 : (a0_0 != 16) = false := bne_eq_false_iff_eq.mpr c47
              clear c47
              obtain ⟨ji48, hji48⟩ : ∃ j_ : Int, (IntKind.u64.wrap (wrap64 (a0_1 - a1))) = j_ := ⟨_, rfl⟩
              replace H : (if 0 ≤ (ji48) then (some (wrap64 ((shl .i64 a2 (ji48)) + a3))) else (none)) = some r := by (rw [hji48] at H; exact H)
              by_cases c49 : 0 ≤ (ji48)
              ·rw [if_pos c49] at H
               have c49b0 := eq_true c49
               have c49b1 : decide (0 ≤ (ji48)) = true := decide_eq_true c49
               clear c49
               obtain ⟨ji50, hji50⟩ : ∃ j_ : Int, (shl .i64 a2 (ji48)) = j_ := ⟨_, rfl⟩
               replace H : (some (wrap64 ((ji50) + a3))) = some r := by (rw [hji50] at H; exact H)
               have hji50_ : (IntKind.i64.wrap (a2 * 2 ^ min (ji48).toNat 64)) = ji50 := hji50
               have hji50z : (ji48) ≤ 64 → (IntKind.i64.wrap (a2 * 2 ^ (ji48).toNat)) = ji50 := shl_small hji50
               have hji50y : (wrap64 (a2 * 2 ^ min (ji48).toNat 64)) = ji50 := (i64_w _).symm.trans hji50_
               have hji50x : (ji48) ≤ 64 → (wrap64 (a2 * 2 ^ (ji48).toNat)) = ji50 := fun h_ => (i64_w _).symm.trans (hji50z h_)
               obtain rfl := oI H
               obtain ⟨hcz51_0, hcz51_1, hcz51_2, hcz51_3, hcz51_4, hcz51_5⟩ := cz6 BK410.out
               obtain ⟨hfz51_0, hfz51_1, hfz51_2, hfz51_3, hfz51_4, hfz51_5⟩ := fz6 BK410.out
               go_wp2
               go_ret
               exact ⟨by rfl, by exact bW⟩
              ·rw [if_neg c49] at H
               exact absurd H (by simp)
             ·rw [if_neg c47] at H
              have c47b0 : (a0_0 == 16) = false := beq_eq_false_iff_ne.mpr c47
              have c47b1 : (a0_0 != 16) = true := bne_iff_ne.mpr c47
              by_cases c52 : a0_0 = 17
              ·rw [if_pos c52] at H
               have c52b0 : (a0_0 == 17) = true := beq_iff_eq.mpr c52
               have c52b1 : (a0_0 != 17) = false := bne_eq_false_iff_eq.mpr c52
               clear c52
               replace H := oB H
               obtain ⟨t422, A530, H⟩ := H
               have A53 := am A530
               clear A530
               obtain rfl := oI H
               obtain ⟨hcz54_0, hcz54_1, hcz54_2, hcz54_3, hcz54_4, hcz54_5⟩ := cz6 BK410.out
               obtain ⟨hfz54_0, hfz54_1, hfz54_2, hfz54_3, hfz54_4, hfz54_5⟩ := fz6 BK410.out
               go_wp2_with (first | ((with_reducible refine gate_callee (f := 119) rfl ?_); refine goesL_ (some 118) rfl rfl Try.func119 (by kernel_rfl) rfl #[.int .i64 a1, .int .i64 a2, .int .i64 a0_2, .int .i64 a0_1] rfl tm ?_; (with_reducible refine (impl_Slice.calls a1 a2 a0_2 a0_1 t422 _ A53.out).mono ?_); rintro e w' ⟨rfl, ⟨nd, rfl⟩⟩; refine ⟨_, rfl, ?_⟩))
               go_ret
               exact ⟨by rfl, by exact bW⟩
              ·rw [if_neg c52] at H
               have c52b0 : (a0_0 == 17) = false := beq_eq_false_iff_ne.mpr c52
               have c52b1 : (a0_0 != 17) = true := bne_iff_ne.mpr c52
               have HC55 := am H
               clear H
               obtain ⟨hcz56_0, hcz56_1, hcz56_2, hcz56_3, hcz56_4, hcz56_5⟩ := cz6 BK410.out
               obtain ⟨hfz56_0, hfz56_1, hfz56_2, hfz56_3, hfz56_4, hfz56_5⟩ := fz6 BK410.out
               go_upto_region 21 with (fail)
               go_cut [119] (fun v119 wc => ∃ (kq : Nat) (x119_54 : Bool), v119 = .bool x119_54 ∧ Aside0 (impl_Apply.j2 kq a3 a4 x119_54 a0_0 a0_1 a0_2 a0_3 a0_4 a0_5 = some r) ∧ Aside0 (kq ≤ kj40) ∧ Aside0 (wc.heap[gb410]? = some (.cells #[.int .i64 a0_0, .int .i64 a0_1, .int .i64 a0_2, .int .i64 a0_3, .int .i64 a0_4, .int .i64 a0_5] 31 (0, 0))) ∧ Aside0 (Below w.heap.size w wc))
               case first =>
                have H := HC55.out
                clear HC55
                by_cases c57 : a0_0 = 18
                ·rw [if_pos c57] at H
                 have c57b0 : (a0_0 == 18) = true := beq_iff_eq.mpr c57
                 have c57b1 : (a0_0 != 18) = false := bne_eq_false_iff_eq.mpr c57
                 clear c57
                 (skip)
                 have H' := am H
                 clear H
                 obtain ⟨hcz58_0, hcz58_1, hcz58_2, hcz58_3, hcz58_4, hcz58_5⟩ := cz6 BK410.out
                 obtain ⟨hfz58_0, hfz58_1, hfz58_2, hfz58_3, hfz58_4, hfz58_5⟩ := fz6 BK410.out
                 go_wp2
                 go_meet
                 case rel => exact ⟨_, ((a2 == 1)), (by rfl), H', ⟨by have := HJ5.out; have := HJ40.out; omega⟩, ⟨by exact sB <| BK410.out⟩, ⟨by exact bW⟩⟩
                ·rw [if_neg c57] at H
                 have c57b0 : (a0_0 == 18) = false := beq_eq_false_iff_ne.mpr c57
                 have c57b1 : (a0_0 != 18) = true := bne_iff_ne.mpr c57
                 (skip)
                 have H' := am H
                 clear H
                 obtain ⟨hcz59_0, hcz59_1, hcz59_2, hcz59_3, hcz59_4, hcz59_5⟩ := cz6 BK410.out
                 obtain ⟨hfz59_0, hfz59_1, hfz59_2, hfz59_3, hfz59_4, hfz59_5⟩ := fz6 BK410.out
                 go_wp2
                 go_meet
                 case rel => exact ⟨_, (false), (by rfl), H', ⟨by have := HJ5.out; have := HJ40.out; omega⟩, ⟨by exact sB <| BK410.out⟩, ⟨by exact bW⟩⟩
               case rest =>
                clear HC55
                clear c47 c47b0 c47b1 c52 c52b0 c52b1 hcz56_0 hcz56_1 hcz56_2 hcz56_3 hcz56_4 hcz56_5 hfz56_0 hfz56_1 hfz56_2 hfz56_3 hfz56_4 hfz56_5
                obtain ⟨kq, x119_54, rfl, HA, HJ54, BK410, HB⟩ := hcut
                cases kq with
                | zero => exact absurd HA.out (by simp [impl_Apply.j2])
                | succ kj54 =>
                 have H := HA.out
                 clear HA
                 simp only [impl_Apply.j2] at H
                 by_cases c60 : x119_54 = true
                 ·subst c60
                  rw [if_pos rfl] at H
                  obtain rfl := oI H
                  go_wp2
                  go_ret
                  exact ⟨by rfl, by exact bW⟩
                 ·replace c60 := Bool.eq_false_iff.mpr c60
                  subst c60
                  rw [if_neg (show ¬ (false = true) by decide)] at H
                  by_cases c61 : a0_0 = 18
                  ·rw [if_pos c61] at H
                   have c61b0 : (a0_0 == 18) = true := beq_iff_eq.mpr c61
                   have c61b1 : (a0_0 != 18) = false := bne_eq_false_iff_eq.mpr c61
                   clear c61
                   obtain rfl := oI H
                   obtain ⟨hcz62_0, hcz62_1, hcz62_2, hcz62_3, hcz62_4, hcz62_5⟩ := cz6 BK410.out
                   obtain ⟨hfz62_0, hfz62_1, hfz62_2, hfz62_3, hfz62_4, hfz62_5⟩ := fz6 BK410.out
                   go_wp2
                   go_ret
                   exact ⟨by rfl, by exact bW⟩
                  ·rw [if_neg c61] at H
                   have c61b0 : (a0_0 == 18) = false := beq_eq_false_iff_ne.mpr c61
                   have c61b1 : (a0_0 != 18) = true := bne_iff_ne.mpr c61
                   obtain rfl := oI H
                   obtain ⟨hcz63_0, hcz63_1, hcz63_2, hcz63_3, hcz63_4, hcz63_5⟩ := cz6 BK410.out
                   obtain ⟨hfz63_0, hfz63_1, hfz63_2, hfz63_3, hfz63_4, hfz63_5⟩ := fz6 BK410.out
                   go_wp2
                   go_ret
                   exact ⟨by rfl, by exact bW⟩
/-! ### impl_valuer_value: by hand -/
def vpl (V : List Int → Int → List Int → Option (Int × List Int)) (env : List Int) : List Int → List Int → Option (List Int × List Int)
 | [], kn => some ([], kn)
 | p :: ps, kn => (V env p kn).bind fun r => (vpl V env ps r.2).bind fun s => some (r.1 :: s.1, s.2)
theorem rd_set_same (l : List Int) (i v : Int) (h0 : 0 ≤ i) (h : i < (l.length : Int)) : rd (l.set i.toNat v) i = v := by
 have hl : i.toNat < l.length := by omega
 simp [rd, hl, List.getD_eq_getElem?_getD]
def xc (acc : List Int) : Array Value := #[.int .i64 (rd acc 0), .int .i64 (rd acc 1), .int .i64 (rd acc 2)]
theorem xc_get (acc : List Int) (j : Nat) (h : j < 3) : ∃ v, (xc acc)[j]? = some (.int .i64 v) := by
 have : j = 0 ∨ j = 1 ∨ j = 2 := by omega
 rcases this with rfl | rfl | rfl
 ·exact ⟨_, rfl⟩
 ·exact ⟨_, rfl⟩
 ·exact ⟨_, rfl⟩
theorem xc_set (acc : List Int) (v : Int) (h : acc.length < 3) : (xc acc).setIfInBounds acc.length (.int .i64 v) = xc (acc ++ [v]) := by
 match acc, h with
 | [], _ => rfl
 | [a], _ => rfl
 | [a, b], _ => rfl
 | a :: b :: c :: t, h => exact absurd h (by simp)
def wid0 (l0 : List (S31)) (ps : List Int) : Int := if 0 < ps.length then (rd_T31 l0 (rd ps 0)).f1 else 1
def impl_valueR (k : Nat) (V : List Int → Int → List Int → Option (Int × List Int)) (l0 : List (S31)) (env : List Int) (i : Int) (known : List Int) : Option (Int × List Int) :=
 if 0 ≤ i ∧ i < (l0.length : Int) then
  if 0 ≤ rd known i then some (rd known i, known)
  else if (rd_T31 l0 i).f0 = 1 then (if 0 ≤ (rd_T31 l0 i).f2 ∧ (rd_T31 l0 i).f2 < 8 then some (rd env (rd_T31 l0 i).f2, known.set i.toNat (rd env (rd_T31 l0 i).f2)) else none)
  else if ((rd_T31 l0 i).f0 == 19 || (rd_T31 l0 i).f0 == 20) = true then (impl_quantR V l0.length env (rd_T31 l0 i).f0 (rd_T31 l0 i).f2 (rd_T31 l0 i).f3 (rd_T31 l0 i).f4).bind fun r => some (r, known.set i.toNat r)
  else if (partsL (rd_T31 l0 i).f0 (rd_T31 l0 i).f3 (rd_T31 l0 i).f4 (rd_T31 l0 i).f5).all (fun p => inB p 0 ((l0.length : Int) - 1)) = true then
   (vpl V env (partsL (rd_T31 l0 i).f0 (rd_T31 l0 i).f3 (rd_T31 l0 i).f4 (rd_T31 l0 i).f5) known).bind fun s => (impl_Apply.f k (rd_T31 l0 i).f0 (rd_T31 l0 i).f1 (rd_T31 l0 i).f2 (rd_T31 l0 i).f3 (rd_T31 l0 i).f4 (rd_T31 l0 i).f5 (wid0 l0 (partsL (rd_T31 l0 i).f0 (rd_T31 l0 i).f3 (rd_T31 l0 i).f4 (rd_T31 l0 i).f5)) (rd s.1 0) (rd s.1 1) (rd s.1 2)).bind fun r => some (r, s.2.set i.toNat r)
  else none
 else none
set_option maxHeartbeats 4000000 in
set_option maxRecDepth 100000 in
theorem impl_valueR.calls (k : Nat) (g : Nat) (A0 : Option Addr) (c0 : Nat) (l0 : List (S31)) (V : List Int → Int → List Int → Option (Int × List Int)) (hV : ValCon g A0 c0 l0 V) (hc0 : l0.length ≤ c0) (hm : l0.length ≤ 1048576) : ValCon g A0 c0 l0 (impl_valueR k V l0) := by
 unfold ValCon at hV ⊢
 intro hk ck base env i known r known' w hb he hgk hr0 hkl ho h
 unfold impl_valueR at h
 by_cases hi : 0 ≤ i ∧ i < (l0.length : Int)
 ·rw [if_pos hi] at h
  obtain ⟨i0, i1⟩ := hi
  have t1 : decide (0 ≤ i) = true := decide_eq_true i0
  have t2 : decide (i < (l0.length : Int)) = true := decide_eq_true i1
  have hkb := Kd.R_bound ho
  obtain ⟨_, hkb, hkw, q, hq, cl, hcl⟩ := hkb.1 hk rfl
  have BGL := am (blk_lt hb); have HKW := am hkw; have HKB := am hkb
  clear hkb hkw q hq cl hcl
  obtain ⟨adk, ek, hx⟩ := Kd.at_int (Kd.R_reads' ho).2.2 i i0 (by omega)
  cases ek
  simp only [add_plain] at hx
  obtain ⟨ad0, e0, y0, y1, y2, y3, y4, y5⟩ := at_T31 (hr0 w (Kept.refl _ _)) i i0 i1
  cases e0
  have x0 := (blk_cell hb 0).trans (vcells_0 _ _ _ _)
  have HV := am hV; have BG := am hb; have HE := am he; have HGK := am hgk; have HR0 := am hr0; have HKL := am hkl; have RK := am ho; have HM := am hm; have HC0 := am hc0; have HH := am h
  clear hV hb he hgk hr0 hkl ho hm hc0 h
  by_cases hkn : 0 ≤ rd known i
  ·have h := HH.out
   rw [if_pos hkn] at h
   obtain ⟨rfl, rfl⟩ := Prod.mk.inj (oI h)
   clear h
   have t3 : decide (0 ≤ rd known i) = true := decide_eq_true hkn
   go_enter Try.func47, Try.ntmps47
   go_wp2_with fail
   go_ret
   exact ⟨rfl, RK.out, HKL.out, Kept.refl _ _, Below.refl _ _⟩
  ·have t3 : decide (0 ≤ rd known i) = false := decide_eq_false hkn
   have h := HH.out
   rw [if_neg hkn] at h
   obtain ⟨⟨op, W, Kq, A, B, C⟩, hnd⟩ : ∃ n, rd_T31 l0 i = n := ⟨_, rfl⟩
   rw [hnd] at h y0 y1 y2 y3 y4 y5
   simp only [] at h y0 y1 y2 y3 y4 y5
   have BN := am (heap_alloc_new w (Obj.cells #[Value.int .i64 op, Value.int .i64 W, Value.int .i64 Kq, Value.int .i64 A, Value.int .i64 B, Value.int .i64 C] 31))
   have BG := am (blk_alloc BG.out (Obj.cells #[Value.int .i64 op, Value.int .i64 W, Value.int .i64 Kq, Value.int .i64 A, Value.int .i64 B, Value.int .i64 C] 31))
   have RK := am (Kd.R_alloc RK.out (Obj.cells #[Value.int .i64 op, Value.int .i64 W, Value.int .i64 Kq, Value.int .i64 A, Value.int .i64 B, Value.int .i64 C] 31))
   have KW := am (Kept.alloc (Kept.refl w (fun k => k = hk)) (Obj.cells #[Value.int .i64 op, Value.int .i64 W, Value.int .i64 Kq, Value.int .i64 A, Value.int .i64 B, Value.int .i64 C] 31))
   have H0 := am (show Below 0 w (w.alloc (Obj.cells #[Value.int .i64 op, Value.int .i64 W, Value.int .i64 Kq, Value.int .i64 A, Value.int .i64 B, Value.int .i64 C] 31)) from (Below.refl 0 w).alloc (Nat.zero_le _) _)
   have HND := am hnd
   clear hnd hkn
   by_cases hop : op = 1
   ·rw [if_pos hop] at h
    by_cases hK : 0 ≤ Kq ∧ Kq < 8
    ·rw [if_pos hK] at h
     have HR := am (Prod.mk.inj (oI h))
     have K8 := am hK
     have t4 : (op == 1) = true := beq_iff_eq.mpr hop
     clear h hK hop HH
     go_enter Try.func47, Try.ntmps47
     go_wp2_with fail
     clear x0 y0 y1 y2 y3 y4 y5 hx
     generalize w.alloc (Obj.cells #[Value.int .i64 op, Value.int .i64 W, Value.int .i64 Kq, Value.int .i64 A, Value.int .i64 B, Value.int .i64 C] 31) = wA at *
     obtain ⟨q0, q1, q2, q3, q4, q5⟩ := cz6q BN.out
     have x1 := (blk_cell BG.out (Kq.toNat + 1)).trans (vcells_k _ _ _ _ Kq.toNat (by rw [HE.out]; have := K8.out; omega))
     rw [Int.toNat_of_nonneg K8.out.1, Nat.add_comm Kq.toNat 1] at x1
     have kk := K8.out
     obtain ⟨adk, ek, hx⟩ := Kd.at_int (Kd.R_reads' RK.out).2.2 i i0 (by have := HKL.out; omega)
     cases ek
     simp only [add_plain] at hx
     obtain ⟨g2, c2, e2, gb2, _, cl2, HGO⟩ := Kd.R_form RK.out (by have := HKL.out; omega)
     rw [HKL.out] at e2
     cases e2
     have hfx := blk_frozen HGO i.toNat
     clear HGO
     go_region
     clear q0 q1 q2 q3 q4 q5 x1 kk hx hfx
     have RK := am (show Kd.R (Kd.int .i64) 3 (wA.setCell ⟨hk, i.toNat, none⟩ (.int .i64 (rd env Kq))).drew base (fun k => k = hk) (.slice (some ⟨hk, 0, none⟩) l0.length ck) (known.set i.toNat (rd env Kq)) from Kd.R_drew (Kd.R_putn RK.out i (rd env Kq)))
     have KW := am (show Kept w (wA.setCell ⟨hk, i.toNat, none⟩ (.int .i64 (rd env Kq))).drew (fun k => k = hk) from Kept.drew (KW.out.setCell (.inl rfl) _))
     have H0 := am (show Below 0 w (wA.setCell ⟨hk, i.toNat, none⟩ (.int .i64 (rd env Kq))).drew from below_drew (H0.out.setCell (Nat.zero_le _) _))
     generalize (wA.setCell ⟨hk, i.toNat, none⟩ (.int .i64 (rd env Kq))).drew = wE at *
     obtain ⟨adk, ek, hx⟩ := Kd.at_int (Kd.R_reads' RK.out).2.2 i i0 (by rw [List.length_set]; have := HKL.out; omega)
     cases ek
     simp only [add_plain] at hx
     rw [rd_set_same known i (rd env Kq) i0 (by have := HKL.out; omega)] at hx
     go_wp2_with fail
     go_ret
     exact ⟨by rw [← HR.out.1]; rfl, by rw [← HR.out.2]; exact RK.out, by rw [← HR.out.2, List.length_set]; exact HKL.out, KW.out, H0.out⟩
    ·rw [if_neg hK] at h
     exact absurd h (by simp)
   ·rw [if_neg hop] at h
    have t4 : (op == 1) = false := beq_eq_false_iff_ne.mpr hop
    clear hop
    by_cases hqb : (op == 19 || op == 20) = true
    ·rw [if_pos hqb] at h
     obtain ⟨rq, hrq, h⟩ := oB h
     have HR := am (Prod.mk.inj (oI h))
     have HQ := am hqb; have HRQ := am hrq
     clear h hqb HH hrq
     go_enter Try.func47, Try.ntmps47
     go_wp2_with fail
     clear x0 y0 y1 y2 y3 y4 y5 hx
     generalize w.alloc (Obj.cells #[Value.int .i64 op, Value.int .i64 W, Value.int .i64 Kq, Value.int .i64 A, Value.int .i64 B, Value.int .i64 C] 31) = wA at *
     refine (impl_isQuant.calls _ _ _ _ _ _ true _ (by rw [isQuantI, HQ.out])).mono ?_
     rintro e w2 ⟨rfl, hb⟩
     have BG := am (blk_below BG.out hb); have BN := am (blk_below BN.out hb); have RK := am (Kd.R_below RK.out hb); have KW := am (KW.out.below hb); have H0 := am (H0.out.trans (hb.mono (Nat.zero_le _)))
     clear hb
     obtain ⟨q0, q1, q2, q3, q4, q5⟩ := cz6q BN.out
     go_wp2_with fail
     refine (impl_quantR.calls g _ c0 l0 V HV.out env op W Kq A B C rq _ BG.out HE.out (by omega) HM.out (fun W_ hW => HR0.out W_ ((KW.out.mono (fun _ h => .inr h)).then_ hW (fun k h => .inl (.inl h)))) HRQ.out).mono ?_
     rintro e w3 ⟨rfl, hb⟩
     have RK := am (Kd.R_below RK.out hb); have KW := am (KW.out.below hb); have H0 := am (H0.out.trans (hb.mono (Nat.zero_le _)))
     clear hb q0 q1 q2 q3 q4 q5
     obtain ⟨adk, ek, hx⟩ := Kd.at_int (Kd.R_reads' RK.out).2.2 i i0 (by have := HKL.out; omega)
     cases ek
     simp only [add_plain] at hx
     obtain ⟨g2, c2, e2, gb2, _, cl2, HGO⟩ := Kd.R_form RK.out (by have := HKL.out; omega)
     rw [HKL.out] at e2
     cases e2
     have hfx := blk_frozen HGO i.toNat
     clear HGO
     go_wp2_with fail
     go_ret
     refine ⟨by rw [← HR.out.1]; rfl, ?_, by rw [← HR.out.2, List.length_set]; exact HKL.out, KW.out.setCell (.inl rfl) _, H0.out.setCell (Nat.zero_le _) _⟩
     rw [← HR.out.2]
     exact Kd.R_putn RK.out i rq
    ·rw [if_neg hqb] at h
     have hqf : (op == 19 || op == 20) = false := by cases hh : (op == 19 || op == 20) <;> simp_all
     clear hqb
     obtain ⟨ps, hps⟩ : ∃ ps, partsL op A B C = ps := ⟨_, rfl⟩
     have hp3 := partsL_len op A B C
     rw [hps] at h hp3
     by_cases hpb : ps.all (fun p => inB p 0 ((l0.length : Int) - 1)) = true
     ·rw [if_pos hpb] at h
      obtain ⟨⟨vs, kn⟩, hvp, h⟩ := oB h
      obtain ⟨rq, hap, h⟩ := oB h
      have HR := am (Prod.mk.inj (oI h))
      have HQ := am hqf; have HAP := am hap; have HVP := am hvp; have HPS := am hps; have HPB := am hpb; have HP3 := am hp3
      clear h hqf HH hap hvp hps hpb hp3
      go_enter Try.func47, Try.ntmps47
      go_wp2_with fail
      clear x0 y0 y1 y2 y3 y4 y5 hx
      generalize w.alloc (Obj.cells #[Value.int .i64 op, Value.int .i64 W, Value.int .i64 Kq, Value.int .i64 A, Value.int .i64 B, Value.int .i64 C] 31) = wA at *
      refine (impl_isQuant.calls _ _ _ _ _ _ false _ (by rw [isQuantI, HQ.out])).mono ?_
      rintro e w2 ⟨rfl, hb⟩
      have BG := am (blk_below BG.out hb); have BN := am (blk_below BN.out hb); have RK := am (Kd.R_below RK.out hb); have KW := am (KW.out.below hb); have H0 := am (H0.out.trans (hb.mono (Nat.zero_le _)))
      clear hb
      have BX := am (heap_alloc_new w2 (Obj.cells #[Value.int .i64 0, Value.int .i64 0, Value.int .i64 0] 101))
      have GX := am (show w.heap.size < w2.heap.size from blk_lt BN.out)
      have GG := am (show g < w.heap.size from BGL.out)
      have BG := am (blk_alloc BG.out (Obj.cells #[Value.int .i64 0, Value.int .i64 0, Value.int .i64 0] 101)); have BN := am (blk_alloc BN.out (Obj.cells #[Value.int .i64 0, Value.int .i64 0, Value.int .i64 0] 101)); have RK := am (Kd.R_alloc RK.out (Obj.cells #[Value.int .i64 0, Value.int .i64 0, Value.int .i64 0] 101)); have KW := am (KW.out.alloc (Obj.cells #[Value.int .i64 0, Value.int .i64 0, Value.int .i64 0] 101)); have H0 := am (show Below 0 w (w2.alloc (Obj.cells #[Value.int .i64 0, Value.int .i64 0, Value.int .i64 0] 101)) from H0.out.alloc (Nat.zero_le _) _)
      obtain ⟨q0, q1, q2, q3, q4, q5⟩ := cz6q BN.out
      go_wp2_with fail
      generalize hgx : w2.heap.size = gx at *
      generalize w2.alloc (Obj.cells #[Value.int .i64 0, Value.int .i64 0, Value.int .i64 0] 101) = wX at *
      have GXX := am (show gx < wX.heap.size from blk_lt BX.out)
      clear hgx
      refine (impl_Parts.calls 1 _ _ _ _ _ _ ps _ (by rw [partsI _ _ _ _ _ _ (by omega), HPS.out])).mono ?_
      rintro e w3 ⟨vp, rfl, hpr, hb⟩
      have BG := am (blk_below BG.out hb); have BN := am (blk_below BN.out hb); have BX := am (blk_below BX.out hb); have RK := am (Kd.R_below RK.out hb); have H0 := am (H0.out.trans (hb.mono (Nat.zero_le _)))
      obtain ⟨Ap, cp, rfl, _, _⟩ := Kd.R_reads hpr
      have RP := am (Kd.R_mono (ok' := fun k => k ≠ hk) (Kd.R_bound hpr) (fun k hk' => by have h1 := hk'.2.1; have h2 := HKW.out; have h3 := KW.out.1; omega))
      have KW := am (KW.out.below hb)
      clear hb hpr q0 q1 q2 q3 q4 q5
      go_wp2_with fail
      go_loopg [9, 10, 11, 32] ps.length (fun gk v9 v10 v11 v32 w' => ∃ (j : Nat) (wv : Int) (acc rest kj : List Int), v32 = .int .i64 (j : Int) ∧ v9 = .int .i64 wv ∧ Aside0 (wv = if j = 0 then 1 else wid0 l0 ps) ∧ Aside0 (gk + j = ps.length) ∧ Aside0 (acc.length = j) ∧ Aside0 (vs = acc ++ rest) ∧ Aside0 (vpl V env (ps.drop j) kj = some (rest, kn)) ∧ Aside0 (kj.length = l0.length) ∧
       Aside0 (w'.heap[g]? = some (.cells (vcells (some ad0) l0.length c0 env) 65 (0, 0))) ∧ Aside0 (w'.heap[w.heap.size]? = some (.cells #[.int .i64 op, .int .i64 W, .int .i64 Kq, .int .i64 A, .int .i64 B, .int .i64 C] 31 (0, 0))) ∧ Aside0 (w'.heap[gx]? = some (.cells (xc acc) 101 (0, 0))) ∧
       Aside0 (Kd.R (Kd.int .i64) 3 w' base (fun k => k = hk) (.slice (some ⟨hk, 0, none⟩) l0.length ck) kj) ∧ Aside0 (Kd.R (Kd.int .i64) 3 w' wX.heap.size (fun k => k ≠ hk) (.slice Ap ps.length cp) ps) ∧ Aside0 (Kept w w' (fun k => k = hk)) ∧ Aside0 (Below 0 w w'))
      case atStart => exact ⟨0, 1, [], vs, known, rfl, rfl, ⟨rfl⟩, ⟨rfl⟩, ⟨rfl⟩, ⟨rfl⟩, HVP, HKL, BG, BN, BX, RK, RP, KW, H0⟩
      case round =>
       obtain ⟨j, wv, acc, rest, kj, rfl, rfl, HWV, HG, HAL, HVS, HVP, HKL, BG, BN, BX, RK, RP, KW, H0⟩ := hrel
       by_cases hj : j < ps.length
       ·have p1 : (0 : Int) ≤ (j : Int) := by omega
        have p2 : decide ((j : Int) < (ps.length : Int)) = true := decide_eq_true (by omega)
        obtain ⟨adp, ep, hxp⟩ := Kd.at_int (Kd.R_reads' RP.out).2.2 (j : Int) p1 (by omega)
        cases ep
        have hpb := List.all_eq_true.mp HPB.out ps[j] (List.getElem_mem hj)
        have hpr : rd ps (j : Int) = ps[j] := by simp [rd, hj, List.getD_eq_getElem?_getD]
        obtain ⟨pj, hpj⟩ : ∃ pj, ps[j] = pj := ⟨_, rfl⟩
        have hv := HVP.out
        rw [List.drop_eq_getElem_cons hj] at hv
        rw [hpj] at hpb hpr hv
        rw [hpr, Int.toNat_natCast] at hxp
        simp only [inB, decide_eq_true_eq] at hpb
        unfold vpl at hv
        obtain ⟨⟨rv, k1⟩, hv1, hv⟩ := oB hv
        obtain ⟨⟨vr, k2⟩, hv2, hv⟩ := oB hv
        obtain ⟨hr1, hr2⟩ := Prod.mk.inj (oI hv)
        have HV1 := am hv1; have HV2 := am hv2; have HRR := am (And.intro hr1 hr2); have HPJ := am hpb
        clear hpb hv hv1 hv2 hr1 hr2 HVP
        have J3 := am (show j < 3 from by have := HP3.out; omega)
        have WP := am hpr
        clear hpr
        go_wp2_with fail
        refine (HV.out hk ck base env pj kj rv k1 _ BG.out HE.out HGK.out (fun W_ hW => HR0.out W_ ((KW.out.mono (fun _ h => .inr h)).then_ hW (fun k h => .inl h))) HKL.out RK.out HV1.out).mono ?_
        rintro e w4 ⟨rfl, hR4, hl4, hK4, h04⟩
        have nk1 : w.heap.size ≠ hk := by have := HKW.out; omega
        have nk2 : gx ≠ hk := by have := HKW.out; have := GX.out; omega
        have BG := am (blk_kept BG.out hK4 (fun h => HGK.out h)); have BN := am (blk_kept BN.out hK4 nk1); have BX := am (blk_kept BX.out hK4 nk2); have RK := am hR4; have HKL := am hl4
        have RP := am (Kd.R_kept RP.out hK4 (fun k h => h)); have KW := am (KW.out.then_ hK4 (fun k h => .inl h)); have H0 := am (H0.out.trans h04)
        clear hR4 hl4 hK4 h04 hxp nk1 nk2
        obtain ⟨xv, hxv⟩ := xc_get acc j J3.out
        have hxx := (blk_cell BX.out j).trans hxv
        have hfx := blk_frozen BX.out j
        have kk : (0 : Int) ≤ (j : Int) ∧ (j : Int) < 3 := by have := J3.out; omega
        clear hxv
        have ngx : g ≠ gx := by have := GG.out; have := GX.out; omega
        have nbx : w.heap.size ≠ gx := by have := GX.out; omega
        have BG := am (blk_far (p := ⟨gx, j, none⟩) BG.out ngx (.int .i64 rv)); have BN := am (blk_far (p := ⟨gx, j, none⟩) BN.out nbx (.int .i64 rv))
        have KW := am (show Kept w (w4.setCell ⟨gx, j, none⟩ (.int .i64 rv)) (fun k => k = hk) from KW.out.setCell (.inr (by have := GX.out; show w.heap.size ≤ gx; omega)) _)
        have H0 := am (show Below 0 w (w4.setCell ⟨gx, j, none⟩ (.int .i64 rv)) from H0.out.setCell (Nat.zero_le _) _)
        have RK := am (Kd.R_far (p := ⟨gx, j, none⟩) RK.out (fun k hk' => by have := HKW.out; have := GX.out; show k ≠ gx; omega) (.int .i64 rv))
        have RP := am (Kd.R_far (p := ⟨gx, j, none⟩) (Kd.R_mono (ok' := fun k => k ≠ hk ∧ k ≠ gx) (Kd.R_bound RP.out) (fun k hk' => ⟨hk'.1, by have := hk'.2.1; have := GXX.out; omega⟩)) (fun k hk' => hk'.2) (.int .i64 rv))
        have RP := am (Kd.R_mono (ok' := fun k => k ≠ hk) RP.out (fun k hk' => hk'.1))
        have x0 := (blk_cell BG.out 0).trans (vcells_0 _ _ _ _)
        have HG0 := am (HR0.out _ (KW.out.mono (fun _ h => .inr h)))
        obtain ⟨_, e1, _, y1, _⟩ := at_T31 HG0.out pj (by have := HPJ.out; omega) (by have := HPJ.out; omega)
        cases e1
        clear ngx nbx
        have u1 : decide (0 ≤ pj) = true := decide_eq_true (by have := HPJ.out; omega)
        have u2 : decide (pj < (l0.length : Int)) = true := decide_eq_true (by have := HPJ.out; omega)
        have uu : 0 ≤ pj ∧ pj < (l0.length : Int) := by have := HPJ.out; omega
        obtain ⟨g1, rfl⟩ : ∃ g1, gk = g1 + 1 := ⟨gk - 1, by have := HG.out; omega⟩
        have BX1 := blk_set BX.out j (.int .i64 rv)
        rw [← HAL.out, xc_set acc rv (by rw [HAL.out]; exact J3.out), HAL.out] at BX1
        by_cases hj0 : j = 0
        ·have t5 : ((j : Int) == 0) = true := by rw [hj0]; rfl
         have HJ0 := am hj0
         clear hj0
         go_wp2_with fail
         clear x0 y1 u1 u2 uu kk hxx hfx t5
         have hvs : vs = (acc ++ [rv]) ++ vr := by rw [HVS.out, ← HRR.out.1, List.append_assoc]; rfl
         have hv2 := HV2.out
         rw [HRR.out.2] at hv2
         go_roundg g1
         case measure => omega
         case rel => exact ⟨j + 1, _, acc ++ [rv], vr, k1, by go_num, rfl, ⟨by rw [if_neg (by omega)]; unfold wid0; rw [if_pos (by omega)]; have h := WP.out; rw [HJ0.out] at h; rw [show rd ps 0 = pj from h]⟩, ⟨by have := HG.out; omega⟩, ⟨by rw [List.length_append, HAL.out]; rfl⟩, ⟨hvs⟩, ⟨hv2⟩, HKL, BG, BN, ⟨BX1⟩, RK, RP, KW, H0⟩
        ·have t5 : ((j : Int) == 0) = false := beq_eq_false_iff_ne.mpr (by omega)
         have HJ0 := am hj0
         clear hj0
         go_wp2_with fail
         clear x0 y1 u1 u2 uu kk hxx hfx t5
         have hvs : vs = (acc ++ [rv]) ++ vr := by rw [HVS.out, ← HRR.out.1, List.append_assoc]; rfl
         have hv2 := HV2.out
         rw [HRR.out.2] at hv2
         go_roundg g1
         case measure => omega
         case rel => exact ⟨j + 1, _, acc ++ [rv], vr, k1, by go_num, rfl, ⟨by rw [if_neg (by omega), HWV.out, if_neg HJ0.out]⟩, ⟨by have := HG.out; omega⟩, ⟨by rw [List.length_append, HAL.out]; rfl⟩, ⟨hvs⟩, ⟨hv2⟩, HKL, BG, BN, ⟨BX1⟩, RK, RP, KW, H0⟩
       ·obtain rfl : j = ps.length := by have := HG.out; omega
        have p2 : decide ((ps.length : Int) < (ps.length : Int)) = false := decide_eq_false (by omega)
        have hv := HVP.out
        rw [List.drop_length] at hv
        unfold vpl at hv
        obtain ⟨hr1, hr2⟩ := Prod.mk.inj (oI hv)
        have hwv : wv = wid0 l0 ps := by
         rw [HWV.out]
         by_cases h0 : ps.length = 0
         ·rw [if_pos h0]; unfold wid0; rw [if_neg (by omega)]
         ·rw [if_neg h0]
        have hvs : vs = acc := by rw [HVS.out, ← hr1, List.append_nil]
        have hap := HAP.out
        rw [hvs, ← hwv] at hap
        have hR := HR.out
        rw [← hr2] at hR
        have HAP := am hap; have HR := am hR
        clear hap hR hvs hwv hr1 hr2 hv HVP HVS
        obtain ⟨q0, q1, q2, q3, q4, q5⟩ := cz6q BN.out
        have z0 := (blk_cell BX.out 0).trans (show (xc acc)[0]? = some (.int .i64 (rd acc 0)) from rfl)
        have z1 := (blk_cell BX.out 1).trans (show (xc acc)[1]? = some (.int .i64 (rd acc 1)) from rfl)
        have z2 := (blk_cell BX.out 2).trans (show (xc acc)[2]? = some (.int .i64 (rd acc 2)) from rfl)
        go_wp2_with fail
        refine (impl_Apply.calls k op W Kq A B C wv (rd acc 0) (rd acc 1) (rd acc 2) rq _ HAP.out).mono ?_
        rintro e w5 ⟨rfl, hb⟩
        have RK := am (Kd.R_below RK.out hb); have KW := am (KW.out.below hb); have H0 := am (H0.out.trans (hb.mono (Nat.zero_le _)))
        clear hb q0 q1 q2 q3 q4 q5 z0 z1 z2
        obtain ⟨adk, ek, hx⟩ := Kd.at_int (Kd.R_reads' RK.out).2.2 i i0 (by have := HKL.out; omega)
        cases ek
        simp only [add_plain] at hx
        obtain ⟨g2, c2, e2, gb2, _, cl2, HGO⟩ := Kd.R_form RK.out (by have := HKL.out; omega)
        rw [HKL.out] at e2
        cases e2
        have hfx := blk_frozen HGO i.toNat
        clear HGO
        go_wp2_with fail
        go_ret
        refine ⟨by rw [← HR.out.1]; rfl, ?_, by rw [← HR.out.2, List.length_set]; exact HKL.out, KW.out.setCell (.inl rfl) _, H0.out.setCell (Nat.zero_le _) _⟩
        rw [← HR.out.2]
        exact Kd.R_putn RK.out i rq
     ·rw [if_neg hpb] at h
      exact absurd h (by simp)
 ·rw [if_neg hi] at h
  exact absurd h (by simp)
/-- The knot: value by rounds. -/
def impl_valueF (l0 : List (S31)) : Nat → List Int → Int → List Int → Option (Int × List Int)
 | 0 => fun _ _ _ => none
 | n + 1 => impl_valueR (n + 1) (impl_valueF l0 n) l0
theorem impl_valueF.calls (g : Nat) (A0 : Option Addr) (c0 : Nat) (l0 : List (S31)) (hc0 : l0.length ≤ c0) (hm : l0.length ≤ 1048576) : ∀ n, ValCon g A0 c0 l0 (impl_valueF l0 n)
 | 0 => by
  unfold ValCon
  intro hk ck base env i known r known' w hb he hgk hr0 hkl ho h
  exact absurd h (by simp [impl_valueF])
 | n + 1 => impl_valueR.calls (n + 1) g A0 c0 l0 _ (impl_valueF.calls g A0 c0 l0 hc0 hm n) hc0 hm
/-! ### impl_Value: by hand -/
def setL (cs : Array Value) : Nat → List Value → Array Value
  | _, [] => cs
  | o, v :: r => setL (cs.setIfInBounds o v) (o + 1) r
theorem blk_setCells {g t : Nat} : ∀ (vs : List Value) (o : Nat) (w : World) (cs : Array Value), w.heap[g]? = some (.cells cs t (0, 0)) → (w.setCells g o vs).heap[g]? = some (.cells (setL cs o vs) t (0, 0))
  | [], _, _, _, h => h
  | v :: r, o, w, cs, h => blk_setCells r (o + 1) _ _ (blk_set h o v)
theorem below_setCells {w : World} {g : Nat} (hg : w.heap.size ≤ g) : ∀ (vs : List Value) (o : Nat) (W : World), Below w.heap.size w W → Below w.heap.size w (W.setCells g o vs)
  | [], _, _, h => h
  | v :: r, o, W, h => below_setCells hg r (o + 1) _ (below_set h hg)
theorem setL_env (A : Option Addr) (n c : Nat) (l : List Int) (h : l.length = 8) : setL #[.slice A n c, .int .i64 0, .int .i64 0, .int .i64 0, .int .i64 0, .int .i64 0, .int .i64 0, .int .i64 0, .int .i64 0] 1 (l.map (Value.int .i64)) = vcells A n c l := by
  match l, h with
  | [a, b, c, d, e, f, g, h], _ => simp [setL, vcells]
set_option maxHeartbeats 4000000 in
set_option maxRecDepth 100000 in
/-- Behind the tests: the valuer is boxed, its array filled, and the root valued. -/
theorem impl_Value.tail (k : Nat) (A0 : Option Addr) (c0 : Nat) (l0 : List (S31)) (A1 : Option Addr) (c1 : Nat) (l1 : List Int) (r : Int) (kn : List Int) (w : World) (hr0 : Kd.C k31 w A0 l0.length l0) (hc0 : l0.length ≤ c0) (hr1 : Kd.C (Kd.int .i64) w A1 l1.length l1) (hc1 : l1.length ≤ c1) (h8 : l1.length = 8) (hl : 1 ≤ l0.length) (hm : l0.length ≤ 1048576)
    (ht : impl_TermOk.f k l0 = some true) (h : impl_valueF l0 k l1 ((l0.length : Int) - 1) (List.replicate l0.length (-1)) = some (r, kn))
    (hs : ∀ w : World, Kd.C k31 w A0 l0.length l0 → Kd.C (Kd.int .i64) w A1 l1.length l1 → Calls Try.prog 45 #[.slice A0 l0.length c0, .slice A1 l1.length c1] w fun e w' => e = .returned (.bool true) ∧ Below w.heap.size w w')
    (q : Int) (hq : impl_quantBits.f k l0 = some q) (hq12 : ¬ q > 12) :
    Calls Try.prog 14 #[.slice A0 l0.length c0, .slice A1 l1.length c1] w fun e w' => e = .returned (.tuple #[.int .i64 r, .bool true]) ∧ Below w.heap.size w w' := by
  have HR0 := am hr0; have HC0 := am hc0; have HR1 := am hr1; have HC1 := am hc1; have HL := am hl; have HM := am hm; have HT := am ht; have HH := am h; have HS := am hs; have HQ := am hq; have H8 := am h8
  have t1 : ((l1.length : Int) != 8) = false := by rw [h8]; rfl
  have t2 : decide (12 < q) = false := decide_eq_false (by omega)
  clear hr0 hc0 hr1 hc1 hl hm ht h hs hq hq12 h8
  go_enter Try.func14, Try.ntmps14
  go_wp2_with fail
  refine (impl_TermOk.calls k A0 c0 l0 true w HR0.out HC0.out HT.out).mono ?_
  rintro e w2 ⟨rfl, hb⟩
  have HB := am hb
  clear hb
  go_wp2_with fail
  refine (HS.out w2 (Kd.C_below HR0.out HB.out) (Kd.C_below HR1.out HB.out)).mono ?_
  rintro e w3 ⟨rfl, hb⟩
  have HB := am (HB.out.trans (hb.mono HB.out.size))
  clear hb
  go_wp2_with fail
  refine (impl_quantBits.calls k A0 c0 l0 q w3 (Kd.C_below HR0.out HB.out) HC0.out HQ.out).mono ?_
  rintro e w4 ⟨rfl, hb⟩
  have HB := am (HB.out.trans (hb.mono HB.out.size))
  clear hb
  go_wp2_with fail
  have hHB4 := HB.out
  have BX := heap_alloc_new w4 (Obj.cells #[.slice A0 l0.length c0, .int .i64 0, .int .i64 0, .int .i64 0, .int .i64 0, .int .i64 0, .int .i64 0, .int .i64 0, .int .i64 0] 65)
  have hA := below_alloc HB.out (Obj.cells #[.slice A0 l0.length c0, .int .i64 0, .int .i64 0, .int .i64 0, .int .i64 0, .int .i64 0, .int .i64 0, .int .i64 0, .int .i64 0] 65)
  generalize hWA : w4.alloc (Obj.cells #[.slice A0 l0.length c0, .int .i64 0, .int .i64 0, .int .i64 0, .int .i64 0, .int .i64 0, .int .i64 0, .int .i64 0, .int .i64 0] 65) = wA at *
  obtain ⟨ad1, ea1, hc1'⟩ : ∃ ad1, A1 = some ad1 ∧ ∀ j v, (l1.map (Value.int .i64))[j]? = some v → wA.cell? (ad1.add j) = some v := by
    obtain ⟨ad, e1, _⟩ := Kd.at_int HR1.out 0 (by omega) (by rw [H8.out]; decide)
    refine ⟨ad, e1, fun j v hv => ?_⟩
    obtain ⟨x, hx, rfl⟩ := Option.map_eq_some_iff.mp (by rw [List.getElem?_map] at hv; exact hv)
    have hj := (List.getElem?_eq_some_iff.mp hx).1
    obtain ⟨ad', e2, hc⟩ := Kd.at_int HR1.out (j : Int) (by omega) (by omega)
    rw [e1] at e2
    cases e2
    rw [Int.toNat_natCast, show rd l1 (j : Int) = x by simp [rd, hx, List.getD_eq_getElem?_getD]] at hc
    exact pw_cell_below hA hc
  subst ea1
  rw [run_copy_cells wA 25 25 3 3 w4.heap.size 1 8 8 ad1 l1.length c1 (l1.map (Value.int .i64)) Try.underlying25 rfl (by rw [List.length_map, H8.out]; rfl) hc1' ?hcc ?hff ?hoo]
  case hcc =>
    intro j hj
    rw [List.length_map, H8.out] at hj
    rw [blk_cell BX (1 + j)]
    have : j = 0 ∨ j = 1 ∨ j = 2 ∨ j = 3 ∨ j = 4 ∨ j = 5 ∨ j = 6 ∨ j = 7 := by omega
    rcases this with rfl | rfl | rfl | rfl | rfl | rfl | rfl | rfl <;> rfl
  case hff => exact fun j _ => blk_frozen BX _
  case hoo =>
    intro v hv
    obtain ⟨x, _, rfl⟩ := List.mem_map.mp hv
    rfl
  have hBX := blk_setCells (l1.map (Value.int .i64)) 1 _ _ BX
  rw [setL_env _ _ _ _ H8.out] at hBX
  have hHB := below_setCells HB.out.size (l1.map (Value.int .i64)) 1 _ hA
  have BG := am hBX; have HB := am hHB
  have G4 := am (show w.heap.size ≤ w4.heap.size from below_size hHB4)
  clear hBX hHB BX hA hc1'
  generalize wA.setCells w4.heap.size 1 (l1.map (Value.int .i64)) = wB at *
  go_wp2_with fail
  refine (impl_valuer_blank.calls w4.heap.size A0 c0 l0 l1 wB BG.out HL.out HM.out).mono ?_
  rintro e w5 ⟨hk, ck, rfl, hRK, hb⟩
  have hn : wrap64 ((l0.length : Int) - 1) = (l0.length : Int) - 1 := by have := HL.out; have := HM.out; unfold wrap64; omega
  have hgk : w4.heap.size < hk := by
    obtain ⟨g2, c2, e2, gb2, _⟩ := Kd.R_form hRK (by rw [List.length_replicate]; exact HL.out)
    rw [List.length_replicate] at e2
    cases e2
    exact Nat.lt_of_lt_of_le (blk_lt BG.out) gb2
  have BG := am (blk_below BG.out hb)
  have HB := am (HB.out.trans (hb.mono HB.out.size))
  have RK := am hRK
  have HV := impl_valueF.calls w4.heap.size A0 c0 l0 HC0.out HM.out k
  unfold ValCon at HV
  have HV := am HV
  have HGK := am hgk
  clear hb hRK hgk
  go_wp2_with fail
  try rw [hn]
  clear hn
  refine (HV.out hk ck _ l1 ((l0.length : Int) - 1) (List.replicate l0.length (-1)) r kn w5 BG.out H8.out (by have := HGK.out; omega) (fun W_ hW => ?_) (by simp) RK.out HH.out).mono ?_
  · have hbl : Below w.heap.size w { W_ with os := w.os, tape := w.tape, output := w.output } := ⟨rfl, rfl, rfl, Nat.le_trans HB.out.size hW.1, fun i hi => by
      show W_.heap[i]? = w.heap[i]?
      rw [hW.2 i (Nat.lt_of_lt_of_le hi HB.out.size) (by have := HGK.out; have := G4.out; omega), HB.out.block i hi]⟩
    have hC := Kd.C_below HR0.out hbl
    exact hC
  · rintro e w6 ⟨rfl, _, _, hK, h0⟩
    go_wp2
    refine bodyPost_ret (results_list (rs := [.tmp 4, .tmp 5]) rfl (by simp) (.tmp (.tmp .nil))) rfl ?_
    refine ⟨rfl, h0.os.trans HB.out.os, h0.tape.trans HB.out.tape, h0.output.trans HB.out.output, Nat.le_trans HB.out.size h0.size, fun i hi => ?_⟩
    rw [hK.2 i (Nat.lt_of_lt_of_le hi HB.out.size) (by have := HGK.out; have := G4.out; omega), HB.out.block i hi]
def impl_Value.f (k : Nat) (l0 : List (S31)) (l1 : List Int) : Option (Int × Bool) :=
  (impl_TermOk.f k l0).bind fun ok => (if ok = true then (if l1.length = 8 then (if 1 ≤ l0.length ∧ l0.length ≤ 1048576 then (impl_suits.f k l0 l1).bind fun s => (if s = true then (impl_quantBits.f k l0).bind fun q => (if q > 12 then some (0, false) else (impl_valueF l0 k l1 ((l0.length : Int) - 1) (List.replicate l0.length (-1))).bind fun p => some (p.1, true)) else some (0, false)) else none) else some (0, false)) else some (0, false))
set_option maxHeartbeats 4000000 in
set_option maxRecDepth 100000 in
theorem impl_Value.calls (k : Nat) (A0 : Option Addr) (c0 : Nat) (l0 : List (S31)) (A1 : Option Addr) (c1 : Nat) (l1 : List Int) (r1 : Int) (r2 : Bool) (w : World) (hr0 : Kd.C k31 w A0 l0.length l0) (hc0 : l0.length ≤ c0) (hr1 : Kd.C (Kd.int .i64) w A1 l1.length l1) (hc1 : l1.length ≤ c1) (h : impl_Value.f k l0 l1 = some (r1, r2)) :
    Calls Try.prog 14 #[.slice A0 l0.length c0, .slice A1 l1.length c1] w fun e w' => e = .returned (.tuple #[.int .i64 r1, .bool r2]) ∧ Below w.heap.size w w' := by
  unfold impl_Value.f at h
  obtain ⟨ok, ht, h⟩ := oB h
  cases ok with
  | false =>
    rw [if_neg (by decide)] at h
    obtain ⟨rfl, rfl⟩ := Prod.mk.inj (oI h)
    have HR0 := am hr0; have HC0 := am hc0; have HT := am ht
    clear h ht hr0 hc0 hr1 hc1
    go_enter Try.func14, Try.ntmps14
    go_wp2_with fail
    refine (impl_TermOk.calls k A0 c0 l0 false w HR0.out HC0.out HT.out).mono ?_
    rintro e w2 ⟨rfl, hb⟩
    have HB := am hb
    clear hb
    go_wp2_with fail
    refine bodyPost_ret (results_list (rs := [.tmp 4, .tmp 5]) rfl (by simp) (.tmp (.tmp .nil))) rfl ?_
    exact ⟨rfl, HB.out⟩
  | true =>
    rw [if_pos rfl] at h
    by_cases h8 : l1.length = 8
    · rw [if_pos h8] at h
      by_cases hl : 1 ≤ l0.length ∧ l0.length ≤ 1048576
      · rw [if_pos hl] at h
        obtain ⟨s, hs, h⟩ := oB h
        cases s with
        | false =>
          rw [if_neg (by decide)] at h
          obtain ⟨rfl, rfl⟩ := Prod.mk.inj (oI h)
          have HR0 := am hr0; have HC0 := am hc0; have HT := am ht; have HR1 := am hr1; have HC1 := am hc1; have HS := am hs
          have t1 : ((l1.length : Int) != 8) = false := by rw [h8]; rfl
          clear h ht hr0 hc0 hr1 hc1 hs h8 hl
          go_enter Try.func14, Try.ntmps14
          go_wp2_with fail
          refine (impl_TermOk.calls k A0 c0 l0 true w HR0.out HC0.out HT.out).mono ?_
          rintro e w2 ⟨rfl, hb⟩
          have HB := am hb
          clear hb
          go_wp2_with fail
          refine (impl_suits.calls k A0 c0 l0 A1 c1 l1 false w2 (Kd.C_below HR0.out HB.out) HC0.out (Kd.C_below HR1.out HB.out) HC1.out HS.out).mono ?_
          rintro e w3 ⟨rfl, hb⟩
          have HB := am (HB.out.trans (hb.mono HB.out.size))
          clear hb
          go_wp2_with fail
          refine bodyPost_ret (results_list (rs := [.tmp 4, .tmp 5]) rfl (by simp) (.tmp (.tmp .nil))) rfl ?_
          exact ⟨rfl, HB.out⟩
        | true =>
          rw [if_pos rfl] at h
          obtain ⟨q, hq, h⟩ := oB h
          by_cases hq12 : q > 12
          · rw [if_pos hq12] at h
            obtain ⟨rfl, rfl⟩ := Prod.mk.inj (oI h)
            have HR0 := am hr0; have HC0 := am hc0; have HT := am ht; have HR1 := am hr1; have HC1 := am hc1; have HS := am hs; have HQ := am hq
            have t1 : ((l1.length : Int) != 8) = false := by rw [h8]; rfl
            have t2 : decide (12 < q) = true := decide_eq_true (by omega)
            clear h ht hr0 hc0 hr1 hc1 hs h8 hl hq hq12
            go_enter Try.func14, Try.ntmps14
            go_wp2_with fail
            refine (impl_TermOk.calls k A0 c0 l0 true w HR0.out HC0.out HT.out).mono ?_
            rintro e w2 ⟨rfl, hb⟩
            have HB := am hb
            clear hb
            go_wp2_with fail
            refine (impl_suits.calls k A0 c0 l0 A1 c1 l1 true w2 (Kd.C_below HR0.out HB.out) HC0.out (Kd.C_below HR1.out HB.out) HC1.out HS.out).mono ?_
            rintro e w3 ⟨rfl, hb⟩
            have HB := am (HB.out.trans (hb.mono HB.out.size))
            clear hb
            go_wp2_with fail
            refine (impl_quantBits.calls k A0 c0 l0 q w3 (Kd.C_below HR0.out HB.out) HC0.out HQ.out).mono ?_
            rintro e w4 ⟨rfl, hb⟩
            have HB := am (HB.out.trans (hb.mono HB.out.size))
            clear hb
            go_wp2_with fail
            refine bodyPost_ret (results_list (rs := [.tmp 4, .tmp 5]) rfl (by simp) (.tmp (.tmp .nil))) rfl ?_
            exact ⟨rfl, HB.out⟩
          · rw [if_neg hq12] at h
            obtain ⟨⟨r, kn⟩, hv, h⟩ := oB h
            obtain ⟨rfl, rfl⟩ := Prod.mk.inj (oI h)
            exact impl_Value.tail k A0 c0 l0 A1 c1 l1 r kn w hr0 hc0 hr1 hc1 h8 hl.1 hl.2 ht hv (fun w' a b => impl_suits.calls k A0 c0 l0 A1 c1 l1 true w' a hc0 b hc1 hs) q hq hq12
      · rw [if_neg hl] at h
        exact absurd h (by simp)
    · rw [if_neg h8] at h
      obtain ⟨rfl, rfl⟩ := Prod.mk.inj (oI h)
      have HR0 := am hr0; have HC0 := am hc0; have HT := am ht
      have t1 : ((l1.length : Int) != 8) = true := bne_iff_ne.mpr (by omega)
      clear h ht hr0 hc0 hr1 hc1 h8
      go_enter Try.func14, Try.ntmps14
      go_wp2_with fail
      refine (impl_TermOk.calls k A0 c0 l0 true w HR0.out HC0.out HT.out).mono ?_
      rintro e w2 ⟨rfl, hb⟩
      have HB := am hb
      clear hb
      go_wp2_with fail
      refine bodyPost_ret (results_list (rs := [.tmp 4, .tmp 5]) rfl (by simp) (.tmp (.tmp .nil))) rfl ?_
      exact ⟨rfl, HB.out⟩
/-! ### laws_szNodeS: function 18 -/
def laws_szNodeS.f (l0 : List (S75)) (a1 : Int) : Option (Int) := if (wrap64 (a1 - (l0.length : Int))) < 0 then (some (-1)) else (some (wrap64 (a1 - (l0.length : Int))))
set_option maxHeartbeats 8000000 in
set_option maxRecDepth 100000 in
theorem laws_szNodeS.calls (A0 : Option Addr) (c0 : Nat) (l0 : List (S75)) (a1 : Int) (r : Int) (w : World) (hr0 : Kd.C k75 w A0 l0.length l0) (hc0 : l0.length ≤ c0) (h : laws_szNodeS.f l0 a1 = some r) :
  Calls Try.prog 18 #[.slice A0 l0.length c0, .int .i64 a1] w fun e w' => e = .returned (.int .i64 r) ∧ Drawn0 w w' := by
 have HR0 := am hr0
 have HC0 := am hc0
 clear hr0 hc0
 have H : (if (wrap64 (a1 - (l0.length : Int))) < 0 then (some (-1)) else (some (wrap64 (a1 - (l0.length : Int))))) = some r := h
 clear h
 by_cases c3 : (wrap64 (a1 - (l0.length : Int))) < 0
 ·rw [if_pos c3] at H
  have c3b0 : decide ((wrap64 (a1 - (l0.length : Int))) < 0) = true := decide_eq_true c3
  clear c3
  obtain rfl := oI H
  go_enter Try.func18, Try.ntmps18
  go_wp2
  go_ret
  exact ⟨by rfl, by repeat (first | exact Drawn0.refl _ | apply Drawn0.step)⟩
 ·rw [if_neg c3] at H
  have c3b0 : decide ((wrap64 (a1 - (l0.length : Int))) < 0) = false := decide_eq_false c3
  clear c3
  obtain rfl := oI H
  go_enter Try.func18, Try.ntmps18
  go_wp2
  go_ret
  exact ⟨by rfl, by repeat (first | exact Drawn0.refl _ | apply Drawn0.step)⟩
/-! ### spec_l01In: function 42 -/
def spec_l01In.f (a0 : Int) (a1 : Int) (a2 : Int) : Option (Bool) := if a0 ≥ a1 then (some (decide (a0 ≤ a2))) else (some false)
set_option maxHeartbeats 8000000 in
set_option maxRecDepth 100000 in
theorem spec_l01In.calls (a0 : Int) (a1 : Int) (a2 : Int) (r : Bool) (w : World) (h : spec_l01In.f a0 a1 a2 = some r) :
  Calls Try.prog 42 #[.int .i64 a0, .int .i64 a1, .int .i64 a2] w fun e w' => e = .returned (.bool r) ∧ Drawn0 w w' := by
 have H : (if a0 ≥ a1 then (some (decide (a0 ≤ a2))) else (some false)) = some r := h
 clear h
 by_cases c4 : a0 ≥ a1
 ·rw [if_pos c4] at H
  have c4b0 : decide (a1 ≤ a0) = true := decide_eq_true c4
  clear c4
  obtain rfl := oI H
  go_enter Try.func42, Try.ntmps42
  go_wp2
  go_ret
  exact ⟨by rfl, by repeat (first | exact Drawn0.refl _ | apply Drawn0.step)⟩
 ·rw [if_neg c4] at H
  have c4b0 : decide (a1 ≤ a0) = false := decide_eq_false c4
  clear c4
  obtain rfl := oI H
  go_enter Try.func42, Try.ntmps42
  go_wp2
  go_ret
  exact ⟨by rfl, by repeat (first | exact Drawn0.refl _ | apply Drawn0.step)⟩
/-! ### spec_Parts: function 70 -/
def spec_Parts.j0 : Nat → Bool → Int → Int → Int → Int → Int → Int → Option (List Int)
 | 0, _, _, _, _, _, _, _ => none
 | k + 1, x3, x102000, x102001, x102002, x102003, x102004, x102005 => if x3 = true then (some (([x102003] : List Int))) else ((spec_l01In.f x102000 3 16).bind fun t105 => (if t105 = true then (some (([x102003, x102004] : List Int))) else (if x102000 = 18 then (some (([x102003, x102004, x102005] : List Int))) else (some (([] : List Int))))))
def spec_Parts.f (k : Nat) (a0_0 : Int) (a0_1 : Int) (a0_2 : Int) (a0_3 : Int) (a0_4 : Int) (a0_5 : Int) : Option (List Int) := if a0_0 = 2 then (spec_Parts.j0 k true a0_0 a0_1 a0_2 a0_3 a0_4 a0_5) else (if a0_0 = 17 then (spec_Parts.j0 k true a0_0 a0_1 a0_2 a0_3 a0_4 a0_5) else (if a0_0 = 19 then (spec_Parts.j0 k true a0_0 a0_1 a0_2 a0_3 a0_4 a0_5) else (spec_Parts.j0 k (a0_0 == 20) a0_0 a0_1 a0_2 a0_3 a0_4 a0_5)))
set_option maxHeartbeats 8000000 in
set_option maxRecDepth 100000 in
theorem spec_Parts.calls (k : Nat) (a0_0 : Int) (a0_1 : Int) (a0_2 : Int) (a0_3 : Int) (a0_4 : Int) (a0_5 : Int) (r : List Int) (w : World) (h : spec_Parts.f k a0_0 a0_1 a0_2 a0_3 a0_4 a0_5 = some r) :
  Calls Try.prog 70 #[.agg #[.int .i64 a0_0, .int .i64 a0_1, .int .i64 a0_2, .int .i64 a0_3, .int .i64 a0_4, .int .i64 a0_5]] w fun e w' => ∃ v0_ : Value, e = .returned (v0_) ∧ Kd.R (Kd.int .i64) 3 w' w.heap.size (fun _ => True) v0_ r ∧ Below w.heap.size w w' := by
 have hu31 := Try.underlying31
 have HB := am (Below.refl w.heap.size w)
 have H : (if a0_0 = 2 then (spec_Parts.j0 k true a0_0 a0_1 a0_2 a0_3 a0_4 a0_5) else (if a0_0 = 17 then (spec_Parts.j0 k true a0_0 a0_1 a0_2 a0_3 a0_4 a0_5) else (if a0_0 = 19 then (spec_Parts.j0 k true a0_0 a0_1 a0_2 a0_3 a0_4 a0_5) else (spec_Parts.j0 k (a0_0 == 20) a0_0 a0_1 a0_2 a0_3 a0_4 a0_5)))) = some r := h
 clear h
 have HC2 := am H
 clear H
 go_enter Try.func70, Try.ntmps70
 go_upto_region 1 with (first | ((with_reducible refine gate_dst (N := 1) rfl ?_); refine box_event ?hg (N := 1) ?hd (cs := #[.int .i64 a0_0, .int .i64 a0_1, .int .i64 a0_2, .int .i64 a0_3, .int .i64 a0_4, .int .i64 a0_5]) (t := 31) ?hr ?_; (case hd => rfl); (case hg => rfl); (case hr => (go_simp; done)); intro gb101 hg w3 hbox hb; have n0_ := am (below_step (by exact sW HB.out) hb); have n1_ := am (hbox); have n2_ := am ((by rw [hg]; exact (below_size (by exact sW HB.out)) : w.heap.size ≤ gb101)); have n3_ := am ((by rw [hg]; exact (below_size (by exact sW HB.out)) : w.heap.size ≤ gb101)); clear HB; have HB := n0_; have BK101 := n1_; have GW101 := n2_; have GE101 := n3_; clear n0_ n1_ n2_ n3_; clear hb hbox hg))
 (try simp only [Act.put, List.setIfInBounds_toArray, List.set_cons_zero, List.set_cons_succ])
 go_cut [3] (fun v3 wc => ∃ (kq : Nat) (x3_1 : Bool), v3 = .bool x3_1 ∧ Aside0 (spec_Parts.j0 kq x3_1 a0_0 a0_1 a0_2 a0_3 a0_4 a0_5 = some r) ∧ Aside0 (kq ≤ k) ∧ Aside0 (wc.heap[gb101]? = some (.cells #[.int .i64 a0_0, .int .i64 a0_1, .int .i64 a0_2, .int .i64 a0_3, .int .i64 a0_4, .int .i64 a0_5] 31 (0, 0))) ∧ Aside0 (Below w.heap.size w wc))
 case first =>
  have H := HC2.out
  clear HC2
  by_cases c4 : a0_0 = 2
  ·rw [if_pos c4] at H
   have c4b0 : (a0_0 == 2) = true := beq_iff_eq.mpr c4
   have c4b1 : (a0_0 != 2) = false := bne_eq_false_iff_eq.mpr c4
   clear c4
   (skip)
   have H' := am H
   clear H
   obtain ⟨hcz5_0, hcz5_1, hcz5_2, hcz5_3, hcz5_4, hcz5_5⟩ := cz6 BK101.out
   obtain ⟨hfz5_0, hfz5_1, hfz5_2, hfz5_3, hfz5_4, hfz5_5⟩ := fz6 BK101.out
   go_wp2
   go_meet
   case rel => exact ⟨_, (true), (by rfl), H', ⟨by omega⟩, ⟨by exact sB <| BK101.out⟩, ⟨by exact bW⟩⟩
  ·rw [if_neg c4] at H
   have c4b0 : (a0_0 == 2) = false := beq_eq_false_iff_ne.mpr c4
   have c4b1 : (a0_0 != 2) = true := bne_iff_ne.mpr c4
   (skip)
   by_cases c6 : a0_0 = 17
   ·rw [if_pos c6] at H
    have c6b0 : (a0_0 == 17) = true := beq_iff_eq.mpr c6
    have c6b1 : (a0_0 != 17) = false := bne_eq_false_iff_eq.mpr c6
    clear c6
    have H' := am H
    clear H
    obtain ⟨hcz7_0, hcz7_1, hcz7_2, hcz7_3, hcz7_4, hcz7_5⟩ := cz6 BK101.out
    obtain ⟨hfz7_0, hfz7_1, hfz7_2, hfz7_3, hfz7_4, hfz7_5⟩ := fz6 BK101.out
    go_wp2
    go_meet
    case rel => exact ⟨_, (true), (by rfl), H', ⟨by omega⟩, ⟨by exact sB <| BK101.out⟩, ⟨by exact bW⟩⟩
   ·rw [if_neg c6] at H
    have c6b0 : (a0_0 == 17) = false := beq_eq_false_iff_ne.mpr c6
    have c6b1 : (a0_0 != 17) = true := bne_iff_ne.mpr c6
    by_cases c8 : a0_0 = 19
    ·rw [if_pos c8] at H
     have c8b0 : (a0_0 == 19) = true := beq_iff_eq.mpr c8
     have c8b1 : (a0_0 != 19) = false := bne_eq_false_iff_eq.mpr c8
     clear c8
     have H' := am H
     clear H
     obtain ⟨hcz9_0, hcz9_1, hcz9_2, hcz9_3, hcz9_4, hcz9_5⟩ := cz6 BK101.out
     obtain ⟨hfz9_0, hfz9_1, hfz9_2, hfz9_3, hfz9_4, hfz9_5⟩ := fz6 BK101.out
     go_wp2
     go_meet
     case rel => exact ⟨_, (true), (by rfl), H', ⟨by omega⟩, ⟨by exact sB <| BK101.out⟩, ⟨by exact bW⟩⟩
    ·rw [if_neg c8] at H
     have c8b0 : (a0_0 == 19) = false := beq_eq_false_iff_ne.mpr c8
     have c8b1 : (a0_0 != 19) = true := bne_iff_ne.mpr c8
     have H' := am H
     clear H
     obtain ⟨hcz10_0, hcz10_1, hcz10_2, hcz10_3, hcz10_4, hcz10_5⟩ := cz6 BK101.out
     obtain ⟨hfz10_0, hfz10_1, hfz10_2, hfz10_3, hfz10_4, hfz10_5⟩ := fz6 BK101.out
     go_wp2
     go_meet
     case rel => exact ⟨_, ((a0_0 == 20)), (by rfl), H', ⟨by omega⟩, ⟨by exact sB <| BK101.out⟩, ⟨by exact bW⟩⟩
 case rest =>
  clear HC2
  obtain ⟨kq, x3_1, rfl, HA, HJ1, BK101, HB⟩ := hcut
  cases kq with
  | zero => exact absurd HA.out (by simp [spec_Parts.j0])
  | succ kj1 =>
   have H := HA.out
   clear HA
   simp only [spec_Parts.j0] at H
   by_cases c11 : x3_1 = true
   ·subst c11
    rw [if_pos rfl] at H
    obtain ⟨y102, hy102⟩ : ∃ y_ : List Int, y_ = (([a0_3] : List Int)) := ⟨_, rfl⟩
    replace H : (some y102) = some r := by (rw [hy102]; with_reducible exact H)
    have Ny102 := am hy102
    clear hy102
    obtain rfl := oI H
    obtain ⟨hcz12_0, hcz12_1, hcz12_2, hcz12_3, hcz12_4, hcz12_5⟩ := cz6 BK101.out
    obtain ⟨hfz12_0, hfz12_1, hfz12_2, hfz12_3, hfz12_4, hfz12_5⟩ := fz6 BK101.out
    go_wp2_with (first | ((with_reducible refine gate_dst (N := 24) rfl ?_); refine Kd.R_lit (Kd.int .i64) _ 3 ?hg (N := 24) ?hd (xs := ([a0_3] : List Int)) (inner := [.int .i64 a0_3]) (ok := fun _ => True) (okp := fun _ => True) ?hr ?hp (fun _ hk => hk) trivial (Below.refl _ _) (Nat.le_refl _) (by simp) ?_; (case hd => rfl); (case hg => rfl); (case hr => (go_simp; done)); (case hp => exact (Reps.one (show Kd.M (Kd.int .i64) _ _ _ a0_3 [.int .i64 a0_3] from rfl) (Reps.none _ _))); intro v103 w13 ho14 hb hg_ hnew_; clear hg_ hnew_; (rw [← Ny102.out] at ho14); have n0_ := am (Kd.R_lower ho14 (below_size (by exact bW))); have n1_ := am (blk_below (g := gb101) (o := .cells #[.int .i64 a0_0, .int .i64 a0_1, .int .i64 a0_2, .int .i64 a0_3, .int .i64 a0_4, .int .i64 a0_5] 31 (0, 0)) (by exact sB <| BK101.out) hb); have n2_ := am (below_step (by exact bW) hb); clear BK101; clear HB; have HO104 := n0_; have BK101 := n1_; have HB := n2_; clear n0_ n1_ n2_; clear hb ho14))
    go_ret
    exact ⟨_, by rfl, by exact sR <| HO104.out, by exact bW⟩
   ·replace c11 := Bool.eq_false_iff.mpr c11
    subst c11
    rw [if_neg (show ¬ (false = true) by decide)] at H
    replace H := oB H
    obtain ⟨t105, A150, H⟩ := H
    have A15 := am A150
    clear A150
    by_cases c16 : t105 = true
    ·subst c16
     rw [if_pos rfl] at H
     obtain ⟨y106, hy106⟩ : ∃ y_ : List Int, y_ = (([a0_3, a0_4] : List Int)) := ⟨_, rfl⟩
     replace H : (some y106) = some r := by (rw [hy106]; with_reducible exact H)
     have Ny106 := am hy106
     clear hy106
     obtain rfl := oI H
     obtain ⟨hcz17_0, hcz17_1, hcz17_2, hcz17_3, hcz17_4, hcz17_5⟩ := cz6 BK101.out
     obtain ⟨hfz17_0, hfz17_1, hfz17_2, hfz17_3, hfz17_4, hfz17_5⟩ := fz6 BK101.out
     go_wp2_with (first | ((with_reducible refine gate_callee (f := 42) rfl ?_); refine goesL_ (some 28) rfl rfl Try.func42 (by kernel_rfl) rfl #[.int .i64 a0_0, .int .i64 3, .int .i64 16] rfl tm ?_; (with_reducible refine (spec_l01In.calls a0_0 3 16 true _ A15.out).mono ?_); rintro e w' ⟨rfl, ⟨nd, rfl⟩⟩; refine ⟨_, rfl, ?_⟩) | ((with_reducible refine gate_dst (N := 33) rfl ?_); refine Kd.R_lit (Kd.int .i64) _ 3 ?hg (N := 33) ?hd (xs := ([a0_3, a0_4] : List Int)) (inner := [.int .i64 a0_3, .int .i64 a0_4]) (ok := fun _ => True) (okp := fun _ => True) ?hr ?hp (fun _ hk => hk) trivial (Below.refl _ _) (Nat.le_refl _) (by simp) ?_; (case hd => rfl); (case hg => rfl); (case hr => (go_simp; done)); (case hp => exact (Reps.one (show Kd.M (Kd.int .i64) _ _ _ a0_3 [.int .i64 a0_3] from rfl) (Reps.one (show Kd.M (Kd.int .i64) _ _ _ a0_4 [.int .i64 a0_4] from rfl) (Reps.none _ _)))); intro v107 w18 ho19 hb hg_ hnew_; clear hg_ hnew_; (rw [← Ny106.out] at ho19); have n0_ := am (Kd.R_lower ho19 (below_size (by exact bW))); have n1_ := am (blk_below (g := gb101) (o := .cells #[.int .i64 a0_0, .int .i64 a0_1, .int .i64 a0_2, .int .i64 a0_3, .int .i64 a0_4, .int .i64 a0_5] 31 (0, 0)) (by exact sB <| BK101.out) hb); have n2_ := am (below_step (by exact bW) hb); clear BK101; clear HB; have HO108 := n0_; have BK101 := n1_; have HB := n2_; clear n0_ n1_ n2_; clear hb ho19))
     go_ret
     exact ⟨_, by rfl, by exact sR <| HO108.out, by exact bW⟩
    ·replace c16 := Bool.eq_false_iff.mpr c16
     subst c16
     rw [if_neg (show ¬ (false = true) by decide)] at H
     by_cases c20 : a0_0 = 18
     ·rw [if_pos c20] at H
      have c20b0 : (a0_0 == 18) = true := beq_iff_eq.mpr c20
      have c20b1 : (a0_0 != 18) = false := bne_eq_false_iff_eq.mpr c20
      clear c20
      obtain ⟨y109, hy109⟩ : ∃ y_ : List Int, y_ = (([a0_3, a0_4, a0_5] : List Int)) := ⟨_, rfl⟩
      replace H : (some y109) = some r := by (rw [hy109]; with_reducible exact H)
      have Ny109 := am hy109
      clear hy109
      obtain rfl := oI H
      obtain ⟨hcz21_0, hcz21_1, hcz21_2, hcz21_3, hcz21_4, hcz21_5⟩ := cz6 BK101.out
      obtain ⟨hfz21_0, hfz21_1, hfz21_2, hfz21_3, hfz21_4, hfz21_5⟩ := fz6 BK101.out
      go_wp2_with (first | ((with_reducible refine gate_callee (f := 42) rfl ?_); refine goesL_ (some 28) rfl rfl Try.func42 (by kernel_rfl) rfl #[.int .i64 a0_0, .int .i64 3, .int .i64 16] rfl tm ?_; (with_reducible refine (spec_l01In.calls a0_0 3 16 false _ A15.out).mono ?_); rintro e w' ⟨rfl, ⟨nd, rfl⟩⟩; refine ⟨_, rfl, ?_⟩) | ((with_reducible refine gate_dst (N := 44) rfl ?_); refine Kd.R_lit (Kd.int .i64) _ 3 ?hg (N := 44) ?hd (xs := ([a0_3, a0_4, a0_5] : List Int)) (inner := [.int .i64 a0_3, .int .i64 a0_4, .int .i64 a0_5]) (ok := fun _ => True) (okp := fun _ => True) ?hr ?hp (fun _ hk => hk) trivial (Below.refl _ _) (Nat.le_refl _) (by simp) ?_; (case hd => rfl); (case hg => rfl); (case hr => (go_simp; done)); (case hp => exact (Reps.one (show Kd.M (Kd.int .i64) _ _ _ a0_3 [.int .i64 a0_3] from rfl) (Reps.one (show Kd.M (Kd.int .i64) _ _ _ a0_4 [.int .i64 a0_4] from rfl) (Reps.one (show Kd.M (Kd.int .i64) _ _ _ a0_5 [.int .i64 a0_5] from rfl) (Reps.none _ _))))); intro v110 w22 ho23 hb hg_ hnew_; clear hg_ hnew_; (rw [← Ny109.out] at ho23); have n0_ := am (Kd.R_lower ho23 (below_size (by exact bW))); have n1_ := am (blk_below (g := gb101) (o := .cells #[.int .i64 a0_0, .int .i64 a0_1, .int .i64 a0_2, .int .i64 a0_3, .int .i64 a0_4, .int .i64 a0_5] 31 (0, 0)) (by exact sB <| BK101.out) hb); have n2_ := am (below_step (by exact bW) hb); clear BK101; clear HB; have HO111 := n0_; have BK101 := n1_; have HB := n2_; clear n0_ n1_ n2_; clear hb ho23))
      go_ret
      exact ⟨_, by rfl, by exact sR <| HO111.out, by exact bW⟩
     ·rw [if_neg c20] at H
      have c20b0 : (a0_0 == 18) = false := beq_eq_false_iff_ne.mpr c20
      have c20b1 : (a0_0 != 18) = true := bne_iff_ne.mpr c20
      obtain ⟨y112, hy112⟩ : ∃ y_ : List Int, y_ = (([] : List Int)) := ⟨_, rfl⟩
      replace H : (some y112) = some r := by (rw [hy112]; with_reducible exact H)
      have Ny112 := am hy112
      clear hy112
      obtain rfl := oI H
      obtain ⟨hcz24_0, hcz24_1, hcz24_2, hcz24_3, hcz24_4, hcz24_5⟩ := cz6 BK101.out
      obtain ⟨hfz24_0, hfz24_1, hfz24_2, hfz24_3, hfz24_4, hfz24_5⟩ := fz6 BK101.out
      go_wp2_with (first | ((with_reducible refine gate_callee (f := 42) rfl ?_); refine goesL_ (some 28) rfl rfl Try.func42 (by kernel_rfl) rfl #[.int .i64 a0_0, .int .i64 3, .int .i64 16] rfl tm ?_; (with_reducible refine (spec_l01In.calls a0_0 3 16 false _ A15.out).mono ?_); rintro e w' ⟨rfl, ⟨nd, rfl⟩⟩; refine ⟨_, rfl, ?_⟩) | ((with_reducible refine gate_dst (N := 45) rfl ?_); refine Kd.R_lit (Kd.int .i64) _ 3 ?hg (N := 45) ?hd (xs := ([] : List Int)) (inner := []) (ok := fun _ => True) (okp := fun _ => True) ?hr ?hp (fun _ hk => hk) trivial (Below.refl _ _) (Nat.le_refl _) (by simp) ?_; (case hd => rfl); (case hg => rfl); (case hr => (go_simp; done)); (case hp => exact (Reps.none _ _)); intro v113 w25 ho26 hb hg_ hnew_; clear hg_ hnew_; (rw [← Ny112.out] at ho26); have n0_ := am (Kd.R_lower ho26 (below_size (by exact bW))); have n1_ := am (blk_below (g := gb101) (o := .cells #[.int .i64 a0_0, .int .i64 a0_1, .int .i64 a0_2, .int .i64 a0_3, .int .i64 a0_4, .int .i64 a0_5] 31 (0, 0)) (by exact sB <| BK101.out) hb); have n2_ := am (below_step (by exact bW) hb); clear BK101; clear HB; have HO114 := n0_; have BK101 := n1_; have HB := n2_; clear n0_ n1_ n2_; clear hb ho26))
      go_ret
      exact ⟨_, by rfl, by exact sR <| HO114.out, by exact bW⟩
/-! ### spec_l01Pow2: function 81 -/
def spec_l01Pow2.l0 : Nat → Int → Int → Int → Option (Int)
 | 0, _, _, _ => none
 | k + 1, x0, x3, x4 => if x4 < x0 then (spec_l01Pow2.l0 k x0 (wrap64 (2 * x3)) (wrap64 (x4 + 1))) else (some x3)
def spec_l01Pow2.f (k : Nat) (a0 : Int) : Option (Int) := spec_l01Pow2.l0 k a0 1 0
set_option maxHeartbeats 8000000 in
set_option maxRecDepth 100000 in
theorem spec_l01Pow2.calls (k : Nat) (a0 : Int) (r : Int) (w : World) (h : spec_l01Pow2.f k a0 = some r) :
  Calls Try.prog 81 #[.int .i64 a0] w fun e w' => e = .returned (.int .i64 r) ∧ Drawn0 w w' := by
 have H : (spec_l01Pow2.l0 k a0 1 0) = some r := h
 clear h
 have H' := am H
 clear H
 go_enter Try.func81, Try.ntmps81
 go_wp2
 go_loopg [3, 4] k (fun kq v3 v4 w' => ∃ (x3_1 : Int) (x4_1 : Int), v3 = .int .i64 x3_1 ∧ v4 = .int .i64 x4_1 ∧ Aside0 (spec_l01Pow2.l0 kq a0 x3_1 x4_1 = some r) ∧ Aside0 (kq ≤ k) ∧ Drawn0 w w')
 case atStart => exact ⟨(1), (0), (by rfl), (by rfl), H', ⟨Nat.le_refl _⟩, by repeat (first | exact Drawn0.refl _ | apply Drawn0.step)⟩
 case round =>
  clear H'
  obtain ⟨x3_1, x4_1, rfl, rfl, HA, HK1, ⟨m1, rfl⟩⟩ := hrel
  cases gk with
  | zero => exact absurd HA.out (by simp [spec_l01Pow2.l0])
  | succ k1 =>
   have H := HA.out
   clear HA
   simp only [spec_l01Pow2.l0] at H
   by_cases c2 : x4_1 < a0
   ·rw [if_pos c2] at H
    have c2b0 : decide (x4_1 < a0) = true := decide_eq_true c2
    clear c2
    have H' := am H
    clear H
    go_wp2
    go_roundg k1
    case measure => have := HK1.out; omega
    case rel => exact ⟨(wrap64 (2 * x3_1)), (wrap64 (x4_1 + 1)), (by rfl), (by rfl), H', ⟨by have := HK1.out; omega⟩, by repeat (first | exact Drawn0.refl _ | apply Drawn0.step)⟩
   ·rw [if_neg c2] at H
    have c2b0 : decide (x4_1 < a0) = false := decide_eq_false c2
    clear c2
    obtain rfl := oI H
    go_wp2
    go_ret
    exact ⟨by rfl, by repeat (first | exact Drawn0.refl _ | apply Drawn0.step)⟩
/-! ### spec_WordOk: function 71 -/
def spec_WordOk.f (k : Nat) (a0 : Int) (a1 : Int) : Option (Bool) := (spec_l01In.f a0 1 8).bind fun t115 => (if t115 = true then ((spec_l01Pow2.f k a0).bind fun t116 => ((spec_l01In.f a1 0 (wrap64 (t116 - 1))).bind fun t117 => (some t117))) else (some false))
set_option maxHeartbeats 8000000 in
set_option maxRecDepth 100000 in
theorem spec_WordOk.calls (k : Nat) (a0 : Int) (a1 : Int) (r : Bool) (w : World) (h : spec_WordOk.f k a0 a1 = some r) :
  Calls Try.prog 71 #[.int .i64 a0, .int .i64 a1] w fun e w' => e = .returned (.bool r) ∧ Drawn0 w w' := by
 have H : ((spec_l01In.f a0 1 8).bind fun t115 => (if t115 = true then ((spec_l01Pow2.f k a0).bind fun t116 => ((spec_l01In.f a1 0 (wrap64 (t116 - 1))).bind fun t117 => (some t117))) else (some false))) = some r := h
 clear h
 replace H := oB H
 obtain ⟨t115, A30, H⟩ := H
 have A3 := am A30
 clear A30
 by_cases c4 : t115 = true
 ·subst c4
  rw [if_pos rfl] at H
  replace H := oB H
  obtain ⟨t116, A50, H⟩ := H
  have A5 := am A50
  clear A50
  replace H := oB H
  obtain ⟨t117, A60, H⟩ := H
  have A6 := am A60
  clear A60
  obtain rfl := oI H
  go_enter Try.func71, Try.ntmps71
  go_wp2_with (first | ((with_reducible refine gate_callee (f := 42) rfl ?_); refine goesL_ (some 6) rfl rfl Try.func42 (by kernel_rfl) rfl #[.int .i64 a0, .int .i64 1, .int .i64 8] rfl tm ?_; (with_reducible refine (spec_l01In.calls a0 1 8 true _ A3.out).mono ?_); rintro e w' ⟨rfl, ⟨nd, rfl⟩⟩; refine ⟨_, rfl, ?_⟩) | (go_at_call 81; (with_reducible refine (spec_l01Pow2.calls k a0 t116 _ A5.out).mono ?_); rintro e w' ⟨rfl, ⟨nd, rfl⟩⟩) | (go_at_call 42; (with_reducible refine (spec_l01In.calls a1 0 (wrap64 (t116 - 1)) t117 _ A6.out).mono ?_); rintro e w' ⟨rfl, ⟨nd, rfl⟩⟩))
  go_ret
  exact ⟨by rfl, by repeat (first | exact Drawn0.refl _ | apply Drawn0.step)⟩
 ·replace c4 := Bool.eq_false_iff.mpr c4
  subst c4
  rw [if_neg (show ¬ (false = true) by decide)] at H
  obtain rfl := oI H
  go_enter Try.func71, Try.ntmps71
  go_wp2_with (first | ((with_reducible refine gate_callee (f := 42) rfl ?_); refine goesL_ (some 6) rfl rfl Try.func42 (by kernel_rfl) rfl #[.int .i64 a0, .int .i64 1, .int .i64 8] rfl tm ?_; (with_reducible refine (spec_l01In.calls a0 1 8 false _ A3.out).mono ?_); rintro e w' ⟨rfl, ⟨nd, rfl⟩⟩; refine ⟨_, rfl, ?_⟩))
  go_ret
  exact ⟨by rfl, by repeat (first | exact Drawn0.refl _ | apply Drawn0.step)⟩
end Go.Proofs.Ytkpipmojkhikaaa.PAll
