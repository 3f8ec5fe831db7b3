/- Written by a program of this session over the loaded program: Go functions as plain Lean functions, and that a call comes to what they say. -/
import Derived.Test.YtdebihfmceclkaaPAllx0
import Derived.Test.YtdebihfmceclkaaPAllx12
import Derived.Test.YtdebihfmceclkaaPAllx13
import Derived.Test.YtdebihfmceclkaaPAllx14
import Derived.Test.YtdebihfmceclkaaSq
namespace Go.Proofs.Ytdebihfmceclkaa.PAll
open Go.RowKit Go.Proofs.YtdebihfmceclkaaW.PrintWords Go.Proofs.YtdebihfmceclkaaW.PrintLast Go.Proofs.YtdebihfmceclkaaW.PrintMore Go.Proofs.YtdebihfmceclkaaW.Sq
attribute [local go_sem] max2_int min2_int max_two min_two max_three min_three max_four min_four   -- for this text's walks alone
set_option linter.unusedVariables false
set_option linter.unusedSimpArgs false

/-! ### impl_isRight: by hand -/
def inB (x a b : Int) : Bool := decide (a ≤ x ∧ x ≤ b)
theorem withinI (x a b : Int) : impl_within.f x a b = some (inB x a b) := by
 unfold impl_within.f inB
 by_cases h : x ≥ a
 ·rw [if_pos h]; simp [h]
 ·rw [if_neg h]; simp [h]
theorem widthI (x : Int) : impl_isWidth.f x = some (inB x 1 8) := by
 unfold impl_isWidth.f; rw [withinI]; rfl
theorem varI (x : Int) : impl_isVar.f x = some (inB x 0 7) := by
 unfold impl_isVar.f; rw [withinI]; rfl
open Go.Proofs.Ytdebihfmceclkaa.Base in
theorem wordOkI (w a : Int) : impl_WordOk.f w a = some (wok w a) := by
 unfold impl_WordOk.f wok
 rw [widthI]; simp only [Option.bind_some]
 by_cases h : 1 ≤ w ∧ w ≤ 8
 ·have hp := P2_pos (by omega : 0 ≤ w) h.2
  rw [if_pos (by simp [inB, h]), if_pos (u64_nonneg w), u64_id (by omega) (by omega), shl_one (by omega) h.2, withinI, wrap_id (by omega) (by omega)]
  simp [inB, h]
 ·rw [if_neg (by simp [inB]; omega)]; simp; omega
/-- The places of a node's parts. -/
def partsL (op a b c : Int) : List Int := if op = 2 ∨ op = 17 ∨ op = 19 ∨ op = 20 then [a] else if 3 ≤ op ∧ op ≤ 16 then [a, b] else if op = 18 then [a, b, c] else []
theorem partsL_len (op a b c : Int) : (partsL op a b c).length ≤ 3 := by
 unfold partsL; split <;> (try split) <;> (try split) <;> simp
theorem partsI (op w q a b c : Int) {k : Nat} (hk : 1 ≤ k) : impl_Parts.f k op w q a b c = some (partsL op a b c) := by
 obtain ⟨k, rfl⟩ : ∃ m, k = m + 1 := ⟨k - 1, by omega⟩
 unfold impl_Parts.f partsL impl_isQuant.f
 simp only [impl_Parts.j0, withinI, inB]
 by_cases h2 : op = 2
 ·subst h2; simp
 ·by_cases h17 : op = 17
  ·subst h17; simp
  ·by_cases h19 : op = 19
   ·subst h19; simp
   ·by_cases h20 : op = 20
    ·subst h20; simp
    ·have hq : ¬ (op = 2 ∨ op = 17 ∨ op = 19 ∨ op = 20) := by omega
     rw [if_neg h2, if_neg h17, if_neg h19, if_neg hq]
     simp only [Option.bind_some, decide_eq_true_eq]
     rw [if_neg (by simpa using h20)]
     by_cases h3 : 3 ≤ op ∧ op ≤ 16
     ·rw [if_pos h3, if_pos h3]
     ·rw [if_neg h3, if_neg h3]
      by_cases h18 : op = 18
      ·rw [if_pos h18, if_pos h18]
      ·rw [if_neg h18, if_neg h18]
/-- What a node has no use for is 0. -/
def usesB (op K A B C : Int) : Bool :=
 if op = 0 ∨ op = 1 then A == 0 && B == 0 && C == 0 else if op = 17 then B == 0 && C == 0 else if op = 19 ∨ op = 20 then C == 0
 else if op = 2 then K == 0 && B == 0 && C == 0 else if 3 ≤ op ∧ op ≤ 16 then K == 0 && C == 0 else if op = 18 then K == 0 else K == 0 && A == 0 && B == 0 && C == 0
theorem usesI (op W K A B C : Int) {k : Nat} (hk : 3 ≤ k) : impl_usesOnly.f k op W K A B C = some (usesB op K A B C) := by
 obtain ⟨k, rfl⟩ : ∃ m, k = m + 1 := ⟨k - 1, by omega⟩
 unfold impl_usesOnly.f usesB
 rw [partsI op W K A B C (by omega)]
 simp only [Option.bind_some, impl_usesOnly.j0]
 unfold impl_isQuant.f partsL
 by_cases h0 : op = 0
 ·subst h0; simp [Bool.and_assoc]
 by_cases h1 : op = 1
 ·subst h1; simp [Bool.and_assoc]
 by_cases h17 : op = 17
 ·subst h17; simp
 by_cases h19 : op = 19
 ·subst h19; simp
 by_cases h20 : op = 20
 ·subst h20; simp
 by_cases h2 : op = 2
 ·subst h2; simp [Bool.and_assoc]
 by_cases h3 : 3 ≤ op ∧ op ≤ 16
 ·have e : ¬ (op = 2 ∨ op = 17 ∨ op = 19 ∨ op = 20) := by omega
  simp [h0, h1, h17, h19, h20, h2, h3]
 by_cases h18 : op = 18
 ·subst h18; simp
 ·simp [h0, h1, h17, h19, h20, h2, h3, h18, Bool.and_assoc]
theorem blk6 {w : World} {g T : Nat} {a b c d e f : Int} (h : w.heap[g]? = some (.cells #[.int .i64 a, .int .i64 b, .int .i64 c, .int .i64 d, .int .i64 e, .int .i64 f] T (0, 0))) :
  w.cell? ⟨g, 0, none⟩ = some (.int .i64 a) ∧ w.cell? ⟨g, 1, none⟩ = some (.int .i64 b) ∧ w.cell? ⟨g, 2, none⟩ = some (.int .i64 c) ∧ w.cell? ⟨g, 3, none⟩ = some (.int .i64 d) ∧ w.cell? ⟨g, 4, none⟩ = some (.int .i64 e) ∧ w.cell? ⟨g, 5, none⟩ = some (.int .i64 f) :=
 ⟨(blk_cell h 0).trans rfl, (blk_cell h 1).trans rfl, (blk_cell h 2).trans rfl, (blk_cell h 3).trans rfl, (blk_cell h 4).trans rfl, (blk_cell h 5).trans rfl⟩
theorem blk_new {w w1 : World} {o : Obj} {n : Nat} (hb : Below ((w.alloc o).drewN n).heap.size ((w.alloc o).drewN n) w1) : w1.heap[w.heap.size]? = some o :=
 (hb.block _ (by simp)).trans (heap_alloc_new w o)
theorem blk_new0 {w w1 : World} {o : Obj} (hb : Below (w.alloc o).heap.size (w.alloc o) w1) : w1.heap[w.heap.size]? = some o :=
 (hb.block _ (by simp)).trans (heap_alloc_new w o)
theorem blk_past {w w1 : World} {o o' : Obj} {g n : Nat} (h : w.heap[g]? = some o) (hb : Below ((w.alloc o').drewN n).heap.size ((w.alloc o').drewN n) w1) : w1.heap[g]? = some o :=
 (hb.block _ (by have := (Array.getElem?_eq_some_iff.1 h).1; simp; omega)).trans ((Below.heap_alloc w o' g (Array.getElem?_eq_some_iff.1 h).1).trans h)
theorem blk_past0 {w w1 : World} {o o' : Obj} {g : Nat} (h : w.heap[g]? = some o) (hb : Below (w.alloc o').heap.size (w.alloc o') w1) : w1.heap[g]? = some o :=
 (hb.block _ (by have := (Array.getElem?_eq_some_iff.1 h).1; simp; omega)).trans ((Below.heap_alloc w o' g (Array.getElem?_eq_some_iff.1 h).1).trans h)
theorem blk3 {w : World} {g T : Nat} {a b c : Int} (h : w.heap[g]? = some (.cells #[.int .i64 a, .int .i64 b, .int .i64 c] T (0, 0))) :
  w.cell? ⟨g, 0, none⟩ = some (.int .i64 a) ∧ w.cell? ⟨g, 1, none⟩ = some (.int .i64 b) ∧ w.cell? ⟨g, 2, none⟩ = some (.int .i64 c) :=
 ⟨(blk_cell h 0).trans rfl, (blk_cell h 1).trans rfl, (blk_cell h 2).trans rfl⟩
/-- Cell t of the array of widths when j parts are looked at. -/
def wv (l : List (S36)) (ps : List Int) (j t : Nat) : Int := if t < j then (rd_T36 l (rd ps (t : Int))).f1 else 0
/-- What a node's Op asks of the widths of its parts. -/
def rightSw (op W K B : Int) (u v x : Int) : Bool :=
 if op = 0 then Go.Proofs.Ytdebihfmceclkaa.Base.wok W K else if op = 1 then inB K 0 7 else if op = 2 then u == W
 else if 3 ≤ op ∧ op ≤ 12 then u == W && v == W else if 13 ≤ op ∧ op ≤ 15 then u == v && W == 1
 else if op = 16 then wrap64 (u + v) == W else if op = 17 then inB K 0 (wrap64 (u - W))
 else if op = 18 then u == 1 && v == W && x == W else inB K 0 7 && inB B 1 8 && u == 1 && W == 1
def rightB (l : List (S36)) (op W K A B C : Int) : Bool :=
 inB W 1 8 && inB op 0 20 && usesB op K A B C && (partsL op A B C).all (fun p => inB p 0 ((l.length : Int) - 1)) &&
  rightSw op W K B (wv l (partsL op A B C) (partsL op A B C).length 0) (wv l (partsL op A B C) (partsL op A B C).length 1) (wv l (partsL op A B C) (partsL op A B C).length 2)
def impl_isRight.f (l0 : List (S36)) (a1_0 : Int) (a1_1 : Int) (a1_2 : Int) (a1_3 : Int) (a1_4 : Int) (a1_5 : Int) : Option Bool := some (rightB l0 a1_0 a1_1 a1_2 a1_3 a1_4 a1_5)
set_option maxHeartbeats 2000000 in
set_option maxRecDepth 100000 in
theorem isRight_no1 (A0 : Option Addr) (c0 : Nat) (l0 : List (S36)) (a1_0 : Int) (a1_1 : Int) (a1_2 : Int) (a1_3 : Int) (a1_4 : Int) (a1_5 : Int) (w : World) (hr0 : Kd.C k36 w A0 l0.length l0) (hc0 : l0.length ≤ c0) (b1 : inB a1_1 1 8 = false) :
  Calls Try.prog 49 #[.slice A0 l0.length c0, .agg #[.int .i64 a1_0, .int .i64 a1_1, .int .i64 a1_2, .int .i64 a1_3, .int .i64 a1_4, .int .i64 a1_5]] w fun e w' => e = .returned (.bool (false)) ∧ Below w.heap.size w w' := by
 go_enter Try.func49, Try.ntmps49
 go_wp2_with (first | (go_at_call 68; (with_reducible refine (impl_isWidth.calls _ _ _ (widthI _)).mono ?_); rintro e w' ⟨rfl, ⟨nd, rfl⟩⟩) | (go_at_call 48; (with_reducible refine (impl_within.calls _ _ _ _ _ (withinI _ _ _)).mono ?_); rintro e w' ⟨rfl, ⟨nd, rfl⟩⟩) | (go_at_call 82; (with_reducible refine (impl_isVar.calls _ _ _ (varI _)).mono ?_); rintro e w' ⟨rfl, ⟨nd, rfl⟩⟩) | (go_at_call 54; (with_reducible refine (impl_WordOk.calls _ _ _ _ (wordOkI _ _)).mono ?_); rintro e w' ⟨rfl, ⟨nd, rfl⟩⟩))
 go_ret
 exact ⟨rfl, pw_below_drewN (below_alloc (Below.refl _ _) _) _⟩
set_option maxHeartbeats 2000000 in
set_option maxRecDepth 100000 in
theorem isRight_no2 (A0 : Option Addr) (c0 : Nat) (l0 : List (S36)) (a1_0 : Int) (a1_1 : Int) (a1_2 : Int) (a1_3 : Int) (a1_4 : Int) (a1_5 : Int) (w : World) (hr0 : Kd.C k36 w A0 l0.length l0) (hc0 : l0.length ≤ c0) (b1 : inB a1_1 1 8 = true) (b2 : inB a1_0 0 20 = false) :
  Calls Try.prog 49 #[.slice A0 l0.length c0, .agg #[.int .i64 a1_0, .int .i64 a1_1, .int .i64 a1_2, .int .i64 a1_3, .int .i64 a1_4, .int .i64 a1_5]] w fun e w' => e = .returned (.bool (false)) ∧ Below w.heap.size w w' := by
 go_enter Try.func49, Try.ntmps49
 go_wp2_with (first | (go_at_call 68; (with_reducible refine (impl_isWidth.calls _ _ _ (widthI _)).mono ?_); rintro e w' ⟨rfl, ⟨nd, rfl⟩⟩) | (go_at_call 48; (with_reducible refine (impl_within.calls _ _ _ _ _ (withinI _ _ _)).mono ?_); rintro e w' ⟨rfl, ⟨nd, rfl⟩⟩) | (go_at_call 82; (with_reducible refine (impl_isVar.calls _ _ _ (varI _)).mono ?_); rintro e w' ⟨rfl, ⟨nd, rfl⟩⟩) | (go_at_call 54; (with_reducible refine (impl_WordOk.calls _ _ _ _ (wordOkI _ _)).mono ?_); rintro e w' ⟨rfl, ⟨nd, rfl⟩⟩))
 go_ret
 exact ⟨rfl, pw_below_drewN (below_alloc (Below.refl _ _) _) _⟩
set_option maxHeartbeats 2000000 in
set_option maxRecDepth 100000 in
theorem isRight_no3 (A0 : Option Addr) (c0 : Nat) (l0 : List (S36)) (a1_0 : Int) (a1_1 : Int) (a1_2 : Int) (a1_3 : Int) (a1_4 : Int) (a1_5 : Int) (w : World) (hr0 : Kd.C k36 w A0 l0.length l0) (hc0 : l0.length ≤ c0) (b1 : inB a1_1 1 8 = true) (b2 : inB a1_0 0 20 = true) (b3 : usesB a1_0 a1_2 a1_3 a1_4 a1_5 = false) :
  Calls Try.prog 49 #[.slice A0 l0.length c0, .agg #[.int .i64 a1_0, .int .i64 a1_1, .int .i64 a1_2, .int .i64 a1_3, .int .i64 a1_4, .int .i64 a1_5]] w fun e w' => e = .returned (.bool (false)) ∧ Below w.heap.size w w' := by
 go_enter Try.func49, Try.ntmps49
 go_wp2_with (first | (go_at_call 68; (with_reducible refine (impl_isWidth.calls _ _ _ (widthI _)).mono ?_); rintro e w' ⟨rfl, ⟨nd, rfl⟩⟩) | (go_at_call 48; (with_reducible refine (impl_within.calls _ _ _ _ _ (withinI _ _ _)).mono ?_); rintro e w' ⟨rfl, ⟨nd, rfl⟩⟩) | (go_at_call 82; (with_reducible refine (impl_isVar.calls _ _ _ (varI _)).mono ?_); rintro e w' ⟨rfl, ⟨nd, rfl⟩⟩) | (go_at_call 54; (with_reducible refine (impl_WordOk.calls _ _ _ _ (wordOkI _ _)).mono ?_); rintro e w' ⟨rfl, ⟨nd, rfl⟩⟩) | (go_at_call 90; (with_reducible refine (impl_usesOnly.calls 3 _ _ _ _ _ _ _ _ (usesI _ _ _ _ _ _ (by omega))).mono ?_); rintro e w1 ⟨rfl, hb⟩; have BK := Aside0.mk (blk_new hb); have HB := Aside0.mk (show Below w.heap.size w w1 from (pw_below_drewN (below_alloc (Below.refl _ _) _) _).trans (hb.mono (by simp))); have hlt := (Array.getElem?_eq_some_iff.1 BK.out).1; clear hb; obtain ⟨q0, q1, q2, q3, q4, q5⟩ := blk6 BK.out))
 go_ret
 exact ⟨rfl, HB.out⟩
set_option maxHeartbeats 2000000 in
set_option maxRecDepth 100000 in
theorem isRight_go (A0 : Option Addr) (c0 : Nat) (l0 : List (S36)) (a1_0 : Int) (a1_1 : Int) (a1_2 : Int) (a1_3 : Int) (a1_4 : Int) (a1_5 : Int) (w : World) (hr0 : Kd.C k36 w A0 l0.length l0) (hc0 : l0.length ≤ c0) (b1 : inB a1_1 1 8 = true) (b2 : inB a1_0 0 20 = true) (b3 : usesB a1_0 a1_2 a1_3 a1_4 a1_5 = true) (r : Bool)
  (hno : ¬ (∀ t : Nat, t < (partsL a1_0 a1_3 a1_4 a1_5).length → inB (rd (partsL a1_0 a1_3 a1_4 a1_5) (t : Int)) 0 ((l0.length : Int) - 1) = true) → r = false)
  (hyes : (∀ t : Nat, t < (partsL a1_0 a1_3 a1_4 a1_5).length → inB (rd (partsL a1_0 a1_3 a1_4 a1_5) (t : Int)) 0 ((l0.length : Int) - 1) = true) → r = rightSw a1_0 a1_1 a1_2 a1_4 (wv l0 (partsL a1_0 a1_3 a1_4 a1_5) (partsL a1_0 a1_3 a1_4 a1_5).length 0) (wv l0 (partsL a1_0 a1_3 a1_4 a1_5) (partsL a1_0 a1_3 a1_4 a1_5).length 1) (wv l0 (partsL a1_0 a1_3 a1_4 a1_5) (partsL a1_0 a1_3 a1_4 a1_5).length 2)) :
  Calls Try.prog 49 #[.slice A0 l0.length c0, .agg #[.int .i64 a1_0, .int .i64 a1_1, .int .i64 a1_2, .int .i64 a1_3, .int .i64 a1_4, .int .i64 a1_5]] w fun e w' => e = .returned (.bool (r)) ∧ Below w.heap.size w w' := by
 have HR0 := Aside0.mk hr0
 have HC0 := Aside0.mk hc0
 clear hr0 hc0
 have hl0 : (l0.length : Int) ≤ 9223372036854775807 := by have := HR0.out.2.1; omega
 have HNO := Aside0.mk hno
 have HYES := Aside0.mk hyes
 clear hno hyes
 go_enter Try.func49, Try.ntmps49
 go_wp2_with (first | (go_at_call 68; (with_reducible refine (impl_isWidth.calls _ _ _ (widthI _)).mono ?_); rintro e w' ⟨rfl, ⟨nd, rfl⟩⟩) | (go_at_call 48; (with_reducible refine (impl_within.calls _ _ _ _ _ (withinI _ _ _)).mono ?_); rintro e w' ⟨rfl, ⟨nd, rfl⟩⟩) | (go_at_call 82; (with_reducible refine (impl_isVar.calls _ _ _ (varI _)).mono ?_); rintro e w' ⟨rfl, ⟨nd, rfl⟩⟩) | (go_at_call 54; (with_reducible refine (impl_WordOk.calls _ _ _ _ (wordOkI _ _)).mono ?_); rintro e w' ⟨rfl, ⟨nd, rfl⟩⟩) | (go_at_call 90; (with_reducible refine (impl_usesOnly.calls 3 _ _ _ _ _ _ _ _ (usesI _ _ _ _ _ _ (by omega))).mono ?_); rintro e w1 ⟨rfl, hb⟩; have BK := Aside0.mk (blk_new hb); have HB := Aside0.mk (show Below w.heap.size w w1 from (pw_below_drewN (below_alloc (Below.refl _ _) _) _).trans (hb.mono (by simp))); have hlt := (Array.getElem?_eq_some_iff.1 BK.out).1; clear hb; obtain ⟨q0, q1, q2, q3, q4, q5⟩ := blk6 BK.out))
 refine (impl_Parts.calls 1 _ _ _ _ _ _ _ _ (partsI _ _ _ _ _ _ (by omega))).mono ?_
 rintro e w2 ⟨v0, rfl, HO, hb⟩
 have BK2 := Aside0.mk (blk_past0 BK.out hb)
 have AR := Aside0.mk (blk_new0 hb)
 have HB2 := Aside0.mk ((HB.out.alloc HB.out.size _).trans (hb.mono (by have := HB.out.size; simp; omega)))
 have hw1 := Aside0.mk HB.out.size
 clear q0 q1 q2 q3 q4 q5 hb HB BK
 obtain ⟨A5, c5, rfl, _, _⟩ := Kd.R_reads HO
 have HO2 := Aside0.mk (show Kd.R (Kd.int .i64) 3 w2 (w1.heap.size + 1) (fun k => w1.heap.size + 1 ≤ k) (.slice A5 (partsL a1_0 a1_3 a1_4 a1_5).length c5) (partsL a1_0 a1_3 a1_4 a1_5) from
  Kd.R_mono (Kd.R_bound (Kd.R_lower HO (by simp))) (fun k hk => hk.2.1))
 clear HO
 have hps3 := partsL_len a1_0 a1_3 a1_4 a1_5
 obtain ⟨ps, hps⟩ : ∃ ps, partsL a1_0 a1_3 a1_4 a1_5 = ps := ⟨_, rfl⟩
 rw [hps] at HNO HYES HO2 hps3 ⊢
 clear hps
 have HP3 := Aside0.mk hps3
 clear hps3
 go_wp2
 go_loopg [27] ps.length (fun g v27 w' => ∃ j : Nat, v27 = .int .i64 (j : Int) ∧ Aside0 (g + j = ps.length) ∧ Aside0 (∀ t : Nat, t < j → inB (rd ps (t : Int)) 0 ((l0.length : Int) - 1) = true) ∧
  Aside0 (w'.heap[w1.heap.size]? = some (.cells #[.int .i64 (wv l0 ps j 0), .int .i64 (wv l0 ps j 1), .int .i64 (wv l0 ps j 2)] 86 (0, 0))) ∧
  Aside0 (w'.heap[w.heap.size]? = some (.cells #[.int .i64 a1_0, .int .i64 a1_1, .int .i64 a1_2, .int .i64 a1_3, .int .i64 a1_4, .int .i64 a1_5] 36 (0, 0))) ∧
  Aside0 (Kd.R (Kd.int .i64) 3 w' (w1.heap.size + 1) (fun k => w1.heap.size + 1 ≤ k) (.slice A5 ps.length c5) ps) ∧ Aside0 (Below w.heap.size w w'))
 case atStart => exact ⟨0, rfl, ⟨rfl⟩, ⟨fun t ht => absurd ht (by omega)⟩, AR, BK2, HO2, HB2⟩
 case round =>
  clear AR BK2 HO2 HB2
  obtain ⟨j, rfl, HG, HA, AR, BK, HO, HB⟩ := hrel
  by_cases hj : j < ps.length
  ·have hj3 : j < 3 := by have := HP3.out; omega
   have p1 : (0 : Int) ≤ (j : Int) := by omega
   have p2 : (j : Int) < (ps.length : Int) := by omega
   have t1 : decide ((j : Int) < (ps.length : Int)) = true := decide_eq_true p2
   obtain ⟨A6, c6, e6, _, hr6⟩ := Kd.R_reads HO.out
   cases e6
   obtain ⟨ad5, e5, hx5⟩ := Kd.at_int hr6 (j : Int) p1 p2
   cases e5
   rw [Int.toNat_natCast] at hx5
   clear hr6
   by_cases hin : inB (rd ps (j : Int)) 0 ((l0.length : Int) - 1) = true
   ·have hi2 : 0 ≤ rd ps (j : Int) ∧ rd ps (j : Int) ≤ (l0.length : Int) - 1 := by simpa [inB] using hin
    have p3 : 0 ≤ rd ps (j : Int) := hi2.1
    have p4 : rd ps (j : Int) < (l0.length : Int) := by omega
    clear hi2
    obtain ⟨ad0, e0, y0, y1, y2, y3, y4, y5⟩ := at_T36 HR0.out (rd ps (j : Int)) p3 p4
    cases e0
    replace y1 := pw_cell_below HB.out y1
    clear y0 y2 y3 y4 y5
    have fz : wr.frozen? ⟨w1.heap.size, j, none⟩ = false := by have h := AR.out; simp [World.frozen?, h]
    have old : ∃ v, wr.cell? ⟨w1.heap.size, j, none⟩ = some v := by
     have h := blk_cell AR.out j
     have : j = 0 ∨ j = 1 ∨ j = 2 := by omega
     rcases this with rfl | rfl | rfl <;> exact ⟨_, h.trans rfl⟩
    obtain ⟨ov, old⟩ := old
    go_wp2_with (first | (go_at_call 68; (with_reducible refine (impl_isWidth.calls _ _ _ (widthI _)).mono ?_); rintro e w' ⟨rfl, ⟨nd, rfl⟩⟩) | (go_at_call 48; (with_reducible refine (impl_within.calls _ _ _ _ _ (withinI _ _ _)).mono ?_); rintro e w' ⟨rfl, ⟨nd, rfl⟩⟩) | (go_at_call 82; (with_reducible refine (impl_isVar.calls _ _ _ (varI _)).mono ?_); rintro e w' ⟨rfl, ⟨nd, rfl⟩⟩) | (go_at_call 54; (with_reducible refine (impl_WordOk.calls _ _ _ _ (wordOkI _ _)).mono ?_); rintro e w' ⟨rfl, ⟨nd, rfl⟩⟩))
    obtain ⟨g1, rfl⟩ : ∃ g1, gk = g1 + 1 := ⟨gk - 1, by have := HG.out; omega⟩
    go_roundg g1
    case measure => omega
    case rel =>
     refine ⟨j + 1, by go_num, ⟨by have := HG.out; omega⟩, ⟨fun t ht => ?_⟩, ⟨?_⟩, ⟨?_⟩, ⟨?_⟩, ⟨?_⟩⟩
     ·rcases Nat.lt_or_ge t j with h | h
      ·exact HA.out t h
      ·obtain rfl : t = j := by omega
       exact hin
     ·have h := blk_set (show (wr.drewN nd).heap[w1.heap.size]? = some (.cells _ _ (0, 0)) from AR.out) j (.int .i64 (rd_T36 l0 (rd ps (j : Int))).f1)
      refine h.trans ?_
      have : j = 0 ∨ j = 1 ∨ j = 2 := by omega
      rcases this with rfl | rfl | rfl <;> simp [wv]
     ·exact blk_far (show (wr.drewN nd).heap[w.heap.size]? = some (.cells _ _ (0, 0)) from BK.out) (by simp; omega) _
     ·exact Kd.R_far (Kd.R_drewN HO.out _) (fun k hk => by simp; omega) _
     ·exact below_set (pw_below_drewN HB.out _) hw1.out
   ·have hin' : inB (rd ps (j : Int)) 0 ((l0.length : Int) - 1) = false := by simpa using hin
    go_wp2_with (first | (go_at_call 68; (with_reducible refine (impl_isWidth.calls _ _ _ (widthI _)).mono ?_); rintro e w' ⟨rfl, ⟨nd, rfl⟩⟩) | (go_at_call 48; (with_reducible refine (impl_within.calls _ _ _ _ _ (withinI _ _ _)).mono ?_); rintro e w' ⟨rfl, ⟨nd, rfl⟩⟩) | (go_at_call 82; (with_reducible refine (impl_isVar.calls _ _ _ (varI _)).mono ?_); rintro e w' ⟨rfl, ⟨nd, rfl⟩⟩) | (go_at_call 54; (with_reducible refine (impl_WordOk.calls _ _ _ _ (wordOkI _ _)).mono ?_); rintro e w' ⟨rfl, ⟨nd, rfl⟩⟩))
    go_ret
    exact ⟨by rw [HNO.out (fun h => hin (h j hj))] <;> rfl, pw_below_drewN HB.out _⟩
  ·have t1 : decide ((j : Int) < (ps.length : Int)) = false := decide_eq_false (by omega)
   obtain rfl : j = ps.length := by have := HG.out; omega
   obtain ⟨q0, q1, q2, q3, q4, q5⟩ := blk6 BK.out
   obtain ⟨z0, z1, z2⟩ := blk3 AR.out
   have HR := Aside0.mk (HYES.out HA.out)
   clear HYES HNO HA hj
   generalize wv l0 ps ps.length 0 = u at *
   generalize wv l0 ps ps.length 1 = v at *
   generalize wv l0 ps ps.length 2 = x at *
   have hop : (a1_0 = 0) ∨ (a1_0 = 1) ∨ (a1_0 = 2) ∨ (3 ≤ a1_0 ∧ a1_0 ≤ 12) ∨ (13 ≤ a1_0 ∧ a1_0 ≤ 15) ∨ (a1_0 = 16) ∨ (a1_0 = 17) ∨ (a1_0 = 18) ∨ (a1_0 = 19 ∨ a1_0 = 20) := by
    have h : 0 ≤ a1_0 ∧ a1_0 ≤ 20 := by simpa [inB] using b2
    omega
   clear b1 b2 b3
   have tc := fun (b : Bool) => (Bool.eq_false_or_eq_true b).symm
   rcases hop with h | h | h | h | h | h | h | h | h
   ·have E : rightSw a1_0 a1_1 a1_2 a1_4 u v x = Go.Proofs.Ytdebihfmceclkaa.Base.wok a1_1 a1_2 := by unfold rightSw; rw [if_pos h]
    have k0 : (a1_0 == 0) = true := by simp [h]
    (go_wp2_with (first | (go_at_call 68; (with_reducible refine (impl_isWidth.calls _ _ _ (widthI _)).mono ?_); rintro e w' ⟨rfl, ⟨nd, rfl⟩⟩) | (go_at_call 48; (with_reducible refine (impl_within.calls _ _ _ _ _ (withinI _ _ _)).mono ?_); rintro e w' ⟨rfl, ⟨nd, rfl⟩⟩) | (go_at_call 82; (with_reducible refine (impl_isVar.calls _ _ _ (varI _)).mono ?_); rintro e w' ⟨rfl, ⟨nd, rfl⟩⟩) | (go_at_call 54; (with_reducible refine (impl_WordOk.calls _ _ _ _ (wordOkI _ _)).mono ?_); rintro e w' ⟨rfl, ⟨nd, rfl⟩⟩)); go_ret; exact ⟨by rw [HR.out, E]; (rfl), by exact pw_below_drewN HB.out _⟩)
   ·have E : rightSw a1_0 a1_1 a1_2 a1_4 u v x = inB a1_2 0 7 := by unfold rightSw; rw [if_neg (by omega), if_pos h]
    have k0 : (a1_0 == 0) = false := by simp [inB]; omega
    have k1 : (a1_0 == 1) = true := by simp [h]
    (go_wp2_with (first | (go_at_call 68; (with_reducible refine (impl_isWidth.calls _ _ _ (widthI _)).mono ?_); rintro e w' ⟨rfl, ⟨nd, rfl⟩⟩) | (go_at_call 48; (with_reducible refine (impl_within.calls _ _ _ _ _ (withinI _ _ _)).mono ?_); rintro e w' ⟨rfl, ⟨nd, rfl⟩⟩) | (go_at_call 82; (with_reducible refine (impl_isVar.calls _ _ _ (varI _)).mono ?_); rintro e w' ⟨rfl, ⟨nd, rfl⟩⟩) | (go_at_call 54; (with_reducible refine (impl_WordOk.calls _ _ _ _ (wordOkI _ _)).mono ?_); rintro e w' ⟨rfl, ⟨nd, rfl⟩⟩)); go_ret; exact ⟨by rw [HR.out, E]; (rfl), by exact pw_below_drewN HB.out _⟩)
   ·have E : rightSw a1_0 a1_1 a1_2 a1_4 u v x = (u == a1_1) := by unfold rightSw; rw [if_neg (by omega), if_neg (by omega), if_pos h]
    have k0 : (a1_0 == 0) = false := by simp [inB]; omega
    have k1 : (a1_0 == 1) = false := by simp [inB]; omega
    have k2 : (a1_0 == 2) = true := by simp [h]
    (go_wp2_with (first | (go_at_call 68; (with_reducible refine (impl_isWidth.calls _ _ _ (widthI _)).mono ?_); rintro e w' ⟨rfl, ⟨nd, rfl⟩⟩) | (go_at_call 48; (with_reducible refine (impl_within.calls _ _ _ _ _ (withinI _ _ _)).mono ?_); rintro e w' ⟨rfl, ⟨nd, rfl⟩⟩) | (go_at_call 82; (with_reducible refine (impl_isVar.calls _ _ _ (varI _)).mono ?_); rintro e w' ⟨rfl, ⟨nd, rfl⟩⟩) | (go_at_call 54; (with_reducible refine (impl_WordOk.calls _ _ _ _ (wordOkI _ _)).mono ?_); rintro e w' ⟨rfl, ⟨nd, rfl⟩⟩)); go_ret; exact ⟨by rw [HR.out, E]; (rfl), by exact HB.out⟩)
   ·have E : rightSw a1_0 a1_1 a1_2 a1_4 u v x = ((u == a1_1) && (v == a1_1)) := by unfold rightSw; rw [if_neg (by omega), if_neg (by omega), if_neg (by omega), if_pos h]
    have k0 : (a1_0 == 0) = false := by simp [inB]; omega
    have k1 : (a1_0 == 1) = false := by simp [inB]; omega
    have k2 : (a1_0 == 2) = false := by simp [inB]; omega
    have k3 : (inB a1_0 3 12) = true := by simp [inB]; omega
    rcases tc (u == a1_1) with g1 | g1
    ·(go_wp2_with (first | (go_at_call 68; (with_reducible refine (impl_isWidth.calls _ _ _ (widthI _)).mono ?_); rintro e w' ⟨rfl, ⟨nd, rfl⟩⟩) | (go_at_call 48; (with_reducible refine (impl_within.calls _ _ _ _ _ (withinI _ _ _)).mono ?_); rintro e w' ⟨rfl, ⟨nd, rfl⟩⟩) | (go_at_call 82; (with_reducible refine (impl_isVar.calls _ _ _ (varI _)).mono ?_); rintro e w' ⟨rfl, ⟨nd, rfl⟩⟩) | (go_at_call 54; (with_reducible refine (impl_WordOk.calls _ _ _ _ (wordOkI _ _)).mono ?_); rintro e w' ⟨rfl, ⟨nd, rfl⟩⟩)); go_ret; exact ⟨by rw [HR.out, E]; ((simp only [g1, Bool.true_and, Bool.false_and, Bool.and_true, Bool.and_false]; rfl)), by exact pw_below_drewN HB.out _⟩)
    ·(go_wp2_with (first | (go_at_call 68; (with_reducible refine (impl_isWidth.calls _ _ _ (widthI _)).mono ?_); rintro e w' ⟨rfl, ⟨nd, rfl⟩⟩) | (go_at_call 48; (with_reducible refine (impl_within.calls _ _ _ _ _ (withinI _ _ _)).mono ?_); rintro e w' ⟨rfl, ⟨nd, rfl⟩⟩) | (go_at_call 82; (with_reducible refine (impl_isVar.calls _ _ _ (varI _)).mono ?_); rintro e w' ⟨rfl, ⟨nd, rfl⟩⟩) | (go_at_call 54; (with_reducible refine (impl_WordOk.calls _ _ _ _ (wordOkI _ _)).mono ?_); rintro e w' ⟨rfl, ⟨nd, rfl⟩⟩)); go_ret; exact ⟨by rw [HR.out, E]; ((simp only [g1, Bool.true_and, Bool.false_and, Bool.and_true, Bool.and_false]; rfl)), by exact pw_below_drewN HB.out _⟩)
   ·have E : rightSw a1_0 a1_1 a1_2 a1_4 u v x = ((u == v) && (a1_1 == 1)) := by unfold rightSw; rw [if_neg (by omega), if_neg (by omega), if_neg (by omega), if_neg (by omega), if_pos h]
    have k0 : (a1_0 == 0) = false := by simp [inB]; omega
    have k1 : (a1_0 == 1) = false := by simp [inB]; omega
    have k2 : (a1_0 == 2) = false := by simp [inB]; omega
    have k3 : (inB a1_0 3 12) = false := by simp [inB]; omega
    have k4 : (inB a1_0 13 15) = true := by simp [inB]; omega
    rcases tc (u == v) with g1 | g1
    ·(go_wp2_with (first | (go_at_call 68; (with_reducible refine (impl_isWidth.calls _ _ _ (widthI _)).mono ?_); rintro e w' ⟨rfl, ⟨nd, rfl⟩⟩) | (go_at_call 48; (with_reducible refine (impl_within.calls _ _ _ _ _ (withinI _ _ _)).mono ?_); rintro e w' ⟨rfl, ⟨nd, rfl⟩⟩) | (go_at_call 82; (with_reducible refine (impl_isVar.calls _ _ _ (varI _)).mono ?_); rintro e w' ⟨rfl, ⟨nd, rfl⟩⟩) | (go_at_call 54; (with_reducible refine (impl_WordOk.calls _ _ _ _ (wordOkI _ _)).mono ?_); rintro e w' ⟨rfl, ⟨nd, rfl⟩⟩)); go_ret; exact ⟨by rw [HR.out, E]; ((simp only [g1, Bool.true_and, Bool.false_and, Bool.and_true, Bool.and_false]; rfl)), by exact pw_below_drewN HB.out _⟩)
    ·(go_wp2_with (first | (go_at_call 68; (with_reducible refine (impl_isWidth.calls _ _ _ (widthI _)).mono ?_); rintro e w' ⟨rfl, ⟨nd, rfl⟩⟩) | (go_at_call 48; (with_reducible refine (impl_within.calls _ _ _ _ _ (withinI _ _ _)).mono ?_); rintro e w' ⟨rfl, ⟨nd, rfl⟩⟩) | (go_at_call 82; (with_reducible refine (impl_isVar.calls _ _ _ (varI _)).mono ?_); rintro e w' ⟨rfl, ⟨nd, rfl⟩⟩) | (go_at_call 54; (with_reducible refine (impl_WordOk.calls _ _ _ _ (wordOkI _ _)).mono ?_); rintro e w' ⟨rfl, ⟨nd, rfl⟩⟩)); go_ret; exact ⟨by rw [HR.out, E]; ((simp only [g1, Bool.true_and, Bool.false_and, Bool.and_true, Bool.and_false]; rfl)), by exact pw_below_drewN HB.out _⟩)
   ·have E : rightSw a1_0 a1_1 a1_2 a1_4 u v x = (wrap64 (u + v) == a1_1) := by unfold rightSw; rw [if_neg (by omega), if_neg (by omega), if_neg (by omega), if_neg (by omega), if_neg (by omega), if_pos h]
    have k0 : (a1_0 == 0) = false := by simp [inB]; omega
    have k1 : (a1_0 == 1) = false := by simp [inB]; omega
    have k2 : (a1_0 == 2) = false := by simp [inB]; omega
    have k3 : (inB a1_0 3 12) = false := by simp [inB]; omega
    have k4 : (inB a1_0 13 15) = false := by simp [inB]; omega
    have k5 : (a1_0 == 16) = true := by simp [h]
    (go_wp2_with (first | (go_at_call 68; (with_reducible refine (impl_isWidth.calls _ _ _ (widthI _)).mono ?_); rintro e w' ⟨rfl, ⟨nd, rfl⟩⟩) | (go_at_call 48; (with_reducible refine (impl_within.calls _ _ _ _ _ (withinI _ _ _)).mono ?_); rintro e w' ⟨rfl, ⟨nd, rfl⟩⟩) | (go_at_call 82; (with_reducible refine (impl_isVar.calls _ _ _ (varI _)).mono ?_); rintro e w' ⟨rfl, ⟨nd, rfl⟩⟩) | (go_at_call 54; (with_reducible refine (impl_WordOk.calls _ _ _ _ (wordOkI _ _)).mono ?_); rintro e w' ⟨rfl, ⟨nd, rfl⟩⟩)); go_ret; exact ⟨by rw [HR.out, E]; (rfl), by exact pw_below_drewN HB.out _⟩)
   ·have E : rightSw a1_0 a1_1 a1_2 a1_4 u v x = inB a1_2 0 (wrap64 (u - a1_1)) := by unfold rightSw; rw [if_neg (by omega), if_neg (by omega), if_neg (by omega), if_neg (by omega), if_neg (by omega), if_neg (by omega), if_pos h]
    have k0 : (a1_0 == 0) = false := by simp [inB]; omega
    have k1 : (a1_0 == 1) = false := by simp [inB]; omega
    have k2 : (a1_0 == 2) = false := by simp [inB]; omega
    have k3 : (inB a1_0 3 12) = false := by simp [inB]; omega
    have k4 : (inB a1_0 13 15) = false := by simp [inB]; omega
    have k5 : (a1_0 == 16) = false := by simp [inB]; omega
    have k6 : (a1_0 == 17) = true := by simp [h]
    (go_wp2_with (first | (go_at_call 68; (with_reducible refine (impl_isWidth.calls _ _ _ (widthI _)).mono ?_); rintro e w' ⟨rfl, ⟨nd, rfl⟩⟩) | (go_at_call 48; (with_reducible refine (impl_within.calls _ _ _ _ _ (withinI _ _ _)).mono ?_); rintro e w' ⟨rfl, ⟨nd, rfl⟩⟩) | (go_at_call 82; (with_reducible refine (impl_isVar.calls _ _ _ (varI _)).mono ?_); rintro e w' ⟨rfl, ⟨nd, rfl⟩⟩) | (go_at_call 54; (with_reducible refine (impl_WordOk.calls _ _ _ _ (wordOkI _ _)).mono ?_); rintro e w' ⟨rfl, ⟨nd, rfl⟩⟩)); go_ret; exact ⟨by rw [HR.out, E]; (rfl), by exact pw_below_drewN HB.out _⟩)
   ·have E : rightSw a1_0 a1_1 a1_2 a1_4 u v x = ((u == 1) && (v == a1_1) && (x == a1_1)) := by unfold rightSw; rw [if_neg (by omega), if_neg (by omega), if_neg (by omega), if_neg (by omega), if_neg (by omega), if_neg (by omega), if_neg (by omega), if_pos h]
    have k0 : (a1_0 == 0) = false := by simp [inB]; omega
    have k1 : (a1_0 == 1) = false := by simp [inB]; omega
    have k2 : (a1_0 == 2) = false := by simp [inB]; omega
    have k3 : (inB a1_0 3 12) = false := by simp [inB]; omega
    have k4 : (inB a1_0 13 15) = false := by simp [inB]; omega
    have k5 : (a1_0 == 16) = false := by simp [inB]; omega
    have k6 : (a1_0 == 17) = false := by simp [inB]; omega
    have k7 : (a1_0 == 18) = true := by simp [h]
    rcases tc (u == 1) with g2 | g2
    ·(go_wp2_with (first | (go_at_call 68; (with_reducible refine (impl_isWidth.calls _ _ _ (widthI _)).mono ?_); rintro e w' ⟨rfl, ⟨nd, rfl⟩⟩) | (go_at_call 48; (with_reducible refine (impl_within.calls _ _ _ _ _ (withinI _ _ _)).mono ?_); rintro e w' ⟨rfl, ⟨nd, rfl⟩⟩) | (go_at_call 82; (with_reducible refine (impl_isVar.calls _ _ _ (varI _)).mono ?_); rintro e w' ⟨rfl, ⟨nd, rfl⟩⟩) | (go_at_call 54; (with_reducible refine (impl_WordOk.calls _ _ _ _ (wordOkI _ _)).mono ?_); rintro e w' ⟨rfl, ⟨nd, rfl⟩⟩)); go_ret; exact ⟨by rw [HR.out, E]; ((simp only [g2, Bool.true_and, Bool.false_and, Bool.and_true, Bool.and_false]; rfl)), by exact pw_below_drewN HB.out _⟩)
    ·rcases tc (v == a1_1) with g1 | g1
     ·(go_wp2_with (first | (go_at_call 68; (with_reducible refine (impl_isWidth.calls _ _ _ (widthI _)).mono ?_); rintro e w' ⟨rfl, ⟨nd, rfl⟩⟩) | (go_at_call 48; (with_reducible refine (impl_within.calls _ _ _ _ _ (withinI _ _ _)).mono ?_); rintro e w' ⟨rfl, ⟨nd, rfl⟩⟩) | (go_at_call 82; (with_reducible refine (impl_isVar.calls _ _ _ (varI _)).mono ?_); rintro e w' ⟨rfl, ⟨nd, rfl⟩⟩) | (go_at_call 54; (with_reducible refine (impl_WordOk.calls _ _ _ _ (wordOkI _ _)).mono ?_); rintro e w' ⟨rfl, ⟨nd, rfl⟩⟩)); go_ret; exact ⟨by rw [HR.out, E]; ((simp only [g2, g1, Bool.true_and, Bool.false_and, Bool.and_true, Bool.and_false]; rfl)), by exact pw_below_drewN HB.out _⟩)
     ·(go_wp2_with (first | (go_at_call 68; (with_reducible refine (impl_isWidth.calls _ _ _ (widthI _)).mono ?_); rintro e w' ⟨rfl, ⟨nd, rfl⟩⟩) | (go_at_call 48; (with_reducible refine (impl_within.calls _ _ _ _ _ (withinI _ _ _)).mono ?_); rintro e w' ⟨rfl, ⟨nd, rfl⟩⟩) | (go_at_call 82; (with_reducible refine (impl_isVar.calls _ _ _ (varI _)).mono ?_); rintro e w' ⟨rfl, ⟨nd, rfl⟩⟩) | (go_at_call 54; (with_reducible refine (impl_WordOk.calls _ _ _ _ (wordOkI _ _)).mono ?_); rintro e w' ⟨rfl, ⟨nd, rfl⟩⟩)); go_ret; exact ⟨by rw [HR.out, E]; ((simp only [g2, g1, Bool.true_and, Bool.false_and, Bool.and_true, Bool.and_false]; rfl)), by exact pw_below_drewN HB.out _⟩)
   ·have E : rightSw a1_0 a1_1 a1_2 a1_4 u v x = (inB a1_2 0 7 && inB a1_4 1 8 && (u == 1) && (a1_1 == 1)) := by unfold rightSw; rw [if_neg (by omega), if_neg (by omega), if_neg (by omega), if_neg (by omega), if_neg (by omega), if_neg (by omega), if_neg (by omega), if_neg (by omega)]
    have k0 : (a1_0 == 0) = false := by rcases h with rfl | rfl <;> rfl
    have k1 : (a1_0 == 1) = false := by rcases h with rfl | rfl <;> rfl
    have k2 : (a1_0 == 2) = false := by rcases h with rfl | rfl <;> rfl
    have k3 : (inB a1_0 3 12) = false := by simp [inB]; omega
    have k4 : (inB a1_0 13 15) = false := by simp [inB]; omega
    have k5 : (a1_0 == 16) = false := by rcases h with rfl | rfl <;> rfl
    have k6 : (a1_0 == 17) = false := by rcases h with rfl | rfl <;> rfl
    have k7 : (a1_0 == 18) = false := by rcases h with rfl | rfl <;> rfl
    rcases tc (inB a1_2 0 7) with g3 | g3
    ·(go_wp2_with (first | (go_at_call 68; (with_reducible refine (impl_isWidth.calls _ _ _ (widthI _)).mono ?_); rintro e w' ⟨rfl, ⟨nd, rfl⟩⟩) | (go_at_call 48; (with_reducible refine (impl_within.calls _ _ _ _ _ (withinI _ _ _)).mono ?_); rintro e w' ⟨rfl, ⟨nd, rfl⟩⟩) | (go_at_call 82; (with_reducible refine (impl_isVar.calls _ _ _ (varI _)).mono ?_); rintro e w' ⟨rfl, ⟨nd, rfl⟩⟩) | (go_at_call 54; (with_reducible refine (impl_WordOk.calls _ _ _ _ (wordOkI _ _)).mono ?_); rintro e w' ⟨rfl, ⟨nd, rfl⟩⟩)); go_ret; exact ⟨by rw [HR.out, E]; ((simp only [g3, Bool.true_and, Bool.false_and, Bool.and_true, Bool.and_false]; rfl)), by exact pw_below_drewN HB.out _⟩)
    ·rcases tc (inB a1_4 1 8) with g2 | g2
     ·(go_wp2_with (first | (go_at_call 68; (with_reducible refine (impl_isWidth.calls _ _ _ (widthI _)).mono ?_); rintro e w' ⟨rfl, ⟨nd, rfl⟩⟩) | (go_at_call 48; (with_reducible refine (impl_within.calls _ _ _ _ _ (withinI _ _ _)).mono ?_); rintro e w' ⟨rfl, ⟨nd, rfl⟩⟩) | (go_at_call 82; (with_reducible refine (impl_isVar.calls _ _ _ (varI _)).mono ?_); rintro e w' ⟨rfl, ⟨nd, rfl⟩⟩) | (go_at_call 54; (with_reducible refine (impl_WordOk.calls _ _ _ _ (wordOkI _ _)).mono ?_); rintro e w' ⟨rfl, ⟨nd, rfl⟩⟩)); go_ret; exact ⟨by rw [HR.out, E]; ((simp only [g3, g2, Bool.true_and, Bool.false_and, Bool.and_true, Bool.and_false]; rfl)), by exact pw_below_drewN HB.out _⟩)
     ·rcases tc (u == 1) with g1 | g1
      ·(go_wp2_with (first | (go_at_call 68; (with_reducible refine (impl_isWidth.calls _ _ _ (widthI _)).mono ?_); rintro e w' ⟨rfl, ⟨nd, rfl⟩⟩) | (go_at_call 48; (with_reducible refine (impl_within.calls _ _ _ _ _ (withinI _ _ _)).mono ?_); rintro e w' ⟨rfl, ⟨nd, rfl⟩⟩) | (go_at_call 82; (with_reducible refine (impl_isVar.calls _ _ _ (varI _)).mono ?_); rintro e w' ⟨rfl, ⟨nd, rfl⟩⟩) | (go_at_call 54; (with_reducible refine (impl_WordOk.calls _ _ _ _ (wordOkI _ _)).mono ?_); rintro e w' ⟨rfl, ⟨nd, rfl⟩⟩)); go_ret; exact ⟨by rw [HR.out, E]; ((simp only [g3, g2, g1, Bool.true_and, Bool.false_and, Bool.and_true, Bool.and_false]; rfl)), by exact pw_below_drewN HB.out _⟩)
      ·(go_wp2_with (first | (go_at_call 68; (with_reducible refine (impl_isWidth.calls _ _ _ (widthI _)).mono ?_); rintro e w' ⟨rfl, ⟨nd, rfl⟩⟩) | (go_at_call 48; (with_reducible refine (impl_within.calls _ _ _ _ _ (withinI _ _ _)).mono ?_); rintro e w' ⟨rfl, ⟨nd, rfl⟩⟩) | (go_at_call 82; (with_reducible refine (impl_isVar.calls _ _ _ (varI _)).mono ?_); rintro e w' ⟨rfl, ⟨nd, rfl⟩⟩) | (go_at_call 54; (with_reducible refine (impl_WordOk.calls _ _ _ _ (wordOkI _ _)).mono ?_); rintro e w' ⟨rfl, ⟨nd, rfl⟩⟩)); go_ret; exact ⟨by rw [HR.out, E]; ((simp only [g3, g2, g1, Bool.true_and, Bool.false_and, Bool.and_true, Bool.and_false]; rfl)), by exact pw_below_drewN HB.out _⟩)
theorem partsAll (l : List Int) (P : Int → Bool) : (∀ t : Nat, t < l.length → P (rd l (t : Int)) = true) ↔ l.all P = true := by
 rw [List.all_eq_true]
 constructor
 ·intro h x hx
  obtain ⟨t, ht, rfl⟩ := List.getElem_of_mem hx
  have := h t ht
  rwa [show rd l (t : Int) = l[t] from by simp [rd, ht]] at this
 ·intro h t ht
  rw [show rd l (t : Int) = l[t] from by simp [rd, ht]]
  exact h _ (List.getElem_mem ht)
theorem impl_isRight.calls (A0 : Option Addr) (c0 : Nat) (l0 : List (S36)) (a1_0 : Int) (a1_1 : Int) (a1_2 : Int) (a1_3 : Int) (a1_4 : Int) (a1_5 : Int) (r : Bool) (w : World) (hr0 : Kd.C k36 w A0 l0.length l0) (hc0 : l0.length ≤ c0) (h : impl_isRight.f l0 a1_0 a1_1 a1_2 a1_3 a1_4 a1_5 = some r) :
  Calls Try.prog 49 #[.slice A0 l0.length c0, .agg #[.int .i64 a1_0, .int .i64 a1_1, .int .i64 a1_2, .int .i64 a1_3, .int .i64 a1_4, .int .i64 a1_5]] w fun e w' => e = .returned (.bool (r)) ∧ Below w.heap.size w w' := by
 obtain rfl : rightB l0 a1_0 a1_1 a1_2 a1_3 a1_4 a1_5 = r := Option.some.inj h
 cases b1 : inB a1_1 1 8 with
 | false => simpa [rightB, b1] using isRight_no1 A0 c0 l0 a1_0 a1_1 a1_2 a1_3 a1_4 a1_5 w hr0 hc0 b1
 | true =>
  cases b2 : inB a1_0 0 20 with
  | false => simpa [rightB, b1, b2] using isRight_no2 A0 c0 l0 a1_0 a1_1 a1_2 a1_3 a1_4 a1_5 w hr0 hc0 b1 b2
  | true =>
   cases b3 : usesB a1_0 a1_2 a1_3 a1_4 a1_5 with
   | false => simpa [rightB, b1, b2, b3] using isRight_no3 A0 c0 l0 a1_0 a1_1 a1_2 a1_3 a1_4 a1_5 w hr0 hc0 b1 b2 b3
   | true =>
    refine isRight_go A0 c0 l0 a1_0 a1_1 a1_2 a1_3 a1_4 a1_5 w hr0 hc0 b1 b2 b3 _ (fun hn => ?_) (fun hy => ?_)
    ·rw [partsAll _ (fun p => inB p 0 ((l0.length : Int) - 1))] at hn
     simp only [Bool.not_eq_true] at hn
     unfold rightB
     rw [hn]; simp
    ·rw [partsAll _ (fun p => inB p 0 ((l0.length : Int) - 1))] at hy
     unfold rightB
     rw [b1, b2, b3, hy]; simp only [Bool.true_and]

end Go.Proofs.Ytdebihfmceclkaa.PAll
