/- Go functions as Lean functions: a call comes to what they say. -/
import Derived.Test.YtkpipmojkhikaaaGreatVValues11
namespace Go.Proofs.YtkpipmojkhikaaaGreat.PAll
open Go.RowKit Go.A_ Go.B_ Go.C_ Go.D_
attribute [local go_sem] rF rC tE tD qK qJ rD rA
set_option linter.unusedVariables false
set_option maxHeartbeats 8000000
set_option maxRecDepth 100000
set_option linter.unusedSimpArgs false
@[reducible] def c6u:Array Bool:= #[false,false,false,false,false,false,false,false,false,false,false,false,false,false,false,false,false]
@[reducible] def c6s:Array Bool:= #[false,true,false,false,false,false,false,false,false,false,false,false,false,false,false,false,false]
@[reducible] def c6q:Array Bool:= #[true,true,false,false,false,false,false,false,false,false,false,false,false,false,false,false,false]
@[reducible] def c6o:Array Bool:= #[true,true,true,false,false,false,false,false,false,false,false,false,false,false,false,false,false]
@[reducible] def c6m:Array Bool:= #[true,true,true,true,false,false,false,false,false,false,false,false,false,false,false,false,false]
@[reducible] def c6k:Array Bool:= #[true,true,true,true,true,false,false,false,false,false,false,false,false,false,false,false,false]
@[reducible] def c6i:Array Bool:= #[true,true,true,true,true,true,false,false,false,false,false,false,false,false,false,false,false]
@[reducible] def c6g:Array Bool:= #[true,true,true,true,true,true,true,false,false,false,false,false,false,false,false,false,false]
@[reducible] def d3x:Array Bool:= #[true,true,true,true,true,true,true,false,true,false,false,false,false,false,false,false,false]
@[reducible] def d3s:Array Bool:= #[true,true,true,true,true,true,true,false,true,false,false,false,true,false,false,false,false]
@[reducible] def c9w:Array Bool:= #[true,true,true,true,true,true,true,true,true,false,false,false,true,false,false,false,false]
@[reducible] def c9s:Array Bool:= #[true,true,true,true,true,true,true,true,true,true,false,false,true,false,false,false,false]
@[reducible] def c9o:Array Bool:= #[true,true,true,true,true,true,true,true,true,true,true,false,true,false,false,false,false]
@[reducible] def b8t:Array Bool:= #[true,true,true,true,true,true,true,true,true,true,true,true,true,false,false,false,false]
@[reducible] def b8r:Array Bool:= #[true,true,true,true,true,true,true,true,true,true,true,true,true,true,false,false,false]
@[reducible] def b8q:Array Bool:= #[true,true,true,true,true,true,true,true,true,true,true,true,true,true,true,false,false]
@[reducible] def c9e:Array Bool:= #[true,true,true,true,true,true,true,true,true,true,true,true,true,true,true,true,false]
@[reducible] def c9b:Array Bool:= #[true,true,true,true,true,true,true,true,true,true,true,true,true,true,true,true,true]
@[reducible] def c8z:Array Bool:= #[true,true,true,true,true,true,true,true,false,false,false,false,false,false,false,false,false]
@[reducible] def c8x:Array Bool:= #[true,true,true,true,true,true,true,true,true,false,false,false,false,false,false,false,false]
@[reducible] def c8v:Array Bool:= #[true,true,true,true,true,true,true,true,true,true,false,false,false,false,false,false,false]
@[reducible] def c8t:Array Bool:= #[true,true,true,true,true,true,true,true,true,true,true,false,false,false,false,false,false]
@[reducible] def c8s:Array Bool:= #[true,true,true,true,true,true,true,true,true,true,true,true,false,false,false,false,false]
def wY(l0:List (S31))(v i:Int):Option Bool:=if 0≤i then(if i<(l0.length:Int)then some (!(((kA l0 i).f0==19) || ((kA l0 i).f0==20)) || ((kA l0 i).f2 !=v))else none)else none
theorem zU{P:Prop}(h:P:=by
 simp only[Act.put,List.setIfInBounds_toArray,List.set_cons_zero,List.set_cons_succ,vB,a3w]
 rfl):P:=h
theorem c5n{P:Prop}(h:P:=by
 refine pS (i:=15) (N:=some 20) c9e ?_
 refine pS (i:=16) (N:=some 4) c9b ?_
 refine a1s (by kernel_rfl) ?_
 go_wp2
 go_ret
 exact⟨by rw[← H.out]<;>rfl,HB3.out⟩):P:=h
theorem XDi(A0:Option Addr)(c0:Nat)(l0:List (S31))(v i:Int)(b:Bool)(g1 g2:Nat)(w:World)(hr0:Kd.C k31 w A0 l0.length l0)(hc0:l0.length≤c0)
  (b1:w.cell? ⟨g1,0,none⟩=some (.slice A0 l0.length c0)) (b2:w.cell? ⟨g2,2,none⟩=some (.int .i64 v)) (h:wY l0 v i=some b) :
  Calls Tryz.prog 38 #[.int .i64 i,.pointer (some ⟨g1,0,none⟩),.pointer (some ⟨g2,0,none⟩)] w fun e w'=>e= .returned (.bool b)∧Below w.heap.size w w':=by
 unfold wY at h
 by_cases p1:0≤i
 rotate_left
 ·rw[if_neg p1]at h;exact absurd h (by simp)
 rw[if_pos p1]at h
 by_cases p2:i<(l0.length:Int)
 rotate_left
 ·rw[if_neg p2]at h;exact absurd h (by simp)
 rw[if_pos p2]at h
 replace h:=oI h
 obtain⟨a0,e0,y0,y1,y2,y3,y4,y5⟩:=pE hr0 i p1 p2
 cases e0
 have a1:=am hr0
 have a2:=am hc0
 clear hr0 hc0
 generalize (kA l0 i).f0=op at *
 generalize (kA l0 i).f1=W at *
 generalize (kA l0 i).f2=Kq at *
 generalize (kA l0 i).f3=A at *
 generalize (kA l0 i).f4=B at *
 generalize (kA l0 i).f5=Cq at *
 obtain⟨q,hq⟩ :∃q:Bool,((op==19) || (op==20))=q:=⟨_,rfl⟩
 rw[hq]at h
 have HQ:=am hq
 clear hq
 have H:=am h
 clear h
 have t1:decide (0≤i)=true:=decide_eq_true p1
 have t2:decide (i<(l0.length:Int))=true:=decide_eq_true p2
 cases q with
 | true =>
  go_enter Tryz.func38,Tryz.ntmps38
  go_wp2
  refine vC (n:=17) (S:=fun w'=>w'.cell? ⟨g1,0,none⟩=some (.slice (some a0) l0.length c0)∧w'.cell? ⟨g2,2,none⟩=some (.int .i64 v)∧w'.cell? (a0.add (i.toNat*6))=some (.int .i64 op)∧w'.cell? ⟨(a0.add (i.toNat*6)).block,(a0.add (i.toNat*6)).off+1,none⟩=some (.int .i64 W)∧w'.cell? ⟨(a0.add (i.toNat*6)).block,(a0.add (i.toNat*6)).off+2,none⟩=some (.int .i64 Kq)∧w'.cell? ⟨(a0.add (i.toNat*6)).block,(a0.add (i.toNat*6)).off+3,none⟩=some (.int .i64 A)∧w'.cell? ⟨(a0.add (i.toNat*6)).block,(a0.add (i.toNat*6)).off+4,none⟩=some (.int .i64 B)∧w'.cell? ⟨(a0.add (i.toNat*6)).block,(a0.add (i.toNat*6)).off+5,none⟩=some (.int .i64 Cq)) (ds:=[]) c6u (by kernel_rfl) rfl rfl ⟨b1,b2,y0,y1,y2,y3,y4,y5⟩ (fun hHeld=>?_)
  refine pS (i:=1) (N:=some 6) c6s ?_
  refine qY (i:=0) (N:=some 5) (v:=?_) (a':=?_) c6q rfl rfl (by kernel_rfl) (fun _ _ _ h=>h) (Or.inl ⟨by rfl,?_⟩) hHeld ?_ ?_
  rotate_left
  ·rintro w' ⟨s0,s1,s2,s3,s4,s5,s6,s7⟩
   go_simp
   with_reducible rfl
  rotate_left
  ·exact zU
  refine pS (i:=2) (N:=some 7) c6o ?_
  refine qY (i:=3) (N:=some 8) (v:=?_) (a':=?_) c6m rfl rfl (by kernel_rfl) (fun _ _ _ h=>h) (Or.inl ⟨by rfl,?_⟩) hHeld ?_ ?_
  rotate_left
  ·rintro w' ⟨s0,s1,s2,s3,s4,s5,s6,s7⟩
   go_simp
   with_reducible rfl
  rotate_left
  ·exact zU
  refine a1t (i:=4) (N:=some 9) c6k rfl rfl (by kernel_rfl) (by decide) (fun K hK=>?_)
  refine a1g Tryz.func36 (by kernel_rfl) rfl #[.agg #[.int .i64 op,.int .i64 W,.int .i64 Kq,.int .i64 A,.int .i64 B,.int .i64 Cq]] (by rfl) rfl rfl (by simp only[List.map_toArray,List.map_cons,List.map_nil];rfl) ?_
  with_reducible refine(JJi true _ (by rw[a0n,HQ.out])).mono ?_
  rintro e w3 ⟨rfl,hb⟩
  refine⟨_,rfl,?_⟩
  have HB3:=am (show Below w.heap.size w w3 from Below.trans (by apply kQ;exact Below.refl _ _) (hb.mono (by simp)))
  clear hb
  refine hK.out _ _ ⟨(kC HB3.out b1),(kC HB3.out b2),(kC HB3.out y0),(kC HB3.out y1),(kC HB3.out y2),(kC HB3.out y3),(kC HB3.out y4),(kC HB3.out y5)⟩ (fun hHeld=>?_)
  clear hK K
  refine vA (a':=?_) ?_ ?_
  rotate_left
  ·show Act.put _ (some 9) _=_
   exact zU
  refine pS (i:=5) (N:=some 10) c6i ?_
  refine pS (i:=6) (N:=some 11) c6g ?_
  refine pS (i:=8) (N:=some 13) d3x ?_
  refine pS (i:=12) (N:=some 17) d3s ?_
  refine qY (i:=7) (N:=some 12) (v:=?_) (a':=?_) c9w rfl rfl (by kernel_rfl) (fun _ _ _ h=>h) (Or.inl ⟨by rfl,?_⟩) hHeld ?_ ?_
  rotate_left
  ·rintro w' ⟨s0,s1,s2,s3,s4,s5,s6,s7⟩
   go_simp
   with_reducible rfl
  rotate_left
  ·exact zU
  refine pS (i:=9) (N:=some 14) c9s ?_
  refine pS (i:=10) (N:=some 15) c9o ?_
  refine qY (i:=11) (N:=some 16) (v:=?_) (a':=?_) b8t rfl rfl (by kernel_rfl) (fun _ _ _ h=>h) (Or.inl ⟨by rfl,?_⟩) hHeld ?_ ?_
  rotate_left
  ·rintro w' ⟨s0,s1,s2,s3,s4,s5,s6,s7⟩
   go_simp
   with_reducible rfl
  rotate_left
  ·exact zU
  refine qY (i:=13) (N:=some 18) (v:=?_) (a':=?_) b8r rfl rfl (by kernel_rfl) (fun _ _ _ h=>h) (Or.inl ⟨by rfl,?_⟩) hHeld ?_ ?_
  rotate_left
  ·rintro w' ⟨s0,s1,s2,s3,s4,s5,s6,s7⟩
   go_simp
   with_reducible rfl
  rotate_left
  ·exact zU
  refine pS (i:=14) (N:=some 19) b8q ?_
  exact c5n
 | false =>
  go_enter Tryz.func38,Tryz.ntmps38
  go_wp2
  refine vC (n:=17) (S:=fun w'=>w'.cell? ⟨g1,0,none⟩=some (.slice (some a0) l0.length c0)∧w'.cell? ⟨g2,2,none⟩=some (.int .i64 v)∧w'.cell? (a0.add (i.toNat*6))=some (.int .i64 op)∧w'.cell? ⟨(a0.add (i.toNat*6)).block,(a0.add (i.toNat*6)).off+1,none⟩=some (.int .i64 W)∧w'.cell? ⟨(a0.add (i.toNat*6)).block,(a0.add (i.toNat*6)).off+2,none⟩=some (.int .i64 Kq)∧w'.cell? ⟨(a0.add (i.toNat*6)).block,(a0.add (i.toNat*6)).off+3,none⟩=some (.int .i64 A)∧w'.cell? ⟨(a0.add (i.toNat*6)).block,(a0.add (i.toNat*6)).off+4,none⟩=some (.int .i64 B)∧w'.cell? ⟨(a0.add (i.toNat*6)).block,(a0.add (i.toNat*6)).off+5,none⟩=some (.int .i64 Cq)) (ds:=[]) c6u (by kernel_rfl) rfl rfl ⟨b1,b2,y0,y1,y2,y3,y4,y5⟩ (fun hHeld=>?_)
  refine pS (i:=1) (N:=some 6) c6s ?_
  refine qY (i:=0) (N:=some 5) (v:=?_) (a':=?_) c6q rfl rfl (by kernel_rfl) (fun _ _ _ h=>h) (Or.inl ⟨by rfl,?_⟩) hHeld ?_ ?_
  rotate_left
  ·rintro w' ⟨s0,s1,s2,s3,s4,s5,s6,s7⟩
   go_simp
   with_reducible rfl
  rotate_left
  ·exact zU
  refine pS (i:=2) (N:=some 7) c6o ?_
  refine qY (i:=3) (N:=some 8) (v:=?_) (a':=?_) c6m rfl rfl (by kernel_rfl) (fun _ _ _ h=>h) (Or.inl ⟨by rfl,?_⟩) hHeld ?_ ?_
  rotate_left
  ·rintro w' ⟨s0,s1,s2,s3,s4,s5,s6,s7⟩
   go_simp
   with_reducible rfl
  rotate_left
  ·exact zU
  refine a1t (i:=4) (N:=some 9) c6k rfl rfl (by kernel_rfl) (by decide) (fun K hK=>?_)
  refine a1g Tryz.func36 (by kernel_rfl) rfl #[.agg #[.int .i64 op,.int .i64 W,.int .i64 Kq,.int .i64 A,.int .i64 B,.int .i64 Cq]] (by rfl) rfl rfl (by simp only[List.map_toArray,List.map_cons,List.map_nil];rfl) ?_
  with_reducible refine(JJi false _ (by rw[a0n,HQ.out])).mono ?_
  rintro e w3 ⟨rfl,hb⟩
  refine⟨_,rfl,?_⟩
  have HB3:=am (show Below w.heap.size w w3 from Below.trans (by apply kQ;exact Below.refl _ _) (hb.mono (by simp)))
  clear hb
  refine hK.out _ _ ⟨(kC HB3.out b1),(kC HB3.out b2),(kC HB3.out y0),(kC HB3.out y1),(kC HB3.out y2),(kC HB3.out y3),(kC HB3.out y4),(kC HB3.out y5)⟩ (fun hHeld=>?_)
  clear hK K
  refine vA (a':=?_) ?_ ?_
  rotate_left
  ·show Act.put _ (some 9) _=_
   exact zU
  refine pS (i:=5) (N:=some 10) c6i ?_
  refine pS (i:=6) (N:=some 11) c6g ?_
  refine qO (i:=7) (N:=some 12) (v:=undef) (a':=?_) c8z rfl rfl (by kernel_rfl) (fun _ _ _ h=>h) (Or.inr ⟨by rfl,rfl⟩) ?_ ?_
  rotate_left
  ·exact zU
  refine qO (i:=8) (N:=some 13) (v:=undef) (a':=?_) c8x rfl rfl (by kernel_rfl) (fun _ _ _ h=>h) (Or.inr ⟨by rfl,rfl⟩) ?_ ?_
  rotate_left
  ·exact zU
  refine qO (i:=9) (N:=some 14) (v:=undef) (a':=?_) c8v rfl rfl (by kernel_rfl) (fun _ _ _ h=>h) (Or.inr ⟨by rfl,rfl⟩) ?_ ?_
  rotate_left
  ·exact zU
  refine qO (i:=10) (N:=some 15) (v:=undef) (a':=?_) c8t rfl rfl (by kernel_rfl) (fun _ _ _ h=>h) (Or.inr ⟨by rfl,rfl⟩) ?_ ?_
  rotate_left
  ·exact zU
  refine qO (i:=11) (N:=some 16) (v:=undef) (a':=?_) c8s rfl rfl (by kernel_rfl) (fun _ _ _ h=>h) (Or.inr ⟨by rfl,rfl⟩) ?_ ?_
  rotate_left
  ·exact zU
  refine qO (i:=12) (N:=some 17) (v:=undef) (a':=?_) b8t rfl rfl (by kernel_rfl) (fun _ _ _ h=>h) (Or.inr ⟨by rfl,rfl⟩) ?_ ?_
  rotate_left
  ·exact zU
  refine qO (i:=13) (N:=some 18) (v:=undef) (a':=?_) b8r rfl rfl (by kernel_rfl) (fun _ _ _ h=>h) (Or.inr ⟨by rfl,rfl⟩) ?_ ?_
  rotate_left
  ·exact zU
  refine qO (i:=14) (N:=some 19) (v:=undef) (a':=?_) b8q rfl rfl (by kernel_rfl) (fun _ _ _ h=>h) (Or.inr ⟨by rfl,rfl⟩) ?_ ?_
  rotate_left
  ·exact zU
  exact c5n
def a1m(A:Option Addr)(n c:Nat)(env:List Int):Array Value:=(Value.slice A n c::env.map (Value.int .i64)).toArray
theorem b0u(A:Option Addr)(n c:Nat)(env:List Int):(a1m A n c env)[0]? = some (.slice A n c):=by simp[a1m]
theorem a4o(A:Option Addr)(n c:Nat)(env:List Int)(i:Nat)(h:i<env.length):(a1m A n c env)[i+1]? = some (.int .i64 (rd env (i:Int))):=by
 simp[a1m,rd,h,List.getD_eq_getElem?_getD]
theorem a5j(A:Option Addr)(n c:Nat)(env:List Int)(i:Nat)(x:Int):(a1m A n c env).setIfInBounds (i+1) (.int .i64 x)=a1m A n c (env.set i x):=by
 simp[a1m,List.map_set]
def a3m(n:Nat)(j:Nat):List Int:=List.replicate j (-1)++List.replicate (n-j) 0
theorem b7q(n j:Nat)(h:j<n):(a3m n j).set j (-1)=a3m n (j+1):=by
 unfold a3m
 rw[show n-j=(n-(j+1))+1 by omega,List.replicate_succ,List.set_append_right _ _ (by simp),List.length_replicate,Nat.sub_self,List.set_cons_zero,List.replicate_succ',List.append_assoc]
 rfl
theorem b7r(n j:Nat)(h:j≤n):(a3m n j).length=n:=by simp[a3m];omega
theorem KSi(g:Nat)(A0:Option Addr)(c0:Nat)(l0:List (S31))(env:List Int)(w:World)(hb:w.heap[g]? = some (.cells (a1m A0 l0.length c0 env) 44 (0,0)))(hl:1≤l0.length)(hm:l0.length≤1048576) :
  Calls Tryz.prog 18 #[.pointer (some ⟨g,0,none⟩)] w fun e w' =>∃(hb9 ck:Nat),e= .returned (.slice (some ⟨hb9,0,none⟩) l0.length ck)∧Kd.R (Kd.int .i64) 3 w' w.heap.size (fun k=>k=hb9) (.slice (some ⟨hb9,0,none⟩) l0.length ck) (List.replicate l0.length (-1))∧Below w.heap.size w w':=by
 have hl0:(l0.length:Int)≤1048576:=by omega
 have hc3:(0:Int)≤(l0.length:Int):=by omega
 have d3:decide (0≤(l0.length:Int))=true:=decide_eq_true hc3
 have BK:=am hb;have HL:=am hl;have HM:=am hm
 have x0:=(kE hb 0).trans (b0u _ _ _ _)
 clear hb hl hm hc3
 go_enter Tryz.func18,Tryz.ntmps18
 go_wp2_with ((with_reducible refine pU (N:=10) rfl ?_);refine Kd.XG (Kd.int .i64) (w0:=w) w.heap.size 3 rfl (N:=10) rfl 25 _ _ rfl (l0.length:Int) rfl rfl Tryz.underlying25 (.int .i64 0) 8 a4h rfl (by decide) oM 0 (ok:=fun k=>w.heap.size≤k) (okp:=fun _=>False) rfl (fun _ hk=>hk.elim) (by simp) oM (by have:=HM.out;omega) (Below.refl _ _) (by simp) ?_;intro a2 w3 ho hb hg hnew;obtain⟨hb9,ck,ev,gb,gl,cl,HG⟩:=Kd.JZ ho (by rw[List.length_replicate,Int.toNat_natCast];exact HL.out);rw[List.length_replicate,Int.toNat_natCast]at ev;subst ev;rw[Int.toNat_natCast]at ho)
 have RK:=am (show Kd.R (Kd.int .i64) 3 w3 w.heap.size (fun k=>k=hb9) (.slice (some ⟨hb9,0,none⟩) l0.length ck) (a3m l0.length 0)from by
  have h:=ho
  rw[show a3m l0.length 0=List.replicate l0.length 0 by simp[a3m]]
  obtain⟨_,inner,h1,h2⟩:=h
  exact⟨fun k hk=>(oI hk).symm,inner,h1,h2⟩)
 have HB:=am hb;have GB:=am gb
 clear ho hb hg hnew HG gb gl
 go_loopg [4,13] l0.length (fun g v4 a0 w' =>∃j:Nat,a0= .int .i64 (j:Int)∧Aside0 (g+j=l0.length)∧Aside0 (Kd.R (Kd.int .i64) 3 w' w.heap.size (fun k=>k=hb9) (.slice (some ⟨hb9,0,none⟩) l0.length ck) (a3m l0.length j))∧Aside0 (Below w.heap.size w w'))
 case atStart=>exact⟨0,rfl,⟨rfl⟩,RK,HB⟩
 obtain⟨j,rfl,HG,RK,HB⟩:=hrel
 by_cases hj:j<l0.length
 ·have p1:(0:Int)≤(j:Int):=by omega
  have t1:decide ((0:Int)≤(j:Int))=true:=decide_eq_true p1
  have t2:decide ((j:Int)<(l0.length:Int))=true:=decide_eq_true oM
  have hbl:=b7r l0.length j oM
  obtain⟨adx,ex,hx⟩:=Kd.JD (Kd.JA RK.out).2.2 (j:Int) p1 oM
  cases ex
  simp only[pW,Int.toNat_natCast]at hx
  obtain⟨g2,c2,e2,a1,_,cl2,HGO⟩:=Kd.JZ RK.out oM
  rw[hbl]at e2
  cases e2
  have hfx:=kF HGO j
  clear HGO
  go_wp2_with fail
  have hr:=Kd.XC RK.out (j:Int) (-1)
  rw[Int.toNat_natCast,b7q _ _ hj]at hr
  have RK:=am hr
  have HB:=am (kR (g:=hb9) (j:=j) (v:= .int .i64 (-1)) HB.out a1)
  obtain⟨g1,rfl⟩ :∃g1,gk=g1+1:=⟨gk-1,by have:=HG.out;omega⟩
  go_roundg g1
  case measure=>omega
  case rel=>exact⟨j+1,by go_num,⟨by have:=HG.out;omega⟩,RK,HB⟩
 obtain rfl:j=l0.length:=by have:=HG.out;omega
 have t2:decide ((l0.length:Int)<(l0.length:Int))=false:=decide_eq_false oM
 go_wp2_with fail
 go_ret
 refine⟨hb9,ck,rfl,?_,HB.out⟩
 have h:=RK.out
 rw[show a3m l0.length l0.length=List.replicate l0.length (-1) by simp[a3m]]at h
 exact h
def vZ(a0:Bool):Option (Int):=if a0=true then(some 1)else(some 0)
theorem JWi(a0:Bool)(r:Int)(w:World)(h:vZ a0=some r) :
  Calls Tryz.prog 60 #[.bool a0] w fun e w'=>e= .returned (.int .i64 r)∧Drawn0 w w':=by
 have H:=h
 clear h
 unfold vZ at H
 replace H:=iB H;rcases H with⟨rfl,H⟩|⟨rfl,H⟩
 ·obtain rfl:=oI H
  go_enter Tryz.func60,Tryz.ntmps60
  go_wp2
  go_ret
  exact⟨rfl,dR⟩
 obtain rfl:=oI H
 go_enter Tryz.func60,Tryz.ntmps60
 go_wp2
 go_ret
 exact⟨rfl,dR⟩
@[reducible] def d5e:Array Bool:= #[false,false,false,false,false,false,false,false]
@[reducible] def d5a:Array Bool:= #[true,false,false,false,false,false,false,false]
@[reducible] def d4w:Array Bool:= #[true,true,false,false,false,false,false,false]
@[reducible] def d4s:Array Bool:= #[true,true,false,true,false,false,false,false]
@[reducible] def d4o:Array Bool:= #[true,true,false,true,false,false,true,false]
@[reducible] def d4k:Array Bool:= #[true,true,true,true,false,false,true,false]
@[reducible] def d4g:Array Bool:= #[true,true,true,true,true,false,true,false]
@[reducible] def d4c:Array Bool:= #[true,true,true,true,true,true,true,false]
@[reducible] def d3w:Array Bool:= #[true,true,true,true,true,true,true,true]
def a6i(g:Nat)(A0:Option Addr)(c0:Nat)(l0:List (S31))(V:List Int→Int→List Int→Option (Int×List Int)):Prop :=
 ∀(hk ck base:Nat) (env:List Int) (i:Int) (known:List Int) (r:Int) (known':List Int) (w:World),w.heap[g]? = some (.cells (a1m A0 l0.length c0 env) 44 (0,0))→env.length=8→g≠hk→(∀W_,Kept w W_ (fun k=>k=g∨k=hk)→Kd.C k31 W_ A0 l0.length l0)→known.length=l0.length→
  Kd.R (Kd.int .i64) 3 w base (fun k=>k=hk) (.slice (some ⟨hk,0,none⟩) l0.length ck) known→V env i known=some (r,known')→
  Calls Tryz.prog 17 #[.pointer (some ⟨g,0,none⟩),.int .i64 i,.slice (some ⟨hk,0,none⟩) l0.length ck] w fun e w'=>e= .returned (.int .i64 r)∧Kd.R (Kd.int .i64) 3 w' base (fun k=>k=hk) (.slice (some ⟨hk,0,none⟩) l0.length ck) known'∧known'.length=l0.length∧Kept w w' (fun k=>k=hk)∧Below 0 w w'
theorem a3d{w:World}{g T:Nat}{a b c d e f:Int}(h:w.heap[g]? = some (.cells #[.int .i64 a,.int .i64 b,.int .i64 c,.int .i64 d,.int .i64 e,.int .i64 f] T (0,0))) :
  (w.cell? ⟨g,0,none⟩=some (.int .i64 a)∧w.cell? ⟨g,1,none⟩=some (.int .i64 b)∧w.cell? ⟨g,2,none⟩=some (.int .i64 c)∧w.cell? ⟨g,3,none⟩=some (.int .i64 d)∧w.cell? ⟨g,4,none⟩=some (.int .i64 e)∧w.cell? ⟨g,5,none⟩=some (.int .i64 f)) :=
 ⟨(kE h 0).trans rfl,(kE h 1).trans rfl,(kE h 2).trans rfl,(kE h 3).trans rfl,(kE h 4).trans rfl,(kE h 5).trans rfl⟩
theorem a9u{w w':World}{g j T:Nat}{cs cs':Array Value}(hw:w.heap[g]? = some (.cells cs T (0,0)))(hk:Kept w w' (fun k=>k=g))(h0:Below 0 w w')(hb:w'.heap[g]? = some (.cells cs' T (0,0)))(u:Value)(e:cs'.setIfInBounds j u=cs):Below w.heap.size w (w'.setCell ⟨g,j,none⟩ u):=by
 have h1:Below 0 w (w'.setCell ⟨g,j,none⟩ u):=h0.setCell (Nat.zero_le _) u
 refine⟨h1.os,h1.tape,h1.output,h1.size,fun k hlt=>?_⟩
 by_cases hg:k=g
 ·subst hg
  rw[tF hb j u,e,hw]
 ·rw[Below.heap_setCell w' ⟨g,j,none⟩ u k hg,hk.2 k hlt hg]
theorem b0w(env:List Int)(Kq:Int)(h0:0≤Kq)(h:Kq<(env.length:Int)):env.set Kq.toNat (rd env Kq)=env:=by
 have hl:Kq.toNat<env.length:=by omega
 refine List.ext_getElem (by simp) (fun i h1 h2=>?_)
 rw[List.getElem_set]
 split
 ·subst_vars;simp[rd,hl,List.getD_eq_getElem?_getD]
 ·rfl
theorem b9e(B:Int)(h0:0≤B)(h8:B≤8):wrap64 (2 ^ min (IntKind.u64.wrap B).toNat 64)=((2 ^ B.toNat:Nat):Int):=by
 have h:B=0∨B=1∨B=2∨B=3∨B=4∨B=5∨B=6∨B=7∨B=8:=by omega
 have hw:IntKind.u64.wrap B=B:=by
  rw[show IntKind.u64.wrap B=B%18446744073709551616 by simp[IntKind.wrap,IntKind.bits,IntKind.signed]];omega
 rw[hw]
 rcases h with rfl|rfl|rfl|rfl|rfl|rfl|rfl|rfl|rfl<;>simp[wrap64]
theorem b6o(B:Int)(h8:B≤8):2 ^ B.toNat≤256:=(Nat.pow_le_pow_right (by decide) (show B.toNat≤8 by omega):2 ^ B.toNat≤2 ^ 8)
def b2p(V:List Int→Int→List Int→Option (Int×List Int))(n:Nat)(env:List Int)(Kq:Nat)(A out:Int):Nat→Int→Option Int
 | 0,_=>some out
 | m+1,x=>(V (env.set Kq x) A (List.replicate n (-1))).bind fun r=>if r.1=out then b2p V n env Kq A out m (x+1)else some (1-out)
def impl_quantR(V:List Int→Int→List Int→Option (Int×List Int))(n:Nat)(env:List Int)(op Kq A B:Int):Option Int :=
 if 0≤Kq∧Kq<8∧0≤B∧B≤8 then b2p V n env Kq.toNat A (if op=19 then 1 else 0) (2 ^ B.toNat) 0 else none
theorem b8e{P:Prop}(h:P:=by
 simp only[Act.put,List.setIfInBounds_toArray,List.set_cons_zero,List.set_cons_succ,vB,a3w]
 rfl):P:=h
theorem ZIi(g:Nat)(A0:Option Addr)(c0:Nat)(l0:List (S31))(V:List Int→Int→List Int→Option (Int×List Int))(hV:a6i g A0 c0 l0 V)(env:List Int)(op W Kq A B C r:Int)(w:World)(hb:w.heap[g]? = some (.cells (a1m A0 l0.length c0 env) 44 (0,0)))(he:env.length=8)(hl:1≤l0.length)(hm:l0.length≤1048576)
  (hr0 :∀W_,Kept w W_ (fun k=>k=g)→Kd.C k31 W_ A0 l0.length l0) (h:impl_quantR V l0.length env op Kq A B=some r) :
  Calls Tryz.prog 39 #[.pointer (some ⟨g,0,none⟩),.agg #[.int .i64 op,.int .i64 W,.int .i64 Kq,.int .i64 A,.int .i64 B,.int .i64 C]] w fun e w'=>e= .returned (.int .i64 r)∧Below w.heap.size w w':=by
 unfold impl_quantR at h
 by_cases hc:0≤Kq∧Kq<8∧0≤B∧B≤8
 rotate_left
 ·rw[if_neg hc]at h
  exact absurd h (by simp)
 rw[if_pos hc]at h
 obtain⟨k0,k8,b0,b8⟩:=hc
 unfold a6i at hV
 have HH:=am h;have HV:=am hV;have HE:=am he;have HL:=am hl;have HM:=am hm;have a5:=am hr0;have B8:=am (And.intro b0 b8)
 clear h hV hl hm hr0 b0 b8
 have t1:decide (0≤Kq)=true:=decide_eq_true k0
 have t2:decide (Kq<8)=true:=decide_eq_true k8
 have BG:=am hb;have BG0:=am hb
 have K8:=am (And.intro k0 k8)
 clear hb k0 k8 he
 go_enter Tryz.func39,Tryz.ntmps39
 go_wp2_with fail
 have BN:=am (heap_alloc_new w (Obj.cells #[Value.int .i64 op,Value.int .i64 W,Value.int .i64 Kq,Value.int .i64 A,Value.int .i64 B,Value.int .i64 C] 33))
 have BG1:=am (oZ BG.out (Obj.cells #[Value.int .i64 op,Value.int .i64 W,Value.int .i64 Kq,Value.int .i64 A,Value.int .i64 B,Value.int .i64 C] 33))
 obtain⟨q0,q1,q2,q3,q4,q5⟩:=a3d BN.out
 have x1:=(kE BG1.out (Kq.toNat+1)).trans (a4o _ _ _ _ Kq.toNat (by rw[HE.out];have:=K8.out;omega))
 rw[Int.toNat_of_nonneg K8.out.1,Nat.add_comm Kq.toNat 1]at x1
 have kk:=K8.out
 go_region
 clear q0 q1 q2 q3 q4 q5 x1 kk
 have HB:=am (show Below w.heap.size w (w.alloc (Obj.cells #[Value.int .i64 op,Value.int .i64 W,Value.int .i64 Kq,Value.int .i64 A,Value.int .i64 B,Value.int .i64 C] 33)).drew from yV (kO (Below.refl _ _) _))
 have BG:=am (kW BG1.out);have BN:=am (kW BN.out)
 clear BG1
 generalize (w.alloc (Obj.cells #[Value.int .i64 op,Value.int .i64 W,Value.int .i64 Kq,Value.int .i64 A,Value.int .i64 B,Value.int .i64 C] 33)).drew=w1 at *
 obtain⟨q0,q1,q2,q3,q4,q5⟩:=a3d BN.out
 obtain⟨out,hout⟩ :∃out:Int,(if op=19 then 1 else 0)=out:=⟨_,rfl⟩
 rw[hout]at HH
 have a1:out=0∨out=1:=by rw[← hout];split<;>simp
 have hbt:vZ (op==19)=some out:=by unfold vZ;rw[← hout];by_cases h:op=19<;>simp[h]
 have O1:=am a1;have HBT:=am hbt
 clear a1 hbt hout
 go_wp2_with fail
 refine(JWi _ out _ HBT.out).mono ?_
 rintro e w2 ⟨rfl,nd,a3⟩
 clear q0 q1 q2 q3 q4 q5
 obtain rfl:=a3
 have HB:=am (kM HB.out nd);have BG:=am (pR BG.out nd);have BN:=am (pR BN.out nd)
 generalize w1.drewN nd=w2 at *
 obtain⟨q0,q1,q2,q3,q4,q5⟩:=a3d BN.out
 go_wp2_with fail
 rw[b9e B B8.out.1 B8.out.2]
 have hN:=b6o B B8.out.2
 generalize 2 ^ B.toNat=N at *
 have HN:=am hN
 clear hN q0 q1 q2 q3 q4 q5
 have KW:=am (a5i HB.out (fun k=>k=g));have H0:=am (HB.out.mono (Nat.zero_le _))
 have GL:=am (show g<w.heap.size from by have:=vD BG0.out;exact this)
 go_loopg [6,7,23] N (fun gk v6 v7 a2 w' =>∃(j:Nat) (y:Int),a2= .int .i64 (j:Int)∧v6= .int .i64 out∧Aside0 (gk+j=N)∧Aside0 (b2p V l0.length env Kq.toNat A out gk (j:Int)=some r)∧
  Aside0 (w'.heap[g]? = some (.cells (a1m A0 l0.length c0 (env.set Kq.toNat y)) 44 (0,0)))∧Aside0 (w'.heap[w.heap.size]? = some (.cells #[.int .i64 op,.int .i64 W,.int .i64 Kq,.int .i64 A,.int .i64 B,.int .i64 C] 33 (0,0)))∧Aside0 (Kept w w' (fun k=>k=g))∧Aside0 (Below 0 w w'))
 case atStart=>exact⟨0,rd env Kq,rfl,rfl,⟨rfl⟩,HH,⟨by rw[b0w env Kq K8.out.1 (by rw[HE.out];exact K8.out.2)];exact BG.out⟩,BN,KW,H0⟩
 obtain⟨j,y,rfl,rfl,HG,HH,BG,BN,KW,H0⟩:=hrel
 obtain⟨q0,q1,q2,q3,q4,q5⟩:=a3d BN.out
 have x1:=(kE BG.out (Kq.toNat+1)).trans (a4o _ _ _ _ Kq.toNat (by rw[List.length_set,HE.out];have:=K8.out;omega))
 rw[Int.toNat_of_nonneg K8.out.1,Nat.add_comm Kq.toNat 1]at x1
 have f1:=kF BG.out (1+Kq.toNat)
 have kk:=K8.out
 by_cases hj:j<N
 rotate_left
 ·have t3:decide ((j:Int)<(N:Int))=false:=decide_eq_false oM
  have hgk:gk=0:=by have:=HG.out;omega
  subst hgk
  have hn:=HH.out
  unfold b2p at hn
  obtain rfl:=oI hn
  clear hn q0 q1 q2 q3 q4 q5 x1 f1 kk
  go_wp2_with fail
  obtain⟨q0,q1,q2,q3,q4,q5⟩:=a3d BN.out
  have x1:=(kE BG.out (Kq.toNat+1)).trans (a4o _ _ _ _ Kq.toNat (by rw[List.length_set,HE.out];have:=K8.out;omega))
  rw[Int.toNat_of_nonneg K8.out.1,Nat.add_comm Kq.toNat 1]at x1
  have f1:=kF BG.out (1+Kq.toNat)
  have kk:=K8.out
  go_region
  clear q0 q1 q2 q3 q4 q5 x1 f1 kk
  have HE2:=am (yV (a9u (j:=1+Kq.toNat) BG0.out KW.out H0.out BG.out (.int .i64 (rd env Kq)) (by rw[Nat.add_comm 1 Kq.toNat,a5j,List.set_set,b0w env Kq K8.out.1 (by rw[HE.out];exact K8.out.2)])))
  go_wp2_with fail
  go_ret
  exact⟨rfl,HE2.out⟩
 have t3:decide ((j:Int)<(N:Int))=true:=decide_eq_true oM
 go_wp2_with fail
 go_region
 clear q0 q1 q2 q3 q4 q5 x1 f1 kk
 have BG1:=tF BG.out (1+Kq.toNat) (.int .i64 (j:Int))
 rw[Nat.add_comm 1 Kq.toNat,a5j,List.set_set,Nat.add_comm Kq.toNat 1]at BG1
 have BG:=am (kW BG1)
 have BN:=am (kW (uH (p:=⟨g,1+Kq.toNat,none⟩) BN.out (by have:=GL.out;simp;omega) (.int .i64 (j:Int))))
 have KW:=am (Kept.drew (KW.out.setCell (p:=⟨g,1+Kq.toNat,none⟩) (.inl rfl) (.int .i64 (j:Int))))
 have H0:=am (show Below 0 w (wr.setCell ⟨g,1+Kq.toNat,none⟩ (.int .i64 (j:Int))).drew from yV (H0.out.setCell (Nat.zero_le _) _))
 clear BG1
 generalize (wr.setCell ⟨g,1+Kq.toNat,none⟩ (.int .i64 (j:Int))).drew=wA at *
 obtain⟨q0,q1,q2,q3,q4,q5⟩:=a3d BN.out
 go_wp2_with fail
 obtain⟨g1,rfl⟩ :∃g1,gk=g1+1:=⟨gk-1,by have:=HG.out;omega⟩
 have hh:=HH.out
 unfold b2p at hh
 obtain⟨⟨rv,kn⟩,hvr,hh⟩:=oB hh
 have HVR:=am hvr;have HN2:=am hh
 clear hvr hh HH q0 q1 q2 q4 q5
 refine vC (n:=8) (S:=fun w'=>w'.cell? ⟨w.heap.size,3,none⟩=some (.int .i64 A)) (ds:=[]) d5e (by kernel_rfl) rfl rfl (q3) (fun hHeld=>?_)
 refine pS (i:=0) (N:=some 33) d5a ?_
 refine pS (i:=1) (N:=some 34) d4w ?_
 refine pS (i:=3) (N:=some 36) d4s ?_
 refine pS (i:=6) (N:=some 39) d4o ?_
 refine qY (i:=2) (N:=some 35) (v:=?_) (a':=?_) d4k rfl rfl (by kernel_rfl) (fun _ _ _ h=>h) (Or.inl ⟨by rfl,?_⟩) hHeld ?_ ?_
 rotate_left
 ·intro w' s0
  go_simp
  with_reducible rfl
 rotate_left
 ·exact b8e
 refine a1t (i:=4) (N:=some 37) d4g rfl rfl (by kernel_rfl) (by decide) (fun K hK=>?_)
 refine a1g Tryz.func18 (by kernel_rfl) rfl #[.pointer (some ⟨g,0,none⟩)] (by rfl) rfl rfl (by simp only[List.map_toArray,List.map_cons,List.map_nil];rfl) ?_
 with_reducible refine(KSi g A0 c0 l0 (env.set Kq.toNat (j:Int)) _ (kW BG.out) HL.out HM.out).mono ?_
 rintro e w3 ⟨hk,ck,rfl,hRK,hb⟩
 refine⟨_,rfl,?_⟩
 have RK:=am hRK
 have HKN:=am (show w.heap.size<hk from by
  obtain⟨g2,c2,e2,a4,_⟩:=Kd.JZ hRK (by rw[List.length_replicate];exact HL.out)
  rw[List.length_replicate]at e2
  cases e2
  exact Nat.lt_of_lt_of_le (vD BN.out) a4)
 have BG:=am (kJ (kW BG.out) hb)
 have BN:=am (kJ (kW BN.out) hb)
 have KW:=am ((Kept.drew KW.out).below hb)
 have H0:=am ((yV H0.out).trans (hb.mono (Nat.zero_le _)))
 clear hb hRK
 refine hK.out _ _ (((kE BN.out 3).trans rfl)) (fun hHeld=>?_)
 clear hK K
 refine vA (a':=?_) ?_ ?_
 rotate_left
 ·show Act.put _ (some 37) _=_
  exact b8e
 refine a1t (i:=5) (N:=some 38) d4c rfl rfl (by kernel_rfl) (by decide) (fun K hK=>?_)
 refine a1g Tryz.func17 (by kernel_rfl) rfl #[.pointer (some ⟨g,0,none⟩),.int .i64 A,.slice (some ⟨hk,0,none⟩) l0.length ck] (by rfl) rfl rfl (by simp only[List.map_toArray,List.map_cons,List.map_nil];rfl) ?_
 with_reducible refine(HV.out hk ck _ (env.set Kq.toNat (j:Int)) A (List.replicate l0.length (-1)) rv kn _ BG.out (by rw[List.length_set];exact HE.out) (by have:=HKN.out;have:=GL.out;omega) (fun W_ hW=>a5.out W_ (KW.out.then_ hW (fun k hk'=>by have:=HKN.out;rcases hk' with rfl|rfl;exact .inl rfl;exact .inr oM))) (by simp) (RK.out) HVR.out).mono ?_
 rintro e w4 ⟨rfl,hR4,_,hK4,a0⟩
 refine⟨_,rfl,?_⟩
 have BG:=am (xD BG.out hK4 (by have:=HKN.out;have:=GL.out;omega))
 have BN:=am (xD BN.out hK4 (by have:=HKN.out;omega))
 have KW:=am (KW.out.then_ hK4 (fun k hk'=> .inr (by have:=HKN.out;omega)))
 have H0:=am (H0.out.trans a0)
 clear hR4 hK4 a0
 refine hK.out _ _ (((kE BN.out 3).trans rfl)) (fun hHeld=>?_)
 clear hK K
 refine vA (a':=?_) ?_ ?_
 rotate_left
 ·show Act.put _ (some 38) _=_
  exact b8e
 refine pS (i:=7) (N:=some 40) d3w ?_
 refine a1s (by kernel_rfl) ?_
 by_cases hv:rv=out
 ·have t4:(rv !=out)=false:=by rw[hv];exact bne_self_eq_false' _
  have hn:=HN2.out
  rw[if_pos hv]at hn
  clear q3 hv
  go_wp2_with fail
  have HH:=am hn
  clear hn
  go_roundg g1
  case measure=>omega
  case rel=>exact⟨j+1,(j:Int),by rw[show wrap64 ((j:Int)+1)=((j+1:Nat):Int) by have:=HN.out;unfold wrap64;omega],rfl,⟨by have:=HG.out;omega⟩,⟨by have h:=HH.out;rw[show((j+1:Nat):Int)=(j:Int)+1 by omega];exact h⟩,BG,BN,KW,H0⟩
 have t4:(rv !=out)=true:=bne_iff_ne.mpr hv
 have hn:=HN2.out
 rw[if_neg hv]at hn
 obtain rfl:=oI hn
 clear q3 hv hn
 have hw:wrap64 (1-out)=1-out:=by rcases O1.out with h|h<;>rw[h]<;>simp[wrap64]
 go_wp2_with fail
 obtain⟨q0,q1,q2,q3,q4,q5⟩:=a3d BN.out
 have x1:=(kE BG.out (Kq.toNat+1)).trans (a4o _ _ _ _ Kq.toNat (by rw[List.length_set,HE.out];have:=K8.out;omega))
 rw[Int.toNat_of_nonneg K8.out.1,Nat.add_comm Kq.toNat 1]at x1
 have f1:=kF BG.out (1+Kq.toNat)
 have kk:=K8.out
 go_region
 clear q0 q1 q2 q3 q4 q5 x1 f1 kk
 have HE2:=am (yV (a9u (j:=1+Kq.toNat) BG0.out KW.out H0.out BG.out (.int .i64 (rd env Kq)) (by rw[Nat.add_comm 1 Kq.toNat,a5j,List.set_set,b0w env Kq K8.out.1 (by rw[HE.out];exact K8.out.2)])))
 go_wp2_with fail
 go_ret
 exact⟨by rw[← hw];rfl,HE2.out⟩
def a5x(l0:List (S31))(met:List Bool)(v x:Int):Nat→Nat→Option Bool
 | 0,_=>some true
 | m+1,i=>if(met.getD i false&&(kA l0 (i:Int)).f0==1&&(kA l0 (i:Int)).f2==v)=true then(rP (kA l0 (i:Int)).f1 x).bind fun b=>if b=true then a5x l0 met v x m (i+1)else some false else a5x l0 met v x m (i+1)
def a3z(k:Nat)(l0:List (S31))(l1:List Int):Nat→Nat→Option Bool
 | 0,_=>some true
 | m+1,v=>if v<l1.length then(a0o k l0 (v:Int)).bind fun met=>(if met.length=l0.length then(a5x l0 met (v:Int) (rd l1 (v:Int)) l0.length 0).bind fun b=>(if b=true then a3z k l0 l1 m (v+1)else some false)else none)else none
def a4a(l0:List (S31))(met:List Bool)(Kq B:Int):Nat→Nat→Bool
 | 0,_=>true
 | m+1,i=>if(met.getD i false&&(kA l0 (i:Int)).f0==1&&(kA l0 (i:Int)).f2==Kq&&(kA l0 (i:Int)).f1 !=B)=true then false else a4a l0 met Kq B m (i+1)
def a4q(k:Nat)(l0:List (S31))(rch:List Bool):Nat→Nat→Option Bool
 | 0,_=>some true
 | m+1,i=>if(rch.getD i false&&((kA l0 (i:Int)).f0==19 || (kA l0 (i:Int)).f0==20))=true then(xH (wY l0 (kA l0 (i:Int)).f2) k l0 (kA l0 (i:Int)).f3).bind fun met=>(if met.length=l0.length then(if a4a l0 met (kA l0 (i:Int)).f2 (kA l0 (i:Int)).f4 l0.length 0=true then a4q k l0 rch m (i+1)else some false)else none)else a4q k l0 rch m (i+1)
def yU(k:Nat)(l0:List (S31))(l1:List Int):Option Bool :=
 if l0.length≤1048576 then(a3z k l0 l1 8 0).bind fun b=>(if b=true then(vR k l0).bind fun rch=>(if rch.length=l0.length then a4q k l0 rch l0.length 0 else none)else some false)else none
theorem b5k{P:Prop}(h:P:=by
 go_wp2_with fail
 go_roundg g2
 case measure=>omega
 case rel=>exact⟨i+1,by rw[show wrap64 ((i:Int)+1)=((i+1:Nat):Int) by have:=HM.out;unfold wrap64;omega],⟨by have:=HJ.out;omega⟩,HN3,⟨BT.out⟩,⟨by exact MC.out⟩,⟨by exact kM HB.out _⟩⟩):P:=h
theorem b5i{P:Prop}(h:P:=by
 go_wp2_with fail
 go_roundg g3
 case measure=>omega
 case rel=>exact⟨j+1,by rw[show wrap64 ((j:Int)+1)=((j+1:Nat):Int) by have:=HM.out;unfold wrap64;omega],⟨by have:=a2.out;omega⟩,HN6,BT,BN,MC,M2,HB⟩):P:=h
theorem c4q{P:Prop}(h:P:=by
 go_wp2_with fail
 go_roundg g2
 case measure=>omega
 case rel=>exact⟨i+1,by rw[show wrap64 ((i:Int)+1)=((i+1:Nat):Int) by have:=HM.out;unfold wrap64;omega],⟨by have:=HJ.out;omega⟩,HN3,BT,MC,HB⟩):P:=h
theorem KDi(k:Nat)(A0:Option Addr)(c0:Nat)(l0:List (S31))(A1:Option Addr)(c1:Nat)(l1:List Int)(r:Bool)(w:World)(hr0:Kd.C k31 w A0 l0.length l0)(hc0:l0.length≤c0)(hr1:Kd.C (Kd.int .i64) w A1 l1.length l1)(hc1:l1.length≤c1)(h:yU k l0 l1=some r) :
  Calls Tryz.prog 15 #[.slice A0 l0.length c0,.slice A1 l1.length c1] w fun e w'=>e= .returned (.bool r)∧Below w.heap.size w w':=by
 unfold yU at h
 by_cases hm:l0.length≤1048576
 rotate_left
 ·rw[if_neg hm]at h
  exact absurd h (by simp)
 rw[if_pos hm]at h
 have a1:=am hr0;have a3:=am hc0;have a9:=am hr1;have aF:=am hc1;have HM:=am hm;have HH:=am h
 clear hr0 hc0 hr1 hc1 hm h
 go_enter Tryz.func15,Tryz.ntmps15
 go_wp2_with fail
 have BT:=am (heap_alloc_new w (Obj.cells #[Value.slice A0 l0.length c0] 24))
 have HB:=am (kO (Below.refl w.heap.size w) (Obj.cells #[Value.slice A0 l0.length c0] 24))
 generalize w.alloc (Obj.cells #[Value.slice A0 l0.length c0] 24)=wA at *
 obtain⟨b1,hb1,h⟩:=oB HH.out
 have HV:=am hb1;have HH:=am h
 clear hb1 h
 go_loopg [5,6,7,8,15] 8 (fun gk v5 v6 v7 v8 a7 w' =>∃v:Nat,a7= .int .i64 (v:Int)∧Aside0 (gk+v=8)∧Aside0 (a3z k l0 l1 gk v=some b1)∧Aside0 (w'.heap[w.heap.size]? = some (.cells #[.slice A0 l0.length c0] 24 (0,0)))∧Aside0 (Below w.heap.size w w'))
 case atStart=>exact⟨0,rfl,⟨rfl⟩,HV,BT,HB⟩
 obtain⟨v,rfl,HG,HV,BT,HB⟩:=hrel
 have x0:wr.cell? ⟨w.heap.size,0,none⟩=some (.slice A0 l0.length c0):=(kE BT.out 0).trans rfl
 by_cases hv:v<8
 ·have t1:decide ((v:Int)<8)=true:=decide_eq_true oM
  obtain⟨g1,rfl⟩ :∃g1,gk=g1+1:=⟨gk-1,by have:=HG.out;omega⟩
  have hh:=HV.out
  unfold a3z at hh
  by_cases hv1:v<l1.length
  rotate_left
  ·rw[if_neg hv1]at hh
   exact absurd hh (by simp)
  rw[if_pos hv1]at hh
  obtain⟨met,hmet,hh⟩:=oB hh
  by_cases hml:met.length=l0.length
  rotate_left
  ·rw[if_neg hml]at hh
   exact absurd hh (by simp)
  rw[if_pos hml]at hh
  obtain⟨b2,hA,hh⟩:=oB hh
  have HMT:=am hmet;have HML:=am hml;have HA:=am hA;have HN:=am hh;have HV1:=am hv1
  clear hmet hml hA hh hv1 HV
  go_wp2_with fail
  refine(YKi k A0 c0 l0 (v:Int) met wr (Kd.JE a1.out HB.out) a3.out HMT.out).mono ?_
  rintro e w2 ⟨v0,rfl,HO,hb⟩
  obtain⟨Am,cm,rfl,hmc,hMC⟩:=Kd.YL HO
  have HB:=am (HB.out.trans (hb.mono HB.out.size));have BT:=am (kJ BT.out hb);have MC:=am hMC
  clear hb HO hMC hmc x0
  have x0:w2.cell? ⟨w.heap.size,0,none⟩=some (.slice A0 l0.length c0):=(kE BT.out 0).trans rfl
  go_wp2_with fail
  clear x0
  go_loopg [7,8,23] l0.length (fun gj u7 u8 u23 w' =>∃i:Nat,u23= .int .i64 (i:Int)∧Aside0 (gj+i=l0.length)∧Aside0 (a5x l0 met (v:Int) (rd l1 (v:Int)) gj i=some b2)∧Aside0 (w'.heap[w.heap.size]? = some (.cells #[.slice A0 l0.length c0] 24 (0,0)))∧Aside0 (Kd.C Kd.bool w' Am met.length met)∧Aside0 (Below w.heap.size w w'))
  case atStart=>exact⟨0,rfl,⟨rfl⟩,HA,BT,MC,HB⟩
  obtain⟨i,rfl,HJ,HA,BT,MC,HB⟩:=hrel
  by_cases hi:i<l0.length
  rotate_left
  ·obtain rfl:i=l0.length:=by have:=HJ.out;omega
   have hgk:gk=0:=by have:=HJ.out;omega
   subst hgk
   have t2:decide ((l0.length:Int)<(l0.length:Int))=false:=decide_eq_false oM
   have hh:=HA.out
   unfold a5x at hh
   obtain rfl:=oI hh
   have h1:=HN.out
   rw[if_pos rfl]at h1
   have HN3:=am h1
   clear hh h1 HA HN
   go_wp2_with fail
   go_roundg g1
   case measure=>omega
   case rel=>exact⟨v+1,by go_num,⟨by have:=HG.out;omega⟩,HN3,BT,HB⟩
  have p1:(0:Int)≤(i:Int):=by omega
  have p2:(i:Int)<(l0.length:Int):=by omega
  have t2:decide ((i:Int)<(l0.length:Int))=true:=decide_eq_true p2
  obtain⟨a0,e0,y0,y1,y2,y3,y4,y5⟩:=pE (Kd.JE a1.out HB.out) (i:Int) p1 p2
  rw[Int.toNat_natCast]at y0 y1 y2 y3 y4 y5
  have hml:=HML.out
  obtain⟨adm,em,hm1⟩:=Kd.JJ MC.out (i:Int) p1 oM
  rw[Int.toNat_natCast,show wH false met (i:Int)=met.getD i false from rfl]at hm1
  obtain⟨ade,ee,he1⟩:=Kd.JD (Kd.JE a9.out HB.out) (v:Int) oM (by have:=HV1.out;omega)
  rw[Int.toNat_natCast]at he1
  subst e0
  subst em
  subst ee
  obtain⟨⟨op,W,Kq,A,B,C⟩,hnd⟩ :∃n,kA l0 (i:Int)=n:=⟨_,rfl⟩
  obtain⟨mb,hmb⟩ :∃mb,met.getD i false=mb:=⟨_,rfl⟩
  obtain⟨g2,rfl⟩ :∃g2,gk=g2+1:=⟨gk-1,by have:=HJ.out;omega⟩
  have hh:=HA.out
  unfold a5x at hh
  rw[hnd,hmb]at hh
  rw[hnd]at y0 y1 y2 y3 y4 y5
  rw[hmb]at hm1
  simp only[]at y0 y1 y2 y3 y4 y5 hh
  have HN2:=am hh
  have t3:decide ((i:Int)<(met.length:Int))=true:=decide_eq_true oM
  have t4:decide ((v:Int)<(l1.length:Int))=true:=decide_eq_true (by have:=HV1.out;omega)
  have aB:=HV1.out
  have aC:i<met.length:=by omega
  clear hml
  have BN:=am (heap_alloc_new wr (Obj.cells #[Value.int .i64 op,Value.int .i64 W,Value.int .i64 Kq,Value.int .i64 A,Value.int .i64 B,Value.int .i64 C] 33))
  have hA2:=kO (Below.refl wr.heap.size wr) (Obj.cells #[Value.int .i64 op,Value.int .i64 W,Value.int .i64 Kq,Value.int .i64 A,Value.int .i64 B,Value.int .i64 C] 33)
  have hm2:=kC hA2 hm1
  have he2:=kC hA2 he1
  have BT:=am (kJ BT.out hA2);have MC:=am (Kd.JE MC.out hA2);have HB:=am (HB.out.trans (hA2.mono HB.out.size))
  clear hnd hmb hh HA hA2 hm1 he1
  go_wp2_with fail
  clear y0 y1 y2 y3 y4 y5
  generalize wr.alloc (Obj.cells #[Value.int .i64 op,Value.int .i64 W,Value.int .i64 Kq,Value.int .i64 A,Value.int .i64 B,Value.int .i64 C] 33)=wN at *
  obtain⟨q0,q1,q2,q3,q4,q5⟩:=a3d BN.out
  cases mb with
  | false =>
   have hn:=HN2.out
   rw[if_neg (by simp)]at hn
   have HN3:=am hn
   clear hn
   go_quiet (fail)
   exact b5k
  | true =>
   by_cases o1:op=1
   rotate_left
   ·have t5:(op==1)=false:=beq_eq_false_iff_ne.mpr o1
    have hn:=HN2.out
    rw[if_neg (by rw[t5];simp)]at hn
    have HN3:=am hn
    clear hn o1
    go_quiet (fail)
    exact b5k
   have t5:(op==1)=true:=beq_iff_eq.mpr o1
   by_cases k1:Kq=(v:Int)
   rotate_left
   ·have t6:(Kq==(v:Int))=false:=beq_eq_false_iff_ne.mpr k1
    have hn:=HN2.out
    rw[if_neg (by rw[t6];simp)]at hn
    have HN3:=am hn
    clear hn o1 k1
    go_quiet (fail)
    exact b5k
   have t6:(Kq==(v:Int))=true:=beq_iff_eq.mpr k1
   have hn:=HN2.out
   rw[if_pos (by rw[t5,t6];rfl)]at hn
   obtain⟨b3,hw,hn⟩:=oB hn
   have HW:=am hw;have HN3:=am hn;have K1:=am k1
   clear hw hn o1 k1
   cases b3 with
   | true =>
    have hn:=HN3.out
    rw[if_pos rfl]at hn
    have HN3:=am hn
    clear hn
    go_quiet ((go_at_call 9;refine cD (JDi W (rd l1 (v:Int)) true _ HW.out) fun nd=>?_;exact⟨rfl,_,World.drewN_drewN _ _ _⟩))
    exact b5k
   | false =>
    have hn:=HN3.out
    rw[if_neg (by decide)]at hn
    obtain rfl:=oI hn
    clear hn
    go_quiet ((go_at_call 9;refine cD (JDi W (rd l1 (v:Int)) false _ HW.out) fun nd=>?_;exact⟨rfl,_,World.drewN_drewN _ _ _⟩))
    go_wp2_with fail
    have h1:=HN.out
    rw[if_neg (by decide)]at h1
    obtain rfl:=oI h1
    have h2:=HH.out
    rw[if_neg (by decide)]at h2
    obtain rfl:=oI h2
    go_ret
    exact⟨rfl,by exact kM HB.out _⟩
 obtain rfl:v=8:=by have:=HG.out;omega
 have hgk:gk=0:=by have:=HG.out;omega
 subst hgk
 have t1:decide (((8:Nat):Int)<8)=false:=by decide
 have hh:=HV.out
 unfold a3z at hh
 obtain rfl:=oI hh
 clear hh HV
 have h2:=HH.out
 rw[if_pos rfl]at h2
 obtain⟨rch,hrc,h2⟩:=oB h2
 by_cases hrl:rch.length=l0.length
 rotate_left
 ·rw[if_neg hrl]at h2
  exact absurd h2 (by simp)
 rw[if_pos hrl]at h2
 have HRC:=am hrc;have HRL:=am hrl;have HH3:=am h2
 clear hrc hrl h2
 go_wp2_with fail
 refine(KHi k A0 c0 l0 rch wr (Kd.JE a1.out HB.out) a3.out HRC.out).mono ?_
 rintro e w2 ⟨v0,rfl,HO,hb⟩
 obtain⟨Am,cm,rfl,hmc,hMC⟩:=Kd.YL HO
 have HB:=am (HB.out.trans (hb.mono HB.out.size));have BT:=am (kJ BT.out hb);have MC:=am hMC
 clear hb HO hMC hmc x0
 go_wp2_with fail
 go_loopg [9,10,11,12,13,14,58] rch.length (fun gk u9 u10 u11 u12 u13 u14 u58 w' =>∃i:Nat,u58= .int .i64 (i:Int)∧Aside0 (gk+i=l0.length)∧Aside0 (a4q k l0 rch gk i=some r)∧Aside0 (w'.heap[w.heap.size]? = some (.cells #[.slice A0 l0.length c0] 24 (0,0)))∧Aside0 (Kd.C Kd.bool w' Am rch.length rch)∧Aside0 (Below w.heap.size w w'))
 case atStart=>exact⟨0,rfl,⟨by have:=HRL.out;omega⟩,by rw[HRL.out];exact HH3,BT,MC,HB⟩
 obtain⟨i,rfl,HJ,HR,BT,MC,HB⟩:=hrel
 by_cases hi:i<l0.length
 rotate_left
 ·obtain rfl:i=l0.length:=by have:=HJ.out;omega
  have hgk:gk=0:=by have:=HJ.out;omega
  subst hgk
  have t2:decide ((l0.length:Int)<(rch.length:Int))=false:=decide_eq_false (by have:=HRL.out;omega)
  have a8 :¬l0.length<rch.length:=by have:=HRL.out;omega
  have hh:=HR.out
  unfold a4q at hh
  obtain rfl:=oI hh
  clear hh HR
  go_wp2_with fail
  go_ret
  exact⟨rfl,HB.out⟩
 have p1:(0:Int)≤(i:Int):=by omega
 have p2:(i:Int)<(l0.length:Int):=by omega
 have t2:decide ((i:Int)<(rch.length:Int))=true:=decide_eq_true (by have:=HRL.out;omega)
 have a8:i<rch.length:=by have:=HRL.out;omega
 have t3:decide ((i:Int)<(l0.length:Int))=true:=decide_eq_true p2
 obtain⟨a0,e0,y0,y1,y2,y3,y4,y5⟩:=pE (Kd.JE a1.out HB.out) (i:Int) p1 p2
 rw[Int.toNat_natCast]at y0 y1 y2 y3 y4 y5
 obtain⟨adm,em,hm1⟩:=Kd.JJ MC.out (i:Int) p1 (by have:=HRL.out;omega)
 rw[Int.toNat_natCast,show wH false rch (i:Int)=rch.getD i false from rfl]at hm1
 subst e0
 subst em
 have x0:wr.cell? ⟨w.heap.size,0,none⟩=some (.slice (some a0) l0.length c0):=(kE BT.out 0).trans rfl
 obtain⟨⟨op,W,Kq,A,B,C⟩,hnd⟩ :∃n,kA l0 (i:Int)=n:=⟨_,rfl⟩
 obtain⟨mb,hmb⟩ :∃mb,rch.getD i false=mb:=⟨_,rfl⟩
 obtain⟨g2,rfl⟩ :∃g2,gk=g2+1:=⟨gk-1,by have:=HJ.out;omega⟩
 have hh:=HR.out
 unfold a4q at hh
 rw[hnd,hmb]at hh
 rw[hnd]at y0 y1 y2 y3 y4 y5
 rw[hmb]at hm1
 simp only[]at y0 y1 y2 y3 y4 y5 hh
 have HN2:=am hh
 clear hnd hmb hh HR
 have BN:=am (heap_alloc_new wr (Obj.cells #[Value.int .i64 op,Value.int .i64 W,Value.int .i64 Kq,Value.int .i64 A,Value.int .i64 B,Value.int .i64 C] 33))
 have hA2:=kO (Below.refl wr.heap.size wr) (Obj.cells #[Value.int .i64 op,Value.int .i64 W,Value.int .i64 Kq,Value.int .i64 A,Value.int .i64 B,Value.int .i64 C] 33)
 have BT:=am (kJ BT.out hA2);have MC:=am (Kd.JE MC.out hA2);have HB:=am (HB.out.trans (hA2.mono HB.out.size))
 clear hA2
 cases mb with
 | false =>
  have hn:=HN2.out
  rw[if_neg (by simp)]at hn
  have HN3:=am hn
  clear hn
  exact c4q
 | true =>
  obtain⟨q0,q1,q2,q3,q4,q5⟩:=a3d BN.out
  cases hq:(op==19 || op==20)with
  | false =>
   have hn:=HN2.out
   rw[hq,if_neg (by simp)]at hn
   have HN3:=am hn;have HQ:=am hq
   clear hn hq
   go_wp2_with fail
   refine(JJi false _ (by rw[a0n,HQ.out])).mono ?_
   rintro e w3 ⟨rfl,hb⟩
   have BT:=am (kJ BT.out hb);have MC:=am (Kd.JE MC.out hb);have HB:=am (HB.out.trans (hb.mono HB.out.size))
   clear hb
   exact c4q
  | true =>
   have hn:=HN2.out
   rw[hq,if_pos (show(true&&true)=true from rfl)]at hn
   obtain⟨met,hmt,hn⟩:=oB hn
   have HQ:=am hq;have HMT:=am hmt;have HN3:=am hn
   clear hn hq hmt
   have hmf :∀(fn:Fn) (first cap:Array Value) (w:World),(Instr.makeFunc fn first cap).run Tryz.prog w= .ok (.func fn first cap) w:=fun _ _ _ _=>rfl
   go_wp2_with fail
   refine(JJi true _ (by rw[a0n,HQ.out])).mono ?_
   rintro e w3 ⟨rfl,hb⟩
   have BT:=am (kJ BT.out hb);have BN:=am (kJ BN.out hb);have MC:=am (Kd.JE MC.out hb);have HB:=am (HB.out.trans (hb.mono HB.out.size))
   clear hb q0 q1 q2 q3 q4 q5 x0
   obtain⟨q0,q1,q2,q3,q4,q5⟩:=a3d BN.out
   have x0:w3.cell? ⟨w.heap.size,0,none⟩=some (.slice (some a0) l0.length c0):=(kE BT.out 0).trans rfl
   go_wp2_with fail
   refine(KIi 38 #[.pointer (some ⟨w.heap.size,0,none⟩),.pointer (some ⟨wr.heap.size,0,none⟩)] (wY l0 Kq) k (some a0) c0 l0 A met w3 (Kd.JE a1.out HB.out) a3.out (fun _ _=>rfl) ?hp HMT.out).mono ?_
   case hp =>
    intro W2 i2 b2 hW hb2
    exact XDi (some a0) c0 l0 Kq i2 b2 w.heap.size wr.heap.size W2 (Kd.JE (Kd.JE a1.out HB.out) hW) a3.out ((kE (kJ BT.out hW) 0).trans rfl) ((kE (kJ BN.out hW) 2).trans rfl) hb2
   rintro e w4 ⟨v0,rfl,HO,hb⟩
   obtain⟨A2,c2,rfl,hmc2,hMC2⟩:=Kd.YL HO
   have BT:=am (kJ BT.out hb);have BN:=am (kJ BN.out hb);have MC:=am (Kd.JE MC.out hb);have M2:=am hMC2;have HB:=am (HB.out.trans (hb.mono HB.out.size))
   clear hb HO hMC2 hmc2 q0 q1 q2 q3 q4 q5 x0
   by_cases hml2:met.length=l0.length
   rotate_left
   ·have hn:=HN3.out
    rw[if_neg hml2]at hn
    exact absurd hn (by simp)
   have hn:=HN3.out
   rw[if_pos hml2]at hn
   obtain⟨b3,hb3⟩ :∃b3,a4a l0 met Kq B l0.length 0=b3:=⟨_,rfl⟩
   rw[hb3]at hn
   have HN4:=am hn;have HB3:=am hb3;have HML2:=am hml2
   clear hn hb3 hml2 HN3 HMT y0 y1 y2 y3 y4 y5 hm1
   have x0:w4.cell? ⟨w.heap.size,0,none⟩=some (.slice (some a0) l0.length c0):=(kE BT.out 0).trans rfl
   go_wp2_with fail
   clear x0
   go_loopg [13,14,81] l0.length (fun gj u13 u14 u81 w' =>∃j:Nat,u81= .int .i64 (j:Int)∧Aside0 (gj+j=l0.length)∧Aside0 (a4a l0 met Kq B gj j=b3)∧Aside0 (w'.heap[w.heap.size]? = some (.cells #[.slice (some a0) l0.length c0] 24 (0,0)))∧Aside0 (w'.heap[wr.heap.size]? = some (.cells #[Value.int .i64 op,Value.int .i64 W,Value.int .i64 Kq,Value.int .i64 A,Value.int .i64 B,Value.int .i64 C] 33 (0,0)))∧Aside0 (Kd.C Kd.bool w' (some adm) rch.length rch)∧Aside0 (Kd.C Kd.bool w' A2 met.length met)∧Aside0 (Below w.heap.size w w'))
   case atStart=>exact⟨0,rfl,⟨rfl⟩,HB3,BT,BN,MC,M2,HB⟩
   obtain⟨j,rfl,a2,HQ2,BT,BN,MC,M2,HB⟩:=hrel
   by_cases hj:j<l0.length
   rotate_left
   ·obtain rfl:j=l0.length:=by have:=a2.out;omega
    have hgk:gk=0:=by have:=a2.out;omega
    subst hgk
    have t9:decide ((l0.length:Int)<(l0.length:Int))=false:=decide_eq_false oM
    have hh:=HQ2.out
    unfold a4a at hh
    have h1:=HN4.out
    rw[← hh,if_pos rfl]at h1
    have HN6:=am h1
    clear hh h1 HQ2
    go_wp2_with fail
    go_roundg g2
    case measure=>omega
    case rel=>exact⟨i+1,by rw[show wrap64 ((i:Int)+1)=((i+1:Nat):Int) by have:=HM.out;unfold wrap64;omega],⟨by have:=HJ.out;omega⟩,HN6,BT,MC,HB⟩
   have a5:(0:Int)≤(j:Int):=by omega
   have a4:(j:Int)<(l0.length:Int):=by omega
   have t9:decide ((j:Int)<(l0.length:Int))=true:=decide_eq_true a4
   obtain⟨aE,e1,y0,y1,y2,y3,y4,y5⟩:=pE (Kd.JE a1.out HB.out) (j:Int) a5 a4
   rw[Int.toNat_natCast]at y0 y1 y2 y3 y4 y5
   obtain rfl:=oI e1
   have hml:=HML2.out
   obtain⟨adn,em,hm1⟩:=Kd.JJ M2.out (j:Int) a5 oM
   rw[Int.toNat_natCast,show wH false met (j:Int)=met.getD j false from rfl]at hm1
   subst em
   obtain⟨⟨op2,W2,K2,a6,B2,C2⟩,hnd⟩ :∃n,kA l0 (j:Int)=n:=⟨_,rfl⟩
   obtain⟨mb2,hmb⟩ :∃mb,met.getD j false=mb:=⟨_,rfl⟩
   obtain⟨g3,rfl⟩ :∃g3,gk=g3+1:=⟨gk-1,by have:=a2.out;omega⟩
   have hh:=HQ2.out
   unfold a4a at hh
   rw[hnd,hmb]at hh
   rw[hnd]at y0 y1 y2 y3 y4 y5
   rw[hmb]at hm1
   simp only[]at y0 y1 y2 y3 y4 y5 hh
   have HN5:=am hh
   have aD:decide ((j:Int)<(met.length:Int))=true:=decide_eq_true oM
   have aA:j<met.length:=by omega
   clear hml e1
   have BM:=am (heap_alloc_new wr (Obj.cells #[Value.int .i64 op2,Value.int .i64 W2,Value.int .i64 K2,Value.int .i64 a6,Value.int .i64 B2,Value.int .i64 C2] 33))
   have hA2:=kO (Below.refl wr.heap.size wr) (Obj.cells #[Value.int .i64 op2,Value.int .i64 W2,Value.int .i64 K2,Value.int .i64 a6,Value.int .i64 B2,Value.int .i64 C2] 33)
   have hm2:=kC hA2 hm1
   have BT:=am (kJ BT.out hA2);have BN:=am (kJ BN.out hA2);have MC:=am (Kd.JE MC.out hA2);have M2:=am (Kd.JE M2.out hA2);have HB:=am (HB.out.trans (hA2.mono HB.out.size))
   clear hnd hmb hh HQ2 hA2 hm1
   obtain⟨q0,q1,q2,q3,q4,q5⟩:=a3d BM.out
   obtain⟨z0,z1,z2,z3,z4,z5⟩:=a3d BN.out
   cases mb2 with
   | false =>
    have hn:=HN5.out
    rw[if_neg (by simp)]at hn
    have HN6:=am hn
    clear hn HN5
    exact b5i
   | true =>
    by_cases o1:op2=1
    rotate_left
    ·have t5:(op2==1)=false:=beq_eq_false_iff_ne.mpr o1
     have hn:=HN5.out
     rw[if_neg (by rw[t5];simp)]at hn
     have HN6:=am hn
     clear hn HN5 o1
     exact b5i
    have t5:(op2==1)=true:=beq_iff_eq.mpr o1
    by_cases k1:K2=Kq
    ·have t6:(K2==Kq)=true:=beq_iff_eq.mpr k1
     by_cases w1:W2=B
     ·have t7:(W2 !=B)=false:=by rw[w1];simp
      have hn:=HN5.out
      rw[if_neg (by rw[t7];simp)]at hn
      have HN6:=am hn
      clear hn HN5 o1 k1 w1
      exact b5i
     have t7:(W2 !=B)=true:=bne_iff_ne.mpr w1
     have hn:=HN5.out
     rw[if_pos (by rw[t5,t6,t7];rfl)]at hn
     have HN6:=am hn
     clear hn HN5 o1 k1 w1
     go_wp2_with fail
     have h1:=HN4.out
     rw[← HN6.out,if_neg (by decide)]at h1
     obtain rfl:=oI h1
     go_ret
     exact⟨rfl,HB.out⟩
    have t6:(K2==Kq)=false:=beq_eq_false_iff_ne.mpr k1
    have hn:=HN5.out
    rw[if_neg (by rw[t6];simp)]at hn
    have HN6:=am hn
    clear hn HN5 o1 k1
    exact b5i
def rO:Nat→List (S31)→Int→List Bool→Int→Int→Option (Int)
 | 0,_,_,_,_,_=>none
 | k+1,x0,x3,x7,x8,x9=>if x9<x8 then(if 0≤x9 then(if x9<(x7.length:Int)then(if wH false x7 x9=true then(if x9<(x0.length:Int)then((rK ((kA x0 x9).f0) ((kA x0 x9).f1) ((kA x0 x9).f2) ((kA x0 x9).f3) ((kA x0 x9).f4) ((kA x0 x9).f5)).bind fun a0=>(if a0=true then(rO k x0 (wrap64 (x3+((kA x0 x9).f4))) x7 x8 (wrap64 (x9+1)))else(rO k x0 x3 x7 x8 (wrap64 (x9+1)))))else(none))else(rO k x0 x3 x7 x8 (wrap64 (x9+1))))else(none))else(none))else(some x3)
def uC(k:Nat)(l0:List (S31)):Option (Int):=(vR k l0).bind fun a0=>(rO k l0 0 a0 (a0.length:Int) 0)
theorem c4n{P:Prop}(h:P:=by
 go_roundg k1
 case measure=>have:=aJ.out;omega
 case rel=>exact⟨a6,(wrap64 (a0+1)),rfl,rfl,H,⟨by have:=aJ.out;omega⟩,⟨sR<|a4.out⟩,⟨sW HB.out⟩⟩):P:=h
theorem KTi(k:Nat)(A0:Option Addr)(c0:Nat)(l0:List (S31))(r:Int)(w:World)(hr0:Kd.C k31 w A0 l0.length l0)(hc0:l0.length≤c0)(h:uC k l0=some r) :
  Calls Tryz.prog 16 #[.slice A0 l0.length c0] w fun e w'=>e= .returned (.int .i64 r)∧Below w.heap.size w w':=by
 have hu31:=Tryz.underlying33
 have aH:=am hr0
 have aZ:=am hc0
 clear hr0 hc0
 have HB:=am (Below.refl w.heap.size w)
 have H:=h
 clear h
 unfold uC at H
 replace H:=oA H;obtain⟨a5,A2,H⟩:=H
 replace H:=am H
 go_enter Tryz.func16,Tryz.ntmps16
 go_wp2_with (((with_reducible refine gW ?_);refine gF 25 (some 7) rfl ?_;refine gT Tryz.func25 (KHi _ _ _ _ _ _ (sC aH.out) aZ.out A2.out) ?_;rintro b1 w3 ⟨aS,hb⟩;have aI:=rL aS HB;replace HB:=hB HB hb;(try clear hb);(try clear aS);obtain⟨a_,aY,rfl⟩:=Kd.JB aI.out))
 go_loopg [3,9] k (fun kq v3 v9 w' =>∃(a6:Int) (a0:Int),v3= .int .i64 a6∧v9= .int .i64 a0∧Aside0 (rO kq l0 a6 a5 (a5.length:Int) a0=some r)∧Aside0 (kq≤k)∧Aside0 (Kd.R Kd.bool 4 w' w.heap.size (fun _=>True) (.slice a_ a5.length aY) a5)∧Aside0 (Below w.heap.size w w'))
 case atStart=>exact⟨0,0,rfl,rfl,H,⟨Nat.le_refl _⟩,⟨sR<|aI.out⟩,⟨sW HB.out⟩⟩
 clear H
 obtain⟨a6,a0,rfl,rfl,HA,aJ,a4,HB⟩:=hrel
 cases gk with
 | zero=>cases HA.out
 | succ k1 =>
  obtain⟨H⟩:=HA
  simp only[rO]at H
  replace H:=iD H;rcases H with⟨aX,H⟩|⟨aX,H⟩
  rotate_left
  ·obtain rfl:=oI H
   go_wp2
   go_ret
   exact⟨rfl,sW HB.out⟩
  replace H:=iN H;obtain⟨b6,H⟩:=H
  replace H:=iN H;obtain⟨b5,H⟩:=H
  generalize hbq8:wH false a5 a0=b7 at H
  have aE:=am hbq8.symm;clear hbq8
  replace H:=iB H;rcases H with⟨rfl,H⟩|⟨rfl,H⟩
  rotate_left
  ·replace H:=am H
   have a2:0≤(a0:Int):=oD (by assumption)
   have a1:a0<(a5.length:Int):=oD (by assumption)
   obtain⟨aG,a7,a3⟩:=Kd.JJ (Kd.JA a4.out).2.2 a0 a2 a1
   (try rw[← aE.out]at a3)
   cases a7
   replace a2:=eq_true a2
   replace a1:=eq_true a1
   go_wp2
   exact c4n
  replace H:=iN H;obtain⟨b0,H⟩:=H
  replace H:=oA H;obtain⟨b2,aT,H⟩:=H
  replace H:=iB H;rcases H with⟨rfl,H⟩|⟨rfl,H⟩
  ·replace H:=am H
   have a2:0≤(a0:Int):=oD (by assumption)
   have a1:a0<(a5.length:Int):=oD (by assumption)
   obtain⟨aG,a7,a3⟩:=Kd.JJ (Kd.JA a4.out).2.2 a0 a2 a1
   (try rw[← aE.out]at a3)
   cases a7
   replace a2:=eq_true a2
   replace a1:=eq_true a1
   obtain⟨aV,aU,aF,rfl,aQ,aO,aN,aM,aL,aK⟩:=ix (pE (Kd.JE aH.out HB.out) a0)
   go_wp2_with ((go_at_call 36;refine(JJi _ _ aT.out).mono ?_;rintro e w13 ⟨rfl,hb⟩;replace a4:=rB a4 hb;replace HB:=hB HB hb;(try clear hb);obtain⟨b4,b3,aR,aW,aD,aC,aB,aA,a9,a8⟩:=ix (pE aH.out a0);obtain rfl:aF=aR:=(by injection aW);replace aD:=kC HB.out aD;replace aC:=kC HB.out aC;replace aB:=kC HB.out aB;replace aA:=kC HB.out aA;replace a9:=kC HB.out a9;replace a8:=kC HB.out a8))
   go_roundg k1
   case measure=>have:=aJ.out;omega
   case rel=>exact⟨(wrap64 (a6+((kA l0 a0).f4))),(wrap64 (a0+1)),rfl,rfl,H,⟨by have:=aJ.out;omega⟩,⟨sR<|a4.out⟩,⟨sW HB.out⟩⟩
  replace H:=am H
  have a2:0≤(a0:Int):=oD (by assumption)
  have a1:a0<(a5.length:Int):=oD (by assumption)
  obtain⟨aG,a7,a3⟩:=Kd.JJ (Kd.JA a4.out).2.2 a0 a2 a1
  (try rw[← aE.out]at a3)
  cases a7
  replace a2:=eq_true a2
  replace a1:=eq_true a1
  obtain⟨aV,aU,aF,rfl,aQ,aO,aN,aM,aL,aK⟩:=ix (pE (Kd.JE aH.out HB.out) a0)
  go_wp2_with ((go_at_call 36;refine(JJi _ _ aT.out).mono ?_;rintro e w14 ⟨rfl,hb⟩;replace a4:=rB a4 hb;replace HB:=hB HB hb;(try clear hb)))
  exact c4n
end Go.Proofs.YtkpipmojkhikaaaGreat.PAll
