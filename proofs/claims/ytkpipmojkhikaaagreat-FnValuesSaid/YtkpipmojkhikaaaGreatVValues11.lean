/- Go functions as Lean functions: a call comes to what they say. -/
import Derived.Test.YtkpipmojkhikaaaGreatVValues8
namespace Go.Proofs.YtkpipmojkhikaaaGreat.PAll
open Go.RowKit Go.A_ Go.B_ Go.C_ Go.D_
attribute [local go_sem] rF rC tE tD qK qJ rD rA
set_option linter.unusedVariables false
set_option maxHeartbeats 8000000
set_option maxRecDepth 100000
set_option linter.unusedSimpArgs false
section
attribute [local go_sem high] d1s
@[reducible] def d5f:Array Bool:= #[false,false,false,false,false,false,false,false]
@[reducible] def d5b:Array Bool:= #[true,false,false,false,false,false,false,false]
@[reducible] def d4x:Array Bool:= #[true,false,true,false,false,false,false,false]
@[reducible] def d4t:Array Bool:= #[true,true,true,false,false,false,false,false]
@[reducible] def d4p:Array Bool:= #[true,true,true,false,true,false,false,false]
@[reducible] def d4l:Array Bool:= #[true,true,true,true,true,false,false,false]
@[reducible] def d4h:Array Bool:= #[true,true,true,true,true,true,false,false]
@[reducible] def d4d:Array Bool:= #[true,true,true,true,true,true,true,false]
@[reducible] def d3z:Array Bool:= #[true,true,true,true,true,true,true,true]
@[reducible] def d3t:Array Bool:= #[false,false,false,false,false,false,false,false,false,false,false,false]
@[reducible] def c9x:Array Bool:= #[true,false,false,false,false,false,false,false,false,false,false,false]
@[reducible] def c9t:Array Bool:= #[true,false,true,false,false,false,false,false,false,false,false,false]
@[reducible] def c9p:Array Bool:= #[true,false,true,false,true,false,false,false,false,false,false,false]
@[reducible] def c9l:Array Bool:= #[true,true,true,false,true,false,false,false,false,false,false,false]
@[reducible] def c9j:Array Bool:= #[true,true,true,false,true,false,true,false,false,false,false,false]
@[reducible] def c9i:Array Bool:= #[true,true,true,true,true,false,true,false,false,false,false,false]
@[reducible] def c9g:Array Bool:= #[true,true,true,true,true,true,true,false,false,false,false,false]
@[reducible] def c9d:Array Bool:= #[true,true,true,true,true,true,true,true,false,false,false,false]
@[reducible] def c9a:Array Bool:= #[true,true,true,true,true,true,true,true,true,false,false,false]
@[reducible] def c8y:Array Bool:= #[true,true,true,true,true,true,true,true,true,true,false,false]
@[reducible] def c8w:Array Bool:= #[true,true,true,true,true,true,true,true,true,true,true,false]
@[reducible] def c8u:Array Bool:= #[true,true,true,true,true,true,true,true,true,true,true,true]
def wT:Nat→Int→Bool→Int→Int→Int→Int→Int→Int→Int→Int→Int→Int→Int→Int→Option (Bool)
 | 0,_,_,_,_,_,_,_,_,_,_,_,_,_,_=>none
 | k+1,x4,aD,a0,a1,a7,aA,a6,a4,a3,a2,a9,aB,a8,a5=>if aD=true then(some (a0==a3&&(a1==a2&&(aA==aB&&(a6==a8&&(a4==a5))))))else(if a0=17 then(some (a0==a3&&(a1==a2&&(a6==a8&&(a4==a5)))))else((rK a0 a1 a7 aA a6 a4).bind fun aC=>(if aC=true then(some (a0==a3&&(a1==a2&&(a4==a5))))else(if x4>0 then(if x4>1 then(if x4>2 then(some (a0==a3&&(a1==a2&&(a7==a9))))else(some (a0==a3&&(a1==a2&&(a7==a9&&(a4==a5))))))else(if x4>2 then(some (a0==a3&&(a1==a2&&(a7==a9&&(a6==a8)))))else(some (a0==a3&&(a1==a2&&(a7==a9&&(a6==a8&&(a4==a5))))))))else(some (a0==a3&&(a1==a2&&(a7==a9&&(aA==aB&&(a6==a8&&(a4==a5)))))))))))
def zF(k:Nat)(a0:Int)(a1:Int)(a5:Int)(a4:Int)(a3:Int)(a2:Int):Option (Bool):=(wI k a0 a1 a5 a4 a3 a2).bind fun a6=>(if a0=0 then(wT k (a6.length:Int) true a0 a1 a5 a4 a3 a2 a0 a1 0 0 0 0)else(wT k (a6.length:Int) (a0==1) a0 a1 a5 a4 a3 a2 a0 a1 0 0 0 0))
def a2z:Bool×List (List Nat×List Nat):=(true,[([],[]),([0],[0]),([],[]),([2],[2]),([0,1],[]),([4,1,0,1],[1,4]),([0,1,2,3,4,5],[]),([6,3,5,0,1,2,3,4,5],[3,6])])
def a6k:List Nat:=[0,1,0,4,3,19,63,127]
theorem a5c:a4f .any (a7z Tryz.f57 6)=a2z:=by kernel_rfl
theorem a4j:yL a2z.2 a6k=true:=by kernel_rfl
def a2y:Bool×List (List Nat×List Nat):=(true,[([],[]),([0],[0]),([],[]),([2],[2]),([],[]),([4],[4]),([0,1],[]),([6,1,0,1],[1,6]),([0,1,2,3,6,7],[]),([8,3,7,0,1,2,3,6,7],[3,8]),([0,1,2,3,4,5,6,7,8,9],[]),([10,5,9,0,1,2,3,4,5,6,7,8,9],[5,10])])
def a6j:List Nat:=[0,1,0,4,0,16,3,67,207,463,1023,2047]
theorem a5b:a4f .any (a7z Tryz.f57 8)=a2y:=by kernel_rfl
theorem a4i:yL a2y.2 a6j=true:=by kernel_rfl
theorem b1z{P:Prop}(h:P:=by
 have bG:=cf6 a1.out
 go_wp2_with (((with_reducible refine gW ?_);refine gF 36 (some 37) rfl ?_;refine gS Tryz.func36 (JJi _ _ b7.out) ?_;rintro bF hb;replace a1:=gB a1 hb;replace a3:=gB a3 hb;replace HB:=hX hb;(try clear hb);have bR:=cf6 a1.out;have bQ:=cf6 a3.out))
 go_ret
 exact⟨rfl,bW⟩):P:=h
theorem c5o{P:Prop}(h:P:=by
 refine b0v (w1:=?_) (by rfl) rfl ?_ ?_
 rotate_left
 ·go_simp
  rfl
 refine hK.out _ _ ⟨((qC (p:=⟨a2,_,none⟩) a0.out _).trans (hHeld.1)),((qC (p:=⟨a2,_,none⟩) a0.out _).trans (hHeld.2.1)),((qC (p:=⟨a2,_,none⟩) a0.out _).trans (hHeld.2.2.1)),((qC (p:=⟨a2,_,none⟩) a0.out _).trans (hHeld.2.2.2.1)),((qC (p:=⟨a2,_,none⟩) a0.out _).trans (hHeld.2.2.2.2.1)),((qC (p:=⟨a2,_,none⟩) a0.out _).trans (hHeld.2.2.2.2.2))⟩ (fun hHeld=>?_)
 clear hK K
 refine a1s (a2u HT_.out (by kernel_rfl)) ?_
 have bG:=cf6 a1.out
 have bF:=cf6 a3.out
 try go_wp2
 go_ret
 exact⟨by(simp[c1k,c1j]<;>rfl),bW⟩):P:=h
theorem b1v{P:Prop}(h:P:=by
 simp only[Act.put,List.setIfInBounds_toArray,List.set_cons_zero,List.set_cons_succ,vB,a3w]
 rfl):P:=h
theorem KRi(k:Nat)(a7 a8 aC aB aA a9:Int)(r:Bool)(w:World)(h:zF k a7 a8 aC aB aA a9=some r) :
  Calls Tryz.prog 57 #[.agg #[.int .i64 a7,.int .i64 a8,.int .i64 aC,.int .i64 aB,.int .i64 aA,.int .i64 a9]] w fun e w'=>e= .returned (.bool r)∧Below w.heap.size w w':=by
 have hu31:=Tryz.underlying33
 have HB:=am (Below.refl w.heap.size w)
 have H:=h
 clear h
 unfold zF at H
 replace H:=oA H;obtain⟨a6,A2,H⟩:=H
 have aQ:=am H;clear H
 go_enter Tryz.func57,Tryz.ntmps57
 go_upto_region 3 with(((with_reducible refine gW ?_);first|((with_reducible refine pU (N:=1) rfl ?_);refine wG ?hg (N:=1) ?hd (cs:= #[.int .i64 a7,.int .i64 a8,.int .i64 aC,.int .i64 aB,.int .i64 aA,.int .i64 a9]) (t:=33) ?hr ?_;(case hd=>rfl);(case hg=>rfl);(case hr=>first|(go_simp;done)|(go_simp;rfl));intro a5 hg w4 hbox hb;have aG:=am (zP (by exact sW HB.out) hb);have aF:=am (hbox);have aE:=gw hg;have aD:=gw hg;clear HB;have HB:=aG;have a1:=aF;have bJ:=aE;have bL:=aD;clear aG aF aE aD;clear hb hbox hg;have aO:=cf6 a1.out)|((with_reducible refine pU (N:=3) rfl ?_);refine wG ?hg (N:=3) ?hd (cs:= #[.int .i64 0,.int .i64 0,.int .i64 0,.int .i64 0,.int .i64 0,.int .i64 0]) (t:=33) ?hr ?_;(case hd=>rfl);(case hg=>rfl);(case hr=>first|(go_simp;done)|(go_simp;rfl));intro a2 hg w6 hbox hb;have aG:=am (kJ (g:=a5) (o:= .cells #[.int .i64 a7,.int .i64 a8,.int .i64 aC,.int .i64 aB,.int .i64 aA,.int .i64 a9] 33 (0,0)) (by exact sB<|a1.out) hb);have aF:=hX hb;have aE:=am (hbox);have aD:=gw hg;have b5:=gw hg;have b4:=am ((by rw[hg];exact Nat.ne_of_lt (vD (g:=a5) (o:= .cells #[.int .i64 a7,.int .i64 a8,.int .i64 aC,.int .i64 aB,.int .i64 aA,.int .i64 a9] 33 (0,0)) (by exact sB<|a1.out)):a5≠a2));have b3:=am ((by rw[hg];exact Nat.ne_of_gt (vD (g:=a5) (o:= .cells #[.int .i64 a7,.int .i64 a8,.int .i64 aC,.int .i64 aB,.int .i64 aA,.int .i64 a9] 33 (0,0)) (by exact sB<|a1.out)):a2≠a5));clear a1;clear HB;have a1:=aG;have HB:=aF;have a3:=aE;have bI:=aD;have bK:=b5;have a0:=b4;have a4:=b3;clear aG aF aE aD b5 b4 b3;clear hb hbox hg;have hnb7:=a4.out;have hnc7:=a0.out;have aN:=cf6 a3.out;have aM:=cf6 a1.out)|(refine gF 40 (some 11) rfl ?_;refine gT Tryz.func40 (JIi _ _ _ _ _ _ _ _ _ A2.out) ?_;rintro bM w10 ⟨b6,hb⟩;have aG:=am (Kd.JF b6 (kG (by exact bW)));have aF:=am (kJ (g:=a5) (o:= .cells #[.int .i64 a7,.int .i64 a8,.int .i64 aC,.int .i64 aB,.int .i64 aA,.int .i64 a9] 33 (0,0)) (by(with_reducible repeat(first|refine pR ?_ _|refine kW ?_|refine oZ ?_ _));refine uH ?_ a0.out _;(with_reducible repeat(first|refine pR ?_ _|refine kW ?_|refine oZ ?_ _));refine uH ?_ a0.out _;(with_reducible repeat(first|refine pR ?_ _|refine kW ?_|refine oZ ?_ _));refine uH ?_ a0.out _;(with_reducible repeat(first|refine pR ?_ _|refine kW ?_|refine oZ ?_ _));refine uH ?_ a0.out _;(with_reducible repeat(first|refine pR ?_ _|refine kW ?_|refine oZ ?_ _));refine uH ?_ a0.out _;(with_reducible repeat(first|refine pR ?_ _|refine kW ?_|refine oZ ?_ _));refine uH ?_ a0.out _;exact sB<|a1.out) hb);have aE:=am (kJ (by exact sB<|pn (by exact sB<|a3.out)) hb);have aD:=hX hb;clear a1;clear a3;clear HB;have b2:=aG;have a1:=aF;have a3:=aE;have HB:=aD;clear aG aF aE aD;obtain⟨bP,bO,rfl⟩:=Kd.JB b2.out)));clear hb b6
 (try simp only[Act.put,List.setIfInBounds_toArray,List.set_cons_zero,List.set_cons_succ])
 go_cut [13] (fun bH wc =>∃(kq:Nat) (aL:Bool),bH= .bool aL∧Aside0 (wT kq (a6.length:Int) aL a7 a8 aC aB aA a9 a7 a8 0 0 0 0=some r)∧Aside0 (kq≤k)∧Aside0 (wc.heap[a5]? = some (.cells #[.int .i64 a7,.int .i64 a8,.int .i64 aC,.int .i64 aB,.int .i64 aA,.int .i64 a9] 33 (0,0)))∧Aside0 (wc.heap[a2]? = some (.cells #[.int .i64 a7,.int .i64 a8,.int .i64 0,.int .i64 0,.int .i64 0,.int .i64 0] 33 (0,0)))∧Aside0 (Below w.heap.size w wc))
 case first =>
  have H:=aQ.out
  clear aQ
  replace H:=iE H;rcases H with⟨b1,b0,H⟩|⟨b1,b0,H⟩
  ·replace H:=am H
   have hnb13:=a0.out
   have hnc13:=a4.out
   have bE:=cf6 a1.out
   go_wp2
   go_meet
   case rel=>exact⟨_,true,rfl,H,⟨oM⟩,⟨sB<|a1.out⟩,⟨sB<|a3.out⟩,⟨bW⟩⟩
  replace H:=am H
  have hnb15:=a0.out
  have hnc15:=a4.out
  have bD:=cf6 a1.out
  go_wp2
  go_meet
  case rel=>exact⟨_,((a7==1)),rfl,H,⟨oM⟩,⟨sB<|a1.out⟩,⟨sB<|a3.out⟩,⟨bW⟩⟩
 clear aQ
 clear aO aN aM
 obtain⟨kq,aL,rfl,HA,bT,a1,a3,HB⟩:=hcut
 cases kq with
 | zero=>cases HA.out
 | succ bS =>
  obtain⟨H⟩:=HA
  simp only[wT]at H
  replace H:=iB H;rcases H with⟨rfl,H⟩|⟨rfl,H⟩
  ·obtain rfl:=oI H
   have hnb18:=a0.out
   have hnc18:=a4.out
   have bC:=cf6 a1.out
   have bB:=cf6 a3.out
   go_wp2
   go_ret
   exact⟨rfl,bW⟩
  replace H:=iE H;rcases H with⟨a_,aZ,H⟩|⟨a_,aZ,H⟩
  ·obtain rfl:=oI H
   have hnb22:=a0.out
   have hnc22:=a4.out
   have bA:=cf6 a1.out
   try go_wp2
   replace a1:=am (kW a1.out)
   replace a3:=am (kW a3.out)
   replace HB:=am (kQ HB.out)
   refine vC (n:=8) (S:=fun w'=>w'.cell? ⟨a5,0,none⟩=some (.int .i64 a7)∧w'.cell? ⟨a5,1,none⟩=some (.int .i64 a8)∧w'.cell? ⟨a5,2,none⟩=some (.int .i64 aC)∧w'.cell? ⟨a5,3,none⟩=some (.int .i64 aB)∧w'.cell? ⟨a5,4,none⟩=some (.int .i64 aA)∧w'.cell? ⟨a5,5,none⟩=some (.int .i64 a9)) (ds:=[]) d5f (by kernel_rfl) rfl rfl (cz6 a1.out) (fun hHeld=>?_);refine uR a5c a4j (fun HT_ HW_=>?_)
   generalize wc.drew=w24 at a1 a3 HB hHeld ⊢
   refine pT (i:=0) (N:=some 29) d5b ?_
   refine pT (i:=2) (N:=some 31) d4x ?_
   refine qY (i:=1) (N:=some 30) (v:=?_) (a':=?_) d4t rfl rfl (pM HT_.out HW_.out (by kernel_rfl)) (fun _ _ _ h=>h) (Or.inl ⟨by rfl,?_⟩) hHeld ?_ ?_
   rotate_left
   ·rintro w' ⟨s0,s1,s2,s3,s4,s5⟩
    go_simp
    with_reducible rfl
   rotate_left
   ·exact b1v
   refine pT (i:=4) (N:=some 33) d4p ?_
   refine qY (i:=3) (N:=some 32) (v:=?_) (a':=?_) d4l rfl rfl (pM HT_.out HW_.out (by kernel_rfl)) (fun _ _ _ h=>h) (Or.inl ⟨by rfl,?_⟩) hHeld ?_ ?_
   rotate_left
   ·rintro w' ⟨s0,s1,s2,s3,s4,s5⟩
    go_simp
    with_reducible rfl
   rotate_left
   ·exact b1v
   refine a1t (i:=5) (N:=none) d4h rfl rfl (yR HT_.out (by kernel_rfl)) (by decide) (fun K hK=>?_)
   have hs25:w24.cell? ⟨a2,2,none⟩=some (.int .i64 0):=(kE a3.out 2).trans rfl
   have hfs25:=kF a3.out 2
   have hns25_0:=a0.out
   have hms25_0:=a4.out
   refine b0v (w1:=?_) (by rfl) rfl ?_ ?_
   rotate_left
   ·go_simp
    rfl
   refine hK.out _ _ ⟨((qC (p:=⟨a2,_,none⟩) a0.out _).trans (hHeld.1)),((qC (p:=⟨a2,_,none⟩) a0.out _).trans (hHeld.2.1)),((qC (p:=⟨a2,_,none⟩) a0.out _).trans (hHeld.2.2.1)),((qC (p:=⟨a2,_,none⟩) a0.out _).trans (hHeld.2.2.2.1)),((qC (p:=⟨a2,_,none⟩) a0.out _).trans (hHeld.2.2.2.2.1)),((qC (p:=⟨a2,_,none⟩) a0.out _).trans (hHeld.2.2.2.2.2))⟩ (fun hHeld=>?_)
   clear hK K
   refine pT (i:=6) (N:=some 34) d4d ?_
   refine a1t (i:=7) (N:=none) d3z rfl rfl (yR HT_.out (by kernel_rfl)) (by decide) (fun K hK=>?_)
   have hs26:w24.cell? ⟨a2,3,none⟩=some (.int .i64 0):=(kE a3.out 3).trans rfl
   have hfs26:=kF a3.out 3
   have hns26_0:=a0.out
   have hms26_0:=a4.out
   exact c5o
  replace H:=oA H;obtain⟨bN,b7,H⟩:=H
  replace H:=iB H;rcases H with⟨rfl,H⟩|⟨rfl,H⟩
  ·obtain rfl:=oI H
   have hnb31:=a0.out
   have hnc31:=a4.out
   have b9:=cf6 a1.out
   try go_wp2_with (((with_reducible refine gW ?_);refine gF 36 (some 37) rfl ?_;refine gS Tryz.func36 (JJi _ _ b7.out) ?_;rintro w33 hb;replace a1:=gB a1 hb;replace a3:=gB a3 hb;replace HB:=hX hb;(try clear hb)))
   replace a1:=am (kW a1.out)
   replace a3:=am (kW a3.out)
   replace HB:=am (kQ HB.out)
   refine vC (n:=12) (S:=fun w'=>w'.cell? ⟨a5,0,none⟩=some (.int .i64 a7)∧w'.cell? ⟨a5,1,none⟩=some (.int .i64 a8)∧w'.cell? ⟨a5,2,none⟩=some (.int .i64 aC)∧w'.cell? ⟨a5,3,none⟩=some (.int .i64 aB)∧w'.cell? ⟨a5,4,none⟩=some (.int .i64 aA)∧w'.cell? ⟨a5,5,none⟩=some (.int .i64 a9)) (ds:=[]) d3t (by kernel_rfl) rfl rfl (cz6 a1.out) (fun hHeld=>?_);refine uR a5b a4i (fun HT_ HW_=>?_)
   generalize w33.drew=w34 at a1 a3 HB hHeld ⊢
   refine pT (i:=0) (N:=some 38) c9x ?_
   refine pT (i:=2) (N:=some 40) c9t ?_
   refine pT (i:=4) (N:=some 42) c9p ?_
   refine qY (i:=1) (N:=some 39) (v:=?_) (a':=?_) c9l rfl rfl (pM HT_.out HW_.out (by kernel_rfl)) (fun _ _ _ h=>h) (Or.inl ⟨by rfl,?_⟩) hHeld ?_ ?_
   rotate_left
   ·rintro w' ⟨s0,s1,s2,s3,s4,s5⟩
    go_simp
    with_reducible rfl
   rotate_left
   ·exact b1v
   refine pT (i:=6) (N:=some 44) c9j ?_
   refine qY (i:=3) (N:=some 41) (v:=?_) (a':=?_) c9i rfl rfl (pM HT_.out HW_.out (by kernel_rfl)) (fun _ _ _ h=>h) (Or.inl ⟨by rfl,?_⟩) hHeld ?_ ?_
   rotate_left
   ·rintro w' ⟨s0,s1,s2,s3,s4,s5⟩
    go_simp
    with_reducible rfl
   rotate_left
   ·exact b1v
   refine qY (i:=5) (N:=some 43) (v:=?_) (a':=?_) c9g rfl rfl (pM HT_.out HW_.out (by kernel_rfl)) (fun _ _ _ h=>h) (Or.inl ⟨by rfl,?_⟩) hHeld ?_ ?_
   rotate_left
   ·rintro w' ⟨s0,s1,s2,s3,s4,s5⟩
    go_simp
    with_reducible rfl
   rotate_left
   ·exact b1v
   refine a1t (i:=7) (N:=none) c9d rfl rfl (yR HT_.out (by kernel_rfl)) (by decide) (fun K hK=>?_)
   have hs35:w34.cell? ⟨a2,2,none⟩=some (.int .i64 0):=(kE a3.out 2).trans rfl
   have hfs35:=kF a3.out 2
   have hns35_0:=a0.out
   have hms35_0:=a4.out
   refine b0v (w1:=?_) (by rfl) rfl ?_ ?_
   rotate_left
   ·go_simp
    rfl
   refine hK.out _ _ ⟨((qC (p:=⟨a2,_,none⟩) a0.out _).trans (hHeld.1)),((qC (p:=⟨a2,_,none⟩) a0.out _).trans (hHeld.2.1)),((qC (p:=⟨a2,_,none⟩) a0.out _).trans (hHeld.2.2.1)),((qC (p:=⟨a2,_,none⟩) a0.out _).trans (hHeld.2.2.2.1)),((qC (p:=⟨a2,_,none⟩) a0.out _).trans (hHeld.2.2.2.2.1)),((qC (p:=⟨a2,_,none⟩) a0.out _).trans (hHeld.2.2.2.2.2))⟩ (fun hHeld=>?_)
   clear hK K
   refine pT (i:=8) (N:=some 45) c9a ?_
   refine a1t (i:=9) (N:=none) c8y rfl rfl (yR HT_.out (by kernel_rfl)) (by decide) (fun K hK=>?_)
   have hs36:w34.cell? ⟨a2,3,none⟩=some (.int .i64 0):=(kE a3.out 3).trans rfl
   have hfs36:=kF a3.out 3
   have hns36_0:=a0.out
   have hms36_0:=a4.out
   refine b0v (w1:=?_) (by rfl) rfl ?_ ?_
   rotate_left
   ·go_simp
    rfl
   refine hK.out _ _ ⟨((qC (p:=⟨a2,_,none⟩) a0.out _).trans (hHeld.1)),((qC (p:=⟨a2,_,none⟩) a0.out _).trans (hHeld.2.1)),((qC (p:=⟨a2,_,none⟩) a0.out _).trans (hHeld.2.2.1)),((qC (p:=⟨a2,_,none⟩) a0.out _).trans (hHeld.2.2.2.1)),((qC (p:=⟨a2,_,none⟩) a0.out _).trans (hHeld.2.2.2.2.1)),((qC (p:=⟨a2,_,none⟩) a0.out _).trans (hHeld.2.2.2.2.2))⟩ (fun hHeld=>?_)
   clear hK K
   refine pT (i:=10) (N:=some 46) c8w ?_
   refine a1t (i:=11) (N:=none) c8u rfl rfl (yR HT_.out (by kernel_rfl)) (by decide) (fun K hK=>?_)
   have hs37:w34.cell? ⟨a2,4,none⟩=some (.int .i64 0):=(kE a3.out 4).trans rfl
   have hfs37:=kF a3.out 4
   have hns37_0:=a0.out
   have hms37_0:=a4.out
   exact c5o
  by_cases aK:(a6.length:Int)>0
  rotate_left
  ·rw[if_neg aK]at H
   have aY:decide (0<(a6.length:Int))=false:=decide_eq_false aK
   have aX:decide (0<a6.length)=false:=decide_eq_false oM
   have b8 :¬0<a6.length:=by omega
   clear aK
   obtain rfl:=oI H
   have hnb64:=a0.out
   have hnc64:=a4.out
   exact b1z
  rw[if_pos aK]at H
  have aY:decide (0<(a6.length:Int))=true:=decide_eq_true aK
  have aX:decide (0<a6.length)=true:=decide_eq_true oM
  have b8:0<a6.length:=by omega
  clear aK
  by_cases aJ:(a6.length:Int)>1
  ·rw[if_pos aJ]at H
   have aW:decide (1<(a6.length:Int))=true:=decide_eq_true aJ
   have aV:decide (1<a6.length)=true:=decide_eq_true oM
   clear aJ
   by_cases aI:(a6.length:Int)>2
   ·rw[if_pos aI]at H
    have aU:decide (2<(a6.length:Int))=true:=decide_eq_true aI
    have aT:decide (2<a6.length)=true:=decide_eq_true oM
    clear aI
    obtain rfl:=oI H
    have hnb43:=a0.out
    have hnc43:=a4.out
    exact b1z
   rw[if_neg aI]at H
   have aU:decide (2<(a6.length:Int))=false:=decide_eq_false aI
   have aT:decide (2<a6.length)=false:=decide_eq_false oM
   clear aI
   obtain rfl:=oI H
   have hnb48:=a0.out
   have hnc48:=a4.out
   exact b1z
  rw[if_neg aJ]at H
  have aW:decide (1<(a6.length:Int))=false:=decide_eq_false aJ
  have aV:decide (1<a6.length)=false:=decide_eq_false oM
  clear aJ
  by_cases aH:(a6.length:Int)>2
  ·rw[if_pos aH]at H
   have aS:decide (2<(a6.length:Int))=true:=decide_eq_true aH
   have aR:decide (2<a6.length)=true:=decide_eq_true oM
   clear aH
   obtain rfl:=oI H
   have hnb54:=a0.out
   have hnc54:=a4.out
   exact b1z
  rw[if_neg aH]at H
  have aS:decide (2<(a6.length:Int))=false:=decide_eq_false aH
  have aR:decide (2<a6.length)=false:=decide_eq_false oM
  clear aH
  obtain rfl:=oI H
  have hnb59:=a0.out
  have hnc59:=a4.out
  exact b1z
end
def a1o(a0:Int):Option (Bool):=(qE a0 0 7).bind fun a1=>(some a1)
theorem JKi{a0:Int}{r:Bool}{w:World}(h:a1o a0=some r) :
  Calls Tryz.prog 58 #[.int .i64 a0] w fun e w'=>e= .returned (.bool r)∧Drawn0 w w':=by
 have H:=h
 clear h
 unfold a1o at H
 replace H:=oA H;obtain⟨a1,A2,H⟩:=H
 obtain rfl:=oI H
 go_enter Tryz.func58,Tryz.ntmps58
 go_wp2_with (((with_reducible refine gW ?_);refine gD (some 4) Tryz.func28 rfl (JBi A2.out) fun nd=>?_))
 go_ret
 exact⟨rfl,dR⟩
def inB(x a b:Int):Bool:=decide (a≤x∧x≤b)
theorem wZ(x a b:Int):qE x a b=some (inB x a b):=by
 unfold qE inB
 by_cases h:x≥a
 ·rw[if_pos h];simp[h]
 ·rw[if_neg h];simp[h]
theorem a0v(x:Int):tP x=some (inB x 1 8):=by
 unfold tP;rw[wZ];rfl
theorem b5t(x:Int):a1o x=some (inB x 0 7):=by
 unfold a1o;rw[wZ];rfl
open Go.Proofs.YtkpipmojkhikaaaGreat.Base in
theorem yZ(w a:Int):rP w a=some (wok w a):=by
 unfold rP wok
 rw[a0v];simp only[Option.bind_some]
 by_cases h:1≤w∧w≤8
 ·have hp:=rM (by omega:0≤w) h.2
  rw[if_pos (by simp[inB,h]),if_pos (wU w),a1u oM oM,a4e oM h.2,wZ,kU oM oM]
  simp[inB,h]
 ·rw[if_neg (by simp[inB];omega)];simp;omega
def kL(op a b c:Int):List Int:=if op=2∨op=17∨op=19∨op=20 then [a]else if 3≤op∧op≤16 then [a,b]else if op=18 then [a,b,c]else []
theorem qF(op a b c:Int):(kL op a b c).length≤3:=by
 unfold kL;split<;>(try split)<;>(try split)<;>simp
theorem a6a(op w q a b c:Int){k:Nat}(hk:1≤k):wI k op w q a b c=some (kL op a b c):=by
 obtain⟨k,rfl⟩ :∃m,k=m+1:=⟨k-1,oM⟩
 unfold wI kL rK
 simp only[yA,wZ,inB]
 by_cases h2:op=2
 ·subst h2;simp
 ·by_cases a3:op=17
  ·subst a3;simp
  ·by_cases a2:op=19
   ·subst a2;simp
   ·by_cases a1:op=20
    ·subst a1;simp
    ·have hq :¬(op=2∨op=17∨op=19∨op=20):=by omega
     rw[if_neg h2,if_neg a3,if_neg a2,if_neg hq]
     simp only[Option.bind_some,decide_eq_true_eq]
     rw[if_neg (by simpa using a1)]
     by_cases h3:3≤op∧op≤16
     ·rw[if_pos h3,if_pos h3]
     ·rw[if_neg h3,if_neg h3]
      by_cases a0:op=18
      ·rw[if_pos a0,if_pos a0]
      ·rw[if_neg a0,if_neg a0]
def xE(op K A B C:Int):Bool :=
 if op=0∨op=1 then A==0&&B==0&&C==0 else if op=17 then B==0&&C==0 else if op=19∨op=20 then C==0
 else if op=2 then K==0&&B==0&&C==0 else if 3≤op∧op≤16 then K==0&&C==0 else if op=18 then K==0 else K==0&&A==0&&B==0&&C==0
theorem d5k(op W K A B C:Int){k:Nat}(hk:3≤k):zF k op W K A B C=some (xE op K A B C):=by
 obtain⟨k,rfl⟩ :∃m,k=m+1:=⟨k-1,oM⟩
 unfold zF xE
 rw[a6a op W K A B C oM]
 simp only[Option.bind_some,wT]
 unfold rK kL
 by_cases h0:op=0
 ·subst h0;simp[Bool.and_assoc]
 by_cases h1:op=1
 ·subst h1;simp[Bool.and_assoc]
 by_cases a2:op=17
 ·subst a2;simp
 by_cases a1:op=19
 ·subst a1;simp
 by_cases a0:op=20
 ·subst a0;simp
 by_cases h2:op=2
 ·subst h2;simp[Bool.and_assoc]
 by_cases h3:3≤op∧op≤16
 ·have e :¬(op=2∨op=17∨op=19∨op=20):=by omega
  simp[h0,h1,a2,a1,a0,h2,h3]
 by_cases a3:op=18
 ·subst a3;simp
 ·simp[h0,h1,a2,a1,a0,h2,h3,a3,Bool.and_assoc]
theorem d8a{w:World}{g T:Nat}{a b c d e f:Int}(h:w.heap[g]? = some (.cells #[.int .i64 a,.int .i64 b,.int .i64 c,.int .i64 d,.int .i64 e,.int .i64 f] T (0,0))) :
  w.cell? ⟨g,0,none⟩=some (.int .i64 a)∧w.cell? ⟨g,1,none⟩=some (.int .i64 b)∧w.cell? ⟨g,2,none⟩=some (.int .i64 c)∧w.cell? ⟨g,3,none⟩=some (.int .i64 d)∧w.cell? ⟨g,4,none⟩=some (.int .i64 e)∧w.cell? ⟨g,5,none⟩=some (.int .i64 f) :=
 ⟨(kE h 0).trans rfl,(kE h 1).trans rfl,(kE h 2).trans rfl,(kE h 3).trans rfl,(kE h 4).trans rfl,(kE h 5).trans rfl⟩
theorem b1o{w w1:World}{o:Obj}{n:Nat}(hb:Below ((w.alloc o).drewN n).heap.size ((w.alloc o).drewN n) w1):w1.heap[w.heap.size]? = some o :=
 (hb.block _ (by simp)).trans (heap_alloc_new w o)
theorem c4b{w w1:World}{o:Obj}(hb:Below (w.alloc o).heap.size (w.alloc o) w1):w1.heap[w.heap.size]? = some o :=
 (hb.block _ (by simp)).trans (heap_alloc_new w o)
theorem c1x{w w1:World}{o o':Obj}{g:Nat}(h:w.heap[g]? = some o)(hb:Below (w.alloc o').heap.size (w.alloc o') w1):w1.heap[g]? = some o :=
 (hb.block _ (by have:=(Array.getElem?_eq_some_iff.1 h).1;simp;omega)).trans ((Below.heap_alloc w o' g (Array.getElem?_eq_some_iff.1 h).1).trans h)
theorem d9p{w:World}{g T:Nat}{a b c:Int}(h:w.heap[g]? = some (.cells #[.int .i64 a,.int .i64 b,.int .i64 c] T (0,0))) :
  w.cell? ⟨g,0,none⟩=some (.int .i64 a)∧w.cell? ⟨g,1,none⟩=some (.int .i64 b)∧w.cell? ⟨g,2,none⟩=some (.int .i64 c) :=
 ⟨(kE h 0).trans rfl,(kE h 1).trans rfl,(kE h 2).trans rfl⟩
def wv(l:List (S31))(ps:List Int)(j t:Nat):Int:=if t<j then(kA l (rd ps (t:Int))).f1 else 0
def pG(op W K B:Int)(u v x:Int):Bool :=
 if op=0 then Go.Proofs.YtkpipmojkhikaaaGreat.Base.wok W K else if op=1 then inB K 0 7 else if op=2 then u==W
 else if 3≤op∧op≤12 then u==W&&v==W else if 13≤op∧op≤15 then u==v&&W==1
 else if op=16 then wrap64 (u+v)==W else if op=17 then inB K 0 (wrap64 (u-W))
 else if op=18 then u==1&&v==W&&x==W else inB K 0 7&&inB B 1 8&&u==1&&W==1
def tG(l:List (S31))(op W K A B C:Int):Bool :=
 inB W 1 8&&inB op 0 20&&xE op K A B C&&(kL op A B C).all (fun p=>inB p 0 ((l.length:Int)-1)) &&
  pG op W K B (wv l (kL op A B C) (kL op A B C).length 0) (wv l (kL op A B C) (kL op A B C).length 1) (wv l (kL op A B C) (kL op A B C).length 2)
def zS(l0:List (S31))(a5:Int)(a4:Int)(a3:Int)(a2:Int)(a1:Int)(a0:Int):Option Bool:=some (tG l0 a5 a4 a3 a2 a1 a0)
theorem YEi(A0:Option Addr)(c0:Nat)(l0:List (S31))(a5 a0 a4 a3 a2 a1:Int)(w:World)(hr0:Kd.C k31 w A0 l0.length l0)(hc0:l0.length≤c0)(b1:inB a0 1 8=false) :
  Calls Tryz.prog 34 #[.slice A0 l0.length c0,.agg #[.int .i64 a5,.int .i64 a0,.int .i64 a4,.int .i64 a3,.int .i64 a2,.int .i64 a1]] w fun e w'=>e= .returned (.bool (false))∧Below w.heap.size w w':=by
 go_enter Tryz.func34,Tryz.ntmps34
 go_wp2_with (first|(go_at_call 27;refine cD (JFi (a0v _)) fun nd=>?_)|(go_at_call 28;refine cD (JBi (wZ _ _ _)) fun nd=>?_)|(go_at_call 58;refine cD (JKi (b5t _)) fun nd=>?_)|(go_at_call 9;refine cD (JDi _ _ _ _ (yZ _ _)) fun nd=>?_))
 go_ret
 exact⟨rfl,kM (kO (Below.refl _ _) _) _⟩
theorem YCi(A0:Option Addr)(c0:Nat)(l0:List (S31))(a1 a0 a5 a4 a3 a2:Int)(w:World)(hr0:Kd.C k31 w A0 l0.length l0)(hc0:l0.length≤c0)(b1:inB a0 1 8=true)(b2:inB a1 0 20=false) :
  Calls Tryz.prog 34 #[.slice A0 l0.length c0,.agg #[.int .i64 a1,.int .i64 a0,.int .i64 a5,.int .i64 a4,.int .i64 a3,.int .i64 a2]] w fun e w'=>e= .returned (.bool (false))∧Below w.heap.size w w':=by
 go_enter Tryz.func34,Tryz.ntmps34
 go_wp2_with (first|(go_at_call 27;refine cD (JFi (a0v _)) fun nd=>?_)|(go_at_call 28;refine cD (JBi (wZ _ _ _)) fun nd=>?_)|(go_at_call 58;refine cD (JKi (b5t _)) fun nd=>?_)|(go_at_call 9;refine cD (JDi _ _ _ _ (yZ _ _)) fun nd=>?_))
 go_ret
 exact⟨rfl,kM (kO (Below.refl _ _) _) _⟩
theorem YNi(A0:Option Addr)(c0:Nat)(l0:List (S31))(a0 a5 a4 a3 a2 a1:Int)(w:World)(hr0:Kd.C k31 w A0 l0.length l0)(hc0:l0.length≤c0)(b1:inB a5 1 8=true)(b2:inB a0 0 20=true)(b3:xE a0 a4 a3 a2 a1=false) :
  Calls Tryz.prog 34 #[.slice A0 l0.length c0,.agg #[.int .i64 a0,.int .i64 a5,.int .i64 a4,.int .i64 a3,.int .i64 a2,.int .i64 a1]] w fun e w'=>e= .returned (.bool (false))∧Below w.heap.size w w':=by
 go_enter Tryz.func34,Tryz.ntmps34
 go_wp2_with (first|(go_at_call 27;refine cD (JFi (a0v _)) fun nd=>?_)|(go_at_call 28;refine cD (JBi (wZ _ _ _)) fun nd=>?_)|(go_at_call 58;refine cD (JKi (b5t _)) fun nd=>?_)|(go_at_call 9;refine cD (JDi _ _ _ _ (yZ _ _)) fun nd=>?_)|(go_at_call 57;refine(KRi 3 _ _ _ _ _ _ _ _ (d5k _ _ _ _ _ _ oM)).mono ?_;rintro e w1 ⟨rfl,hb⟩;have BK:=am (b1o hb);have HB:=am (show Below w.heap.size w w1 from(kM (kO (Below.refl _ _) _) _).trans (hb.mono (by simp)));have hlt:=(Array.getElem?_eq_some_iff.1 BK.out).1;clear hb;obtain⟨q0,q1,q2,q3,q4,q5⟩:=d8a BK.out))
 go_ret
 exact⟨rfl,HB.out⟩
theorem b5l{P:Prop}(h:P:=by
 (go_wp2_with (first|(go_at_call 27;refine cD (JFi (a0v _)) fun nd=>?_)|(go_at_call 28;refine cD (JBi (wZ _ _ _)) fun nd=>?_)|(go_at_call 58;refine cD (JKi (b5t _)) fun nd=>?_)|(go_at_call 9;refine cD (JDi _ _ _ _ (yZ _ _)) fun nd=>?_));go_ret;exact⟨by rw[HR.out,E];((simp only[g1,Bool.true_and,Bool.false_and,Bool.and_true,Bool.and_false];rfl)),by exact kM HB.out _⟩)):P:=h
theorem b5j{P:Prop}(h:P:=by
 (go_wp2_with (first|(go_at_call 27;refine cD (JFi (a0v _)) fun nd=>?_)|(go_at_call 28;refine cD (JBi (wZ _ _ _)) fun nd=>?_)|(go_at_call 58;refine cD (JKi (b5t _)) fun nd=>?_)|(go_at_call 9;refine cD (JDi _ _ _ _ (yZ _ _)) fun nd=>?_));go_ret;exact⟨by rw[HR.out,E];(rfl),by exact kM HB.out _⟩)):P:=h
theorem c4r{P:Prop}(h:P:=by
 (go_wp2_with (first|(go_at_call 27;refine cD (JFi (a0v _)) fun nd=>?_)|(go_at_call 28;refine cD (JBi (wZ _ _ _)) fun nd=>?_)|(go_at_call 58;refine cD (JKi (b5t _)) fun nd=>?_)|(go_at_call 9;refine cD (JDi _ _ _ _ (yZ _ _)) fun nd=>?_));go_ret;exact⟨by rw[HR.out,E];((simp only[g3,g2,g1,Bool.true_and,Bool.false_and,Bool.and_true,Bool.and_false];rfl)),by exact kM HB.out _⟩)):P:=h
theorem c4o{P:Prop}(h:P:=by
 (go_wp2_with (first|(go_at_call 27;refine cD (JFi (a0v _)) fun nd=>?_)|(go_at_call 28;refine cD (JBi (wZ _ _ _)) fun nd=>?_)|(go_at_call 58;refine cD (JKi (b5t _)) fun nd=>?_)|(go_at_call 9;refine cD (JDi _ _ _ _ (yZ _ _)) fun nd=>?_));go_ret;exact⟨by rw[HR.out,E];((simp only[g2,g1,Bool.true_and,Bool.false_and,Bool.and_true,Bool.and_false];rfl)),by exact kM HB.out _⟩)):P:=h
theorem YXi(A0:Option Addr)(c0:Nat)(l0:List (S31))(a0 a2 a3 a5 a1 a4:Int)(w:World)(hr0:Kd.C k31 w A0 l0.length l0)(hc0:l0.length≤c0)(b1:inB a2 1 8=true)(b2:inB a0 0 20=true)(b3:xE a0 a3 a5 a1 a4=true)(r:Bool)
  (hno :¬(∀t:Nat,t<(kL a0 a5 a1 a4).length→inB (rd (kL a0 a5 a1 a4) (t:Int)) 0 ((l0.length:Int)-1)=true)→r=false)
  (hyes:(∀t:Nat,t<(kL a0 a5 a1 a4).length→inB (rd (kL a0 a5 a1 a4) (t:Int)) 0 ((l0.length:Int)-1)=true)→r=pG a0 a2 a3 a1 (wv l0 (kL a0 a5 a1 a4) (kL a0 a5 a1 a4).length 0) (wv l0 (kL a0 a5 a1 a4) (kL a0 a5 a1 a4).length 1) (wv l0 (kL a0 a5 a1 a4) (kL a0 a5 a1 a4).length 2)) :
  Calls Tryz.prog 34 #[.slice A0 l0.length c0,.agg #[.int .i64 a0,.int .i64 a2,.int .i64 a3,.int .i64 a5,.int .i64 a1,.int .i64 a4]] w fun e w'=>e= .returned (.bool (r))∧Below w.heap.size w w':=by
 have a7:=am hr0
 have aF:=am hc0
 clear hr0 hc0
 have hl0:(l0.length:Int)≤9223372036854775807:=by have:=a7.out.2.1;omega
 have HNO:=am hno
 have HYES:=am hyes
 clear hno hyes
 go_enter Tryz.func34,Tryz.ntmps34
 go_wp2_with (first|(go_at_call 27;refine cD (JFi (a0v _)) fun nd=>?_)|(go_at_call 28;refine cD (JBi (wZ _ _ _)) fun nd=>?_)|(go_at_call 58;refine cD (JKi (b5t _)) fun nd=>?_)|(go_at_call 9;refine cD (JDi _ _ _ _ (yZ _ _)) fun nd=>?_)|(go_at_call 57;refine(KRi 3 _ _ _ _ _ _ _ _ (d5k _ _ _ _ _ _ oM)).mono ?_;rintro e w1 ⟨rfl,hb⟩;have BK:=am (b1o hb);have HB:=am (show Below w.heap.size w w1 from(kM (kO (Below.refl _ _) _) _).trans (hb.mono (by simp)));have hlt:=(Array.getElem?_eq_some_iff.1 BK.out).1;clear hb;obtain⟨q0,q1,q2,q3,q4,q5⟩:=d8a BK.out))
 refine(JIi 1 _ _ _ _ _ _ _ _ (a6a _ _ _ _ _ _ oM)).mono ?_
 rintro e w2 ⟨v0,rfl,HO,hb⟩
 have a8:=am (c1x BK.out hb)
 have AR:=am (c4b hb)
 have HB2:=am ((HB.out.alloc HB.out.size _).trans (hb.mono (by have:=HB.out.size;simp;omega)))
 have aB:=am HB.out.size
 clear q0 q1 q2 q3 q4 q5 hb HB BK
 obtain⟨A5,c5,rfl,_,_⟩:=Kd.YL HO
 have a6:=am (show Kd.R (Kd.int .i64) 3 w2 (w1.heap.size+1) (fun k=>w1.heap.size+1≤k) (.slice A5 (kL a0 a5 a1 a4).length c5) (kL a0 a5 a1 a4)from
  Kd.JC (Kd.YB (Kd.JF HO (by simp))) (fun k hk=>hk.2.1))
 clear HO
 have hps3:=qF a0 a5 a1 a4
 obtain⟨ps,hps⟩ :∃ps,kL a0 a5 a1 a4=ps:=⟨_,rfl⟩
 rw[hps]at HNO HYES a6 hps3 ⊢
 clear hps
 have aC:=am hps3
 clear hps3
 go_wp2
 go_loopg [27] ps.length (fun g a9 w' =>∃j:Nat,a9= .int .i64 (j:Int)∧Aside0 (g+j=ps.length)∧Aside0 (∀t:Nat,t<j→inB (rd ps (t:Int)) 0 ((l0.length:Int)-1)=true)∧
  Aside0 (w'.heap[w1.heap.size]? = some (.cells #[.int .i64 (wv l0 ps j 0),.int .i64 (wv l0 ps j 1),.int .i64 (wv l0 ps j 2)] 68 (0,0)))∧
  Aside0 (w'.heap[w.heap.size]? = some (.cells #[.int .i64 a0,.int .i64 a2,.int .i64 a3,.int .i64 a5,.int .i64 a1,.int .i64 a4] 33 (0,0)))∧
  Aside0 (Kd.R (Kd.int .i64) 3 w' (w1.heap.size+1) (fun k=>w1.heap.size+1≤k) (.slice A5 ps.length c5) ps)∧Aside0 (Below w.heap.size w w'))
 case atStart=>exact⟨0,rfl,⟨rfl⟩,⟨fun t ht=>absurd ht oM⟩,AR,a8,a6,HB2⟩
 clear AR a8 a6 HB2
 obtain⟨j,rfl,HG,HA,AR,BK,HO,HB⟩:=hrel
 by_cases hj:j<ps.length
 ·have hj3:j<3:=by have:=aC.out;omega
  have p1:(0:Int)≤(j:Int):=by omega
  have p2:(j:Int)<(ps.length:Int):=by omega
  have t1:decide ((j:Int)<(ps.length:Int))=true:=decide_eq_true p2
  obtain⟨A6,c6,e6,_,hr6⟩:=Kd.YL HO.out
  cases e6
  obtain⟨aD,e5,aA⟩:=Kd.JD hr6 (j:Int) p1 p2
  cases e5
  rw[Int.toNat_natCast]at aA
  clear hr6
  by_cases hin:inB (rd ps (j:Int)) 0 ((l0.length:Int)-1)=true
  rotate_left
  ·have hin':inB (rd ps (j:Int)) 0 ((l0.length:Int)-1)=false:=by simpa using hin
   go_wp2_with (first|(go_at_call 27;refine cD (JFi (a0v _)) fun nd=>?_)|(go_at_call 28;refine cD (JBi (wZ _ _ _)) fun nd=>?_)|(go_at_call 58;refine cD (JKi (b5t _)) fun nd=>?_)|(go_at_call 9;refine cD (JDi _ _ _ _ (yZ _ _)) fun nd=>?_))
   go_ret
   exact⟨by rw[HNO.out (fun h=>hin (h j hj))]<;>rfl,kM HB.out _⟩
  have hi2:0≤rd ps (j:Int)∧rd ps (j:Int)≤(l0.length:Int)-1:=by simpa [inB]using hin
  have p3:0≤rd ps (j:Int):=hi2.1
  have p4:rd ps (j:Int)<(l0.length:Int):=by omega
  clear hi2
  obtain⟨aE,e0,y0,y1,y2,y3,y4,y5⟩:=pE a7.out (rd ps (j:Int)) p3 p4
  cases e0
  replace y1:=kC HB.out y1
  clear y0 y2 y3 y4 y5
  have fz:wr.frozen? ⟨w1.heap.size,j,none⟩=false:=by have h:=AR.out;simp[World.frozen?,h]
  have old :∃v,wr.cell? ⟨w1.heap.size,j,none⟩=some v:=by
   have h:=kE AR.out j
   have:j=0∨j=1∨j=2:=by omega
   rcases this with rfl|rfl|rfl<;>exact⟨_,h.trans rfl⟩
  obtain⟨ov,old⟩:=old
  go_wp2_with (first|(go_at_call 27;refine cD (JFi (a0v _)) fun nd=>?_)|(go_at_call 28;refine cD (JBi (wZ _ _ _)) fun nd=>?_)|(go_at_call 58;refine cD (JKi (b5t _)) fun nd=>?_)|(go_at_call 9;refine cD (JDi _ _ _ _ (yZ _ _)) fun nd=>?_))
  obtain⟨g1,rfl⟩ :∃g1,gk=g1+1:=⟨gk-1,by have:=HG.out;omega⟩
  go_roundg g1
  case measure=>omega
  case rel =>
   refine⟨j+1,by go_num,⟨by have:=HG.out;omega⟩,⟨fun t ht=>?_⟩,⟨?_⟩,⟨?_⟩,⟨?_⟩,⟨?_⟩⟩
   ·rcases Nat.lt_or_ge t j with h|h
    ·exact HA.out t h
    obtain rfl:t=j:=by omega
    exact hin
   ·have h:=tF (show(wr.drewN nd).heap[w1.heap.size]? = some (.cells _ _ (0,0))from AR.out) j (.int .i64 (kA l0 (rd ps (j:Int))).f1)
    refine h.trans ?_
    have:j=0∨j=1∨j=2:=by omega
    rcases this with rfl|rfl|rfl<;>simp[wv]
   ·exact uH (show(wr.drewN nd).heap[w.heap.size]? = some (.cells _ _ (0,0))from BK.out) (by simp;omega) _
   ·exact Kd.JT (Kd.R_drewN HO.out _) (fun k hk=>by simp;omega) _
   exact kR (kM HB.out _) aB.out
 have t1:decide ((j:Int)<(ps.length:Int))=false:=decide_eq_false oM
 obtain rfl:j=ps.length:=by have:=HG.out;omega
 obtain⟨q0,q1,q2,q3,q4,q5⟩:=d8a BK.out
 obtain⟨z0,z1,z2⟩:=d9p AR.out
 have HR:=am (HYES.out HA.out)
 clear HYES HNO HA hj
 generalize wv l0 ps ps.length 0=u at *
 generalize wv l0 ps ps.length 1=v at *
 generalize wv l0 ps ps.length 2=x at *
 have hop:(a0=0)∨(a0=1)∨(a0=2)∨(3≤a0∧a0≤12)∨(13≤a0∧a0≤15)∨(a0=16)∨(a0=17)∨(a0=18)∨(a0=19∨a0=20):=by
  have h:0≤a0∧a0≤20:=by simpa [inB]using b2
  omega
 clear b1 b2 b3
 have tc:=fun(b:Bool)=>(Bool.eq_false_or_eq_true b).symm
 rcases hop with h|h|h|h|h|h|h|h|h
 ·have E:pG a0 a2 a3 a1 u v x=Go.Proofs.YtkpipmojkhikaaaGreat.Base.wok a2 a3:=by unfold pG;rw[if_pos h]
  have k0:(a0==0)=true:=by simp[h]
  exact b5j
 ·have E:pG a0 a2 a3 a1 u v x=inB a3 0 7:=by unfold pG;rw[if_neg oM,if_pos h]
  have k0:(a0==0)=false:=by simp[inB];omega
  have k1:(a0==1)=true:=by simp[h]
  exact b5j
 ·have E:pG a0 a2 a3 a1 u v x=(u==a2):=by unfold pG;rw[if_neg oM,if_neg oM,if_pos h]
  have k0:(a0==0)=false:=by simp[inB];omega
  have k1:(a0==1)=false:=by simp[inB];omega
  have k2:(a0==2)=true:=by simp[h]
  (go_wp2_with (first|(go_at_call 27;refine cD (JFi (a0v _)) fun nd=>?_)|(go_at_call 28;refine cD (JBi (wZ _ _ _)) fun nd=>?_)|(go_at_call 58;refine cD (JKi (b5t _)) fun nd=>?_)|(go_at_call 9;refine cD (JDi _ _ _ _ (yZ _ _)) fun nd=>?_));go_ret;exact⟨by rw[HR.out,E];(rfl),by exact HB.out⟩)
 ·have E:pG a0 a2 a3 a1 u v x=((u==a2)&&(v==a2)):=by unfold pG;rw[if_neg oM,if_neg oM,if_neg oM,if_pos h]
  have k0:(a0==0)=false:=by simp[inB];omega
  have k1:(a0==1)=false:=by simp[inB];omega
  have k2:(a0==2)=false:=by simp[inB];omega
  have k3:(inB a0 3 12)=true:=by simp[inB];omega
  rcases tc (u==a2)with g1|g1
  ·exact b5l
  exact b5l
 ·have E:pG a0 a2 a3 a1 u v x=((u==v)&&(a2==1)):=by unfold pG;rw[if_neg oM,if_neg oM,if_neg oM,if_neg oM,if_pos h]
  have k0:(a0==0)=false:=by simp[inB];omega
  have k1:(a0==1)=false:=by simp[inB];omega
  have k2:(a0==2)=false:=by simp[inB];omega
  have k3:(inB a0 3 12)=false:=by simp[inB];omega
  have k4:(inB a0 13 15)=true:=by simp[inB];omega
  rcases tc (u==v)with g1|g1
  ·exact b5l
  exact b5l
 ·have E:pG a0 a2 a3 a1 u v x=(wrap64 (u+v)==a2):=by unfold pG;rw[if_neg oM,if_neg oM,if_neg oM,if_neg oM,if_neg oM,if_pos h]
  have k0:(a0==0)=false:=by simp[inB];omega
  have k1:(a0==1)=false:=by simp[inB];omega
  have k2:(a0==2)=false:=by simp[inB];omega
  have k3:(inB a0 3 12)=false:=by simp[inB];omega
  have k4:(inB a0 13 15)=false:=by simp[inB];omega
  have k5:(a0==16)=true:=by simp[h]
  exact b5j
 ·have E:pG a0 a2 a3 a1 u v x=inB a3 0 (wrap64 (u-a2)):=by unfold pG;rw[if_neg oM,if_neg oM,if_neg oM,if_neg oM,if_neg oM,if_neg oM,if_pos h]
  have k0:(a0==0)=false:=by simp[inB];omega
  have k1:(a0==1)=false:=by simp[inB];omega
  have k2:(a0==2)=false:=by simp[inB];omega
  have k3:(inB a0 3 12)=false:=by simp[inB];omega
  have k4:(inB a0 13 15)=false:=by simp[inB];omega
  have k5:(a0==16)=false:=by simp[inB];omega
  have k6:(a0==17)=true:=by simp[h]
  exact b5j
 ·have E:pG a0 a2 a3 a1 u v x=((u==1)&&(v==a2)&&(x==a2)):=by unfold pG;rw[if_neg oM,if_neg oM,if_neg oM,if_neg oM,if_neg oM,if_neg oM,if_neg oM,if_pos h]
  have k0:(a0==0)=false:=by simp[inB];omega
  have k1:(a0==1)=false:=by simp[inB];omega
  have k2:(a0==2)=false:=by simp[inB];omega
  have k3:(inB a0 3 12)=false:=by simp[inB];omega
  have k4:(inB a0 13 15)=false:=by simp[inB];omega
  have k5:(a0==16)=false:=by simp[inB];omega
  have k6:(a0==17)=false:=by simp[inB];omega
  have k7:(a0==18)=true:=by simp[h]
  rcases tc (u==1)with g2|g2
  ·(go_wp2_with (first|(go_at_call 27;refine cD (JFi (a0v _)) fun nd=>?_)|(go_at_call 28;refine cD (JBi (wZ _ _ _)) fun nd=>?_)|(go_at_call 58;refine cD (JKi (b5t _)) fun nd=>?_)|(go_at_call 9;refine cD (JDi _ _ _ _ (yZ _ _)) fun nd=>?_));go_ret;exact⟨by rw[HR.out,E];((simp only[g2,Bool.true_and,Bool.false_and,Bool.and_true,Bool.and_false];rfl)),by exact kM HB.out _⟩)
  rcases tc (v==a2)with g1|g1
  ·exact c4o
  exact c4o
 have E:pG a0 a2 a3 a1 u v x=(inB a3 0 7&&inB a1 1 8&&(u==1)&&(a2==1)):=by unfold pG;rw[if_neg oM,if_neg oM,if_neg oM,if_neg oM,if_neg oM,if_neg oM,if_neg oM,if_neg oM]
 have k0:(a0==0)=false:=by rcases h with rfl|rfl<;>rfl
 have k1:(a0==1)=false:=by rcases h with rfl|rfl<;>rfl
 have k2:(a0==2)=false:=by rcases h with rfl|rfl<;>rfl
 have k3:(inB a0 3 12)=false:=by simp[inB];omega
 have k4:(inB a0 13 15)=false:=by simp[inB];omega
 have k5:(a0==16)=false:=by rcases h with rfl|rfl<;>rfl
 have k6:(a0==17)=false:=by rcases h with rfl|rfl<;>rfl
 have k7:(a0==18)=false:=by rcases h with rfl|rfl<;>rfl
 rcases tc (inB a3 0 7)with g3|g3
 ·(go_wp2_with (first|(go_at_call 27;refine cD (JFi (a0v _)) fun nd=>?_)|(go_at_call 28;refine cD (JBi (wZ _ _ _)) fun nd=>?_)|(go_at_call 58;refine cD (JKi (b5t _)) fun nd=>?_)|(go_at_call 9;refine cD (JDi _ _ _ _ (yZ _ _)) fun nd=>?_));go_ret;exact⟨by rw[HR.out,E];((simp only[g3,Bool.true_and,Bool.false_and,Bool.and_true,Bool.and_false];rfl)),by exact kM HB.out _⟩)
 rcases tc (inB a1 1 8)with g2|g2
 ·(go_wp2_with (first|(go_at_call 27;refine cD (JFi (a0v _)) fun nd=>?_)|(go_at_call 28;refine cD (JBi (wZ _ _ _)) fun nd=>?_)|(go_at_call 58;refine cD (JKi (b5t _)) fun nd=>?_)|(go_at_call 9;refine cD (JDi _ _ _ _ (yZ _ _)) fun nd=>?_));go_ret;exact⟨by rw[HR.out,E];((simp only[g3,g2,Bool.true_and,Bool.false_and,Bool.and_true,Bool.and_false];rfl)),by exact kM HB.out _⟩)
 rcases tc (u==1)with g1|g1
 ·exact c4r
 exact c4r
theorem b6b(l:List Int)(P:Int→Bool):(∀t:Nat,t<l.length→P (rd l (t:Int))=true) ↔ l.all P=true:=by
 rw[List.all_eq_true]
 constructor
 ·intro h x hx
  obtain⟨t,ht,rfl⟩:=List.getElem_of_mem hx
  have:=h t ht
  rwa [show rd l (t:Int)=l[t]from by simp[rd,ht]]at this
 ·intro h t ht
  rw[show rd l (t:Int)=l[t]from by simp[rd,ht]]
  exact h _ (List.getElem_mem ht)
theorem KAi(A0:Option Addr)(c0:Nat)(l0:List (S31))(a0 a5 a4 a3 a2 a1:Int)(r:Bool)(w:World)(hr0:Kd.C k31 w A0 l0.length l0)(hc0:l0.length≤c0)(h:zS l0 a0 a5 a4 a3 a2 a1=some r) :
  Calls Tryz.prog 34 #[.slice A0 l0.length c0,.agg #[.int .i64 a0,.int .i64 a5,.int .i64 a4,.int .i64 a3,.int .i64 a2,.int .i64 a1]] w fun e w'=>e= .returned (.bool (r))∧Below w.heap.size w w':=by
 obtain rfl:tG l0 a0 a5 a4 a3 a2 a1=r:=oI h
 cases b1:inB a5 1 8 with
 | false=>simpa [tG,b1]using YEi A0 c0 l0 a0 a5 a4 a3 a2 a1 w hr0 hc0 b1
 | true =>
  cases b2:inB a0 0 20 with
  | false=>simpa [tG,b1,b2]using YCi A0 c0 l0 a0 a5 a4 a3 a2 a1 w hr0 hc0 b1 b2
  | true =>
   cases b3:xE a0 a4 a3 a2 a1 with
   | false=>simpa [tG,b1,b2,b3]using YNi A0 c0 l0 a0 a5 a4 a3 a2 a1 w hr0 hc0 b1 b2 b3
   | true =>
    refine YXi A0 c0 l0 a0 a5 a4 a3 a2 a1 w hr0 hc0 b1 b2 b3 _ (fun hn=>?_) (fun hy=>?_)
    ·rw[b6b _ (fun p=>inB p 0 ((l0.length:Int)-1))]at hn
     simp only[Bool.not_eq_true]at hn
     unfold tG
     rw[hn];simp
    rw[b6b _ (fun p=>inB p 0 ((l0.length:Int)-1))]at hy
    unfold tG
    rw[b1,b2,b3,hy];simp only[Bool.true_and]
def uN:Nat→List (S31)→List (S31)→Int→Int→Option (Bool)
 | 0,_,_,_,_=>none
 | k+1,x0,x9,a1,a0=>if a0<a1 then(if 0≤a0 then(if a0<(x9.length:Int)then(if a0≤(x0.length:Int)then((zS (x0.take (a0:Int).toNat) ((kA x9 a0).f0) ((kA x9 a0).f1) ((kA x9 a0).f2) ((kA x9 a0).f3) ((kA x9 a0).f4) ((kA x9 a0).f5)).bind fun a2=>(if a2=true then(uN k x0 x9 a1 (wrap64 (a0+1)))else(some false)))else(none))else(none))else(none))else(some true)
def uG(k:Nat)(l0:List (S31)):Option (Bool):=(qE (l0.length:Int) 1 80).bind fun a0=>(if a0=true then(uN k l0 l0 (l0.length:Int) 0)else(some false))
theorem b5p{P:Prop}(h:P:=by
 simp only[Act.put,List.setIfInBounds_toArray,List.set_cons_zero,List.set_cons_succ,vB,a3w]
 rfl):P:=h
theorem JQi(k:Nat)(A0:Option Addr)(c0:Nat)(l0:List (S31))(r:Bool)(w:World)(hr0:Kd.C k31 w A0 l0.length l0)(hc0:l0.length≤c0)(h:uG k l0=some r) :
  Calls Tryz.prog 14 #[.slice A0 l0.length c0] w fun e w'=>e= .returned (.bool r)∧Below w.heap.size w w':=by
 have hu31:=Tryz.underlying33
 have aD:=am hr0
 have aQ:=am hc0
 clear hr0 hc0
 have HB:=am (Below.refl w.heap.size w)
 have H:=h
 clear h
 unfold uG at H
 replace H:=oA H;obtain⟨aY,A2,H⟩:=H
 replace H:=iB H;rcases H with⟨rfl,H⟩|⟨rfl,H⟩
 rotate_left
 ·obtain rfl:=oI H
  go_enter Tryz.func14,Tryz.ntmps14
  go_wp2_with (((with_reducible refine gW ?_);refine gD (some 7) Tryz.func28 rfl (JBi A2.out) fun nd=>?_))
  go_ret
  exact⟨rfl,sW HB.out⟩
 replace H:=am H
 go_enter Tryz.func14,Tryz.ntmps14
 go_wp2_with (((with_reducible refine gW ?_);refine gD (some 7) Tryz.func28 rfl (JBi A2.out) fun nd=>?_))
 go_loopg [11] k (fun kq aW w' =>∃(a0:Int),aW= .int .i64 a0∧Aside0 (uN kq l0 l0 (l0.length:Int) a0=some r)∧Aside0 (kq≤k)∧Aside0 (Below w.heap.size w w'))
 case atStart=>exact⟨0,rfl,H,⟨Nat.le_refl _⟩,⟨sW HB.out⟩⟩
 clear H
 obtain⟨a0,rfl,HA,aO,HB⟩:=hrel
 cases gk with
 | zero=>cases HA.out
 | succ k1 =>
  obtain⟨H⟩:=HA
  simp only[uN]at H
  replace H:=iD H;rcases H with⟨aT,H⟩|⟨aT,H⟩
  rotate_left
  ·obtain rfl:=oI H
   go_wp2
   go_ret
   exact⟨rfl,sW HB.out⟩
  replace H:=iN H;obtain⟨b2,H⟩:=H
  replace H:=iN H;obtain⟨b1,H⟩:=H
  have b0:=eq_true (oD (by assumption):0≤a0)
  replace H:=iTD H;obtain⟨a_,aZ,H⟩:=H
  generalize aC:l0.take (a0:Int).toNat=a5 at H
  have a6:=am aC.symm;clear aC
  replace H:=oA H;obtain⟨aX,A9,H⟩:=H
  replace H:=iB H;rcases H with⟨rfl,H⟩|⟨rfl,H⟩
  ·replace H:=am H
   obtain⟨aS,aR,a3,rfl,aJ,aI,aH,aG,aF,aE⟩:=ix (pE (Kd.JE aD.out HB.out) a0)
   try go_wp2_with (((with_reducible refine gW ?_);refine bX 4 33 #[.int .i64 0,.int .i64 0,.int .i64 0,.int .i64 0,.int .i64 0,.int .i64 0] ?_;intro a1 hg w11 hbox hb;have a2:=am hbox;have aM:=gw hg;have aN:=gw hg;replace HB:=hB HB hb;clear hb hbox hg;have aV:=cf6 a2.out))
   have a8:Aside0 (((((((w11.setCell ⟨a1,0,none⟩ (.int .i64 ((kA l0 a0).f0))).setCell ⟨a1,1,none⟩ (.int .i64 ((kA l0 a0).f1))).setCell ⟨a1,2,none⟩ (.int .i64 ((kA l0 a0).f2))).setCell ⟨a1,3,none⟩ (.int .i64 ((kA l0 a0).f3))).setCell ⟨a1,4,none⟩ (.int .i64 ((kA l0 a0).f4))).setCell ⟨a1,5,none⟩ (.int .i64 ((kA l0 a0).f5))).heap[a1]? = some (.cells #[.int .i64 ((kA l0 a0).f0),.int .i64 ((kA l0 a0).f1),.int .i64 ((kA l0 a0).f2),.int .i64 ((kA l0 a0).f3),.int .i64 ((kA l0 a0).f4),.int .i64 ((kA l0 a0).f5)] 33 (0,0))):=⟨by(with_reducible repeat(first|refine pR ?_ _|refine kW ?_|refine oZ ?_ _));refine pB (cs:= #[.int .i64 ((kA l0 a0).f0),.int .i64 ((kA l0 a0).f1),.int .i64 ((kA l0 a0).f2),.int .i64 ((kA l0 a0).f3),.int .i64 ((kA l0 a0).f4),.int .i64 0]) ?_ 5 _ rfl;(with_reducible repeat(first|refine pR ?_ _|refine kW ?_|refine oZ ?_ _));refine pB (cs:= #[.int .i64 ((kA l0 a0).f0),.int .i64 ((kA l0 a0).f1),.int .i64 ((kA l0 a0).f2),.int .i64 ((kA l0 a0).f3),.int .i64 0,.int .i64 0]) ?_ 4 _ rfl;(with_reducible repeat(first|refine pR ?_ _|refine kW ?_|refine oZ ?_ _));refine pB (cs:= #[.int .i64 ((kA l0 a0).f0),.int .i64 ((kA l0 a0).f1),.int .i64 ((kA l0 a0).f2),.int .i64 0,.int .i64 0,.int .i64 0]) ?_ 3 _ rfl;(with_reducible repeat(first|refine pR ?_ _|refine kW ?_|refine oZ ?_ _));refine pB (cs:= #[.int .i64 ((kA l0 a0).f0),.int .i64 ((kA l0 a0).f1),.int .i64 0,.int .i64 0,.int .i64 0,.int .i64 0]) ?_ 2 _ rfl;(with_reducible repeat(first|refine pR ?_ _|refine kW ?_|refine oZ ?_ _));refine pB (cs:= #[.int .i64 ((kA l0 a0).f0),.int .i64 0,.int .i64 0,.int .i64 0,.int .i64 0,.int .i64 0]) ?_ 1 _ rfl;(with_reducible repeat(first|refine pR ?_ _|refine kW ?_|refine oZ ?_ _));refine pB (cs:= #[.int .i64 0,.int .i64 0,.int .i64 0,.int .i64 0,.int .i64 0,.int .i64 0]) ?_ 0 _ rfl;exact sB<|a2.out⟩
   have a7:Aside0 (Below w.heap.size w ((((((w11.setCell ⟨a1,0,none⟩ (.int .i64 ((kA l0 a0).f0))).setCell ⟨a1,1,none⟩ (.int .i64 ((kA l0 a0).f1))).setCell ⟨a1,2,none⟩ (.int .i64 ((kA l0 a0).f2))).setCell ⟨a1,3,none⟩ (.int .i64 ((kA l0 a0).f3))).setCell ⟨a1,4,none⟩ (.int .i64 ((kA l0 a0).f4))).setCell ⟨a1,5,none⟩ (.int .i64 ((kA l0 a0).f5)))):=⟨by exact bW⟩
   clear a2
   clear HB
   generalize ((((((w11.setCell ⟨a1,0,none⟩ (.int .i64 ((kA l0 a0).f0))).setCell ⟨a1,1,none⟩ (.int .i64 ((kA l0 a0).f1))).setCell ⟨a1,2,none⟩ (.int .i64 ((kA l0 a0).f2))).setCell ⟨a1,3,none⟩ (.int .i64 ((kA l0 a0).f3))).setCell ⟨a1,4,none⟩ (.int .i64 ((kA l0 a0).f4))).setCell ⟨a1,5,none⟩ (.int .i64 ((kA l0 a0).f5)))=w13 at a8 a7 ⊢
   have a2:=a8
   have HB:=a7
   clear a8 a7
   replace a2:=am (kW a2.out)
   replace HB:=am (kQ HB.out)
   have aL:(a0:Int)≤((l0.length:Int):Int):=oD (by assumption)
   obtain⟨i015,hi015,_,hsz15,_⟩:=info_parts yT
   have hroom15:l0.length≤c0:=aQ.out
   have hC15:Kd.C k31 _ (some a3) l0.length l0:=aD.out
   have hcut15:=b6f (P:=Tryz.prog) 24 33 .i64 Tryz.underlying24 hi015 (some a3) l0.length c0 a0 (oD (by assumption)) aL hroom15
   have hr15:=Kd.C_take (m:=(a0:Int).toNat) hC15 oM
   have aB:a5.length=(a0:Int).toNat:=(by rw[a6.out,List.length_take];omega)
   rw[← a6.out]at hr15
   rw[← aB]at hcut15
   have a4:=am hr15
   have a9:=am (show a5.length≤c0 from by omega)
   clear hr15 hC15 hroom15 hi015 hsz15
   have KY15:=am aB
   clear aB
   replace aL:=eq_true aL
   refine vC (n:=6) (S:=fun w'=>w'.cell? ⟨a1,0,none⟩=some (.int .i64 ((kA l0 a0).f0))∧w'.cell? ⟨a1,1,none⟩=some (.int .i64 ((kA l0 a0).f1))∧w'.cell? ⟨a1,2,none⟩=some (.int .i64 ((kA l0 a0).f2))∧w'.cell? ⟨a1,3,none⟩=some (.int .i64 ((kA l0 a0).f3))∧w'.cell? ⟨a1,4,none⟩=some (.int .i64 ((kA l0 a0).f4))∧w'.cell? ⟨a1,5,none⟩=some (.int .i64 ((kA l0 a0).f5))) (ds:=[]) #[false,false,false,false,false,false] (by kernel_rfl) rfl rfl (cz6 a2.out) (fun hHeld=>?_)
   generalize w13.drew=w14 at a2 HB a4 hHeld ⊢
   refine pS (i:=0) (N:=some 16) #[true,false,false,false,false,false] ?_
   refine pS (i:=1) (N:=some 17) #[true,true,false,false,false,false] ?_
   refine pS (i:=2) (N:=some 18) #[true,true,true,false,false,false] ?_
   refine qY (i:=3) (N:=some 19) (v:=?_) (a':=?_) #[true,true,true,true,false,false] rfl rfl (by kernel_rfl) (fun _ _ _ h=>h) (Or.inl ⟨by rfl,?_⟩) hHeld ?_ ?_
   rotate_left
   ·rintro w' ⟨s0,s1,s2,s3,s4,s5⟩
    go_simp
    with_reducible rfl
   rotate_left
   ·exact b5p
   refine a1t (i:=4) (N:=some 20) #[true,true,true,true,true,false] rfl rfl (by kernel_rfl) (by decide) (fun K hK=>?_)
   refine a1g Tryz.func34 (by kernel_rfl) rfl #[.slice (some a3) a5.length c0,.agg #[.int .i64 ((kA l0 a0).f0),.int .i64 ((kA l0 a0).f1),.int .i64 ((kA l0 a0).f2),.int .i64 ((kA l0 a0).f3),.int .i64 ((kA l0 a0).f4),.int .i64 ((kA l0 a0).f5)]] (by rfl) rfl rfl tm ?_
   with_reducible refine(KAi _ _ _ _ _ _ _ _ _ _ _ ?side1 ?side2 A9.out).mono ?_
   (case side1=>exact sC (Kd.JE a4.out HB.out))
   (case side2=>exact a9.out)
   rintro e w16 ⟨rfl,hb⟩
   refine⟨_,rfl,?_⟩
   replace a2:=gB a2 hb
   replace HB:=hX hb
   clear hb
   refine hK.out _ _ (cz6 a2.out) (fun hHeld=>?_)
   clear hK K
   refine vA (a':=?_) ?_ ?_
   rotate_left
   ·show Act.put _ (some 20) _=_
    exact b5p
   refine pS (i:=5) (N:=some 21) #[true,true,true,true,true,true] ?_
   refine a1s (by kernel_rfl) ?_
   try go_wp2
   go_roundg k1
   case measure=>have:=aO.out;omega
   case rel=>exact⟨(wrap64 (a0+1)),rfl,H,⟨by have:=aO.out;omega⟩,⟨bW⟩⟩
  obtain rfl:=oI H
  obtain⟨aS,aR,a3,rfl,aJ,aI,aH,aG,aF,aE⟩:=ix (pE (Kd.JE aD.out HB.out) a0)
  try go_wp2_with (((with_reducible refine gW ?_);refine bX 4 33 #[.int .i64 0,.int .i64 0,.int .i64 0,.int .i64 0,.int .i64 0,.int .i64 0] ?_;intro a1 hg w17 hbox hb;have a2:=am hbox;have aM:=gw hg;have aN:=gw hg;replace HB:=hB HB hb;clear hb hbox hg;have aU:=cf6 a2.out))
  have a8:Aside0 (((((((w17.setCell ⟨a1,0,none⟩ (.int .i64 ((kA l0 a0).f0))).setCell ⟨a1,1,none⟩ (.int .i64 ((kA l0 a0).f1))).setCell ⟨a1,2,none⟩ (.int .i64 ((kA l0 a0).f2))).setCell ⟨a1,3,none⟩ (.int .i64 ((kA l0 a0).f3))).setCell ⟨a1,4,none⟩ (.int .i64 ((kA l0 a0).f4))).setCell ⟨a1,5,none⟩ (.int .i64 ((kA l0 a0).f5))).heap[a1]? = some (.cells #[.int .i64 ((kA l0 a0).f0),.int .i64 ((kA l0 a0).f1),.int .i64 ((kA l0 a0).f2),.int .i64 ((kA l0 a0).f3),.int .i64 ((kA l0 a0).f4),.int .i64 ((kA l0 a0).f5)] 33 (0,0))):=⟨by(with_reducible repeat(first|refine pR ?_ _|refine kW ?_|refine oZ ?_ _));refine pB (cs:= #[.int .i64 ((kA l0 a0).f0),.int .i64 ((kA l0 a0).f1),.int .i64 ((kA l0 a0).f2),.int .i64 ((kA l0 a0).f3),.int .i64 ((kA l0 a0).f4),.int .i64 0]) ?_ 5 _ rfl;(with_reducible repeat(first|refine pR ?_ _|refine kW ?_|refine oZ ?_ _));refine pB (cs:= #[.int .i64 ((kA l0 a0).f0),.int .i64 ((kA l0 a0).f1),.int .i64 ((kA l0 a0).f2),.int .i64 ((kA l0 a0).f3),.int .i64 0,.int .i64 0]) ?_ 4 _ rfl;(with_reducible repeat(first|refine pR ?_ _|refine kW ?_|refine oZ ?_ _));refine pB (cs:= #[.int .i64 ((kA l0 a0).f0),.int .i64 ((kA l0 a0).f1),.int .i64 ((kA l0 a0).f2),.int .i64 0,.int .i64 0,.int .i64 0]) ?_ 3 _ rfl;(with_reducible repeat(first|refine pR ?_ _|refine kW ?_|refine oZ ?_ _));refine pB (cs:= #[.int .i64 ((kA l0 a0).f0),.int .i64 ((kA l0 a0).f1),.int .i64 0,.int .i64 0,.int .i64 0,.int .i64 0]) ?_ 2 _ rfl;(with_reducible repeat(first|refine pR ?_ _|refine kW ?_|refine oZ ?_ _));refine pB (cs:= #[.int .i64 ((kA l0 a0).f0),.int .i64 0,.int .i64 0,.int .i64 0,.int .i64 0,.int .i64 0]) ?_ 1 _ rfl;(with_reducible repeat(first|refine pR ?_ _|refine kW ?_|refine oZ ?_ _));refine pB (cs:= #[.int .i64 0,.int .i64 0,.int .i64 0,.int .i64 0,.int .i64 0,.int .i64 0]) ?_ 0 _ rfl;exact sB<|a2.out⟩
  have a7:Aside0 (Below w.heap.size w ((((((w17.setCell ⟨a1,0,none⟩ (.int .i64 ((kA l0 a0).f0))).setCell ⟨a1,1,none⟩ (.int .i64 ((kA l0 a0).f1))).setCell ⟨a1,2,none⟩ (.int .i64 ((kA l0 a0).f2))).setCell ⟨a1,3,none⟩ (.int .i64 ((kA l0 a0).f3))).setCell ⟨a1,4,none⟩ (.int .i64 ((kA l0 a0).f4))).setCell ⟨a1,5,none⟩ (.int .i64 ((kA l0 a0).f5)))):=⟨by exact bW⟩
  clear a2
  clear HB
  generalize ((((((w17.setCell ⟨a1,0,none⟩ (.int .i64 ((kA l0 a0).f0))).setCell ⟨a1,1,none⟩ (.int .i64 ((kA l0 a0).f1))).setCell ⟨a1,2,none⟩ (.int .i64 ((kA l0 a0).f2))).setCell ⟨a1,3,none⟩ (.int .i64 ((kA l0 a0).f3))).setCell ⟨a1,4,none⟩ (.int .i64 ((kA l0 a0).f4))).setCell ⟨a1,5,none⟩ (.int .i64 ((kA l0 a0).f5)))=w19 at a8 a7 ⊢
  have a2:=a8
  have HB:=a7
  clear a8 a7
  replace a2:=am (kW a2.out)
  replace HB:=am (kQ HB.out)
  have aK:(a0:Int)≤((l0.length:Int):Int):=oD (by assumption)
  obtain⟨i021,hi021,_,hsz21,_⟩:=info_parts yT
  have hroom21:l0.length≤c0:=aQ.out
  have hC21:Kd.C k31 _ (some a3) l0.length l0:=aD.out
  have hcut21:=b6f (P:=Tryz.prog) 24 33 .i64 Tryz.underlying24 hi021 (some a3) l0.length c0 a0 (oD (by assumption)) aK hroom21
  have hr21:=Kd.C_take (m:=(a0:Int).toNat) hC21 oM
  have aA:a5.length=(a0:Int).toNat:=(by rw[a6.out,List.length_take];omega)
  rw[← a6.out]at hr21
  rw[← aA]at hcut21
  have a4:=am hr21
  have a9:=am (show a5.length≤c0 from by omega)
  clear hr21 hC21 hroom21 hi021 hsz21
  have KY21:=am aA
  clear aA
  replace aK:=eq_true aK
  refine vC (n:=6) (S:=fun w'=>w'.cell? ⟨a1,0,none⟩=some (.int .i64 ((kA l0 a0).f0))∧w'.cell? ⟨a1,1,none⟩=some (.int .i64 ((kA l0 a0).f1))∧w'.cell? ⟨a1,2,none⟩=some (.int .i64 ((kA l0 a0).f2))∧w'.cell? ⟨a1,3,none⟩=some (.int .i64 ((kA l0 a0).f3))∧w'.cell? ⟨a1,4,none⟩=some (.int .i64 ((kA l0 a0).f4))∧w'.cell? ⟨a1,5,none⟩=some (.int .i64 ((kA l0 a0).f5))) (ds:=[]) #[false,false,false,false,false,false] (by kernel_rfl) rfl rfl (cz6 a2.out) (fun hHeld=>?_)
  generalize w19.drew=w20 at a2 HB a4 hHeld ⊢
  refine pS (i:=0) (N:=some 16) #[true,false,false,false,false,false] ?_
  refine pS (i:=1) (N:=some 17) #[true,true,false,false,false,false] ?_
  refine pS (i:=2) (N:=some 18) #[true,true,true,false,false,false] ?_
  refine qY (i:=3) (N:=some 19) (v:=?_) (a':=?_) #[true,true,true,true,false,false] rfl rfl (by kernel_rfl) (fun _ _ _ h=>h) (Or.inl ⟨by rfl,?_⟩) hHeld ?_ ?_
  rotate_left
  ·rintro w' ⟨s0,s1,s2,s3,s4,s5⟩
   go_simp
   with_reducible rfl
  rotate_left
  ·exact b5p
  refine a1t (i:=4) (N:=some 20) #[true,true,true,true,true,false] rfl rfl (by kernel_rfl) (by decide) (fun K hK=>?_)
  refine a1g Tryz.func34 (by kernel_rfl) rfl #[.slice (some a3) a5.length c0,.agg #[.int .i64 ((kA l0 a0).f0),.int .i64 ((kA l0 a0).f1),.int .i64 ((kA l0 a0).f2),.int .i64 ((kA l0 a0).f3),.int .i64 ((kA l0 a0).f4),.int .i64 ((kA l0 a0).f5)]] (by rfl) rfl rfl tm ?_
  with_reducible refine(KAi _ _ _ _ _ _ _ _ _ _ _ ?side1 ?side2 A9.out).mono ?_
  (case side1=>exact sC (Kd.JE a4.out HB.out))
  (case side2=>exact a9.out)
  rintro e w22 ⟨rfl,hb⟩
  refine⟨_,rfl,?_⟩
  replace a2:=gB a2 hb
  replace HB:=hX hb
  clear hb
  refine hK.out _ _ (cz6 a2.out) (fun hHeld=>?_)
  clear hK K
  refine vA (a':=?_) ?_ ?_
  rotate_left
  ·show Act.put _ (some 20) _=_
   exact b5p
  refine pS (i:=5) (N:=some 21) #[true,true,true,true,true,true] ?_
  refine a1s (by kernel_rfl) ?_
  try go_wp2
  go_ret
  exact⟨rfl,bW⟩
def a0h(a0:Int):Option (Bool):=some true
theorem XVi(a0:Int)(r:Bool)(w:World)(h:a0h a0=some r) :
  Calls Tryz.prog 51 #[.int .i64 a0] w fun e w'=>e= .returned (.bool r)∧Below w.heap.size w w':=by
 obtain rfl:=oI h
 go_enter Tryz.func51,Tryz.ntmps51
 go_wp2
 go_ret
 exact⟨rfl,by exact Below.refl _ _⟩
mutual
def tO(pf:Int→Option Bool):Nat→List (S31)→List Bool→Int→Option (List Bool)
 | 0,_,_,_=>none
 | k+1,x0,x7,x8=>if x8≥0 then(if 0≤x8 then(if x8<(x7.length:Int)then(if wH false x7 x8=true then((pf x8).bind fun a4=>(wM pf k x0 x7 x8 (!a4)))else(wM pf k x0 x7 x8 true))else(none))else(none))else(some x7)
def wM(pf:Int→Option Bool):Nat→List (S31)→List Bool→Int→Bool→Option (List Bool)
 | 0,_,_,_,_=>none
 | k+1,x0,x7,x8,a5=>if a5=true then(tO pf k x0 x7 (wrap64 (x8-1)))else(if 0≤x8 then(if x8<(x0.length:Int)then((wI k ((kA x0 x8).f0) ((kA x0 x8).f1) ((kA x0 x8).f2) ((kA x0 x8).f3) ((kA x0 x8).f4) ((kA x0 x8).f5)).bind fun a2=>(wL pf k x0 x7 x8 a2 (a2.length:Int) 0))else(none))else(none))
def wL(pf:Int→Option Bool):Nat→List (S31)→List Bool→Int→List Int→Int→Int→Option (List Bool)
 | 0,_,_,_,_,_,_=>none
 | k+1,x0,x7,x8,a1,a3,a0=>if a0<a3 then(if 0≤a0 then(if a0<(a1.length:Int)then(if 0≤(rd a1 a0)then(if(rd a1 a0)<(x7.length:Int)then(wL pf k x0 (x7.set ((rd a1 a0):Int).toNat true) x8 a1 a3 (wrap64 (a0+1)))else(none))else(none))else(none))else(none))else(tO pf k x0 x7 (wrap64 (x8-1)))
end
def xH(pf:Int→Option Bool)(k:Nat)(l0:List (S31))(a1:Int):Option (List Bool):=if 0≤(l0.length:Int)then(if((l0.length:Int):Int).toNat≤281474976710656 then((some (List.replicate ((l0.length:Int):Int).toNat false:List Bool)).bind fun a0=>(if 0≤a1 then(if a1<(a0.length:Int)then(tO pf k l0 (a0.set (a1:Int).toNat true) a1)else(none))else(none)))else(none))else(none)
theorem KIi(F:Nat)(cp:Array Value)(pf:Int→Option Bool)(k:Nat)(A0:Option Addr)(c0:Nat)(l0:List (S31))(a1:Int)(r:List Bool)(w:World)(hr0:Kd.C k31 w A0 l0.length l0)(hc0:l0.length≤c0)(eg :∀args w,(callFunc F args).run Tryz.prog w= .ok (.enter F args) w)(hp :∀(W:World) (i:Int) (b:Bool),Below w.heap.size w W→pf i=some b→Calls Tryz.prog F (#[.int .i64 i]++cp) W fun e w'=>e= .returned (.bool b)∧Below W.heap.size W w')(h:xH pf k l0 a1=some r) :
  Calls Tryz.prog 37 #[.slice A0 l0.length c0,.int .i64 a1,.func (.func F) #[] cp] w fun e w' =>∃bE:Value,e= .returned (bE)∧Kd.R Kd.bool 4 w' w.heap.size (fun _=>True) bE r∧Below w.heap.size w w':=by
 have hu31:=Tryz.underlying33
 have b_:=am hr0
 have cR:=am hc0
 have HPF:=am hp
 clear hr0 hc0 hp
 have HB:=am (Below.refl w.heap.size w)
 have H:=h
 clear h
 unfold xH at H
 replace H:=iTD H;obtain⟨bQ,bP,H⟩:=H
 replace H:=iTD H;obtain⟨bO,bN,H⟩:=H
 replace H:=oS H;obtain⟨aI,bD,H⟩:=H
 replace H:=iN H;obtain⟨bM,H⟩:=H
 replace H:=iN H;obtain⟨bL,H⟩:=H
 generalize aR:aI.set (a1:Int).toNat true=b2 at H
 have bC:=am aR.symm;clear aR
 replace H:=am H
 go_enter Tryz.func37,Tryz.ntmps37
 go_wp2_with (first|((with_reducible refine pU (N:=13) rfl ?_);refine Kd.XG Kd.bool _ 4 rfl (N:=13) rfl 50 _ _ rfl (l0.length:Int) rfl rfl Tryz.underlying50 (.bool false) 1 b1g rfl (by decide) oM false (ok:=fun _=>True) (okp:=fun _=>True) rfl (fun _ hk=>hk) trivial (oD (by assumption)) (Nat.le_trans (Nat.mul_le_mul_right _ (oD (by assumption):(l0.length:Int).toNat≤281474976710656)) oM) (Below.refl _ _) (Nat.le_refl _) ?_;intro cN w8 b6 hb hg_ hnew_;clear hg_ hnew_;(rw[← bD.out]at b6);have a9:=rL b6 HB;replace HB:=hB HB hb;clear hb b6;have p7:0≤(a1:Int):=oD (by assumption);have q7:(a1:Int)<((aI.length:Int):Int):=oD (by assumption);obtain⟨a7,aG,bZ,bG,gl7,cl7,HG7⟩:=Kd.JZ a9.out oM;(cases bZ);have bH:=am bG;have GG7:=am HG7;clear bG gl7 HG7;obtain⟨b7,hf7_0⟩:=Kd.JH false a9.out (a1:Int) p7 q7;replace p7:=eq_true p7;replace q7:=eq_true q7;obtain⟨cC,hz10_⟩:=Kd.JH false a9.out (a1:Int) (oD (by assumption)) (oD (by assumption));have aN:=Kd.JO a9.out (a1:Int) true)|((with_reducible refine pY (t:=4) (p:=16) rfl ?_);refine pH (t:=4) (p:=16) (v:=?vo_w11) (w1:=(w8.setCell ⟨a7,(a1:Int).toNat,none⟩ (.bool true))) ?hg ?ho ?hn ?hr ?_;(case ho=>rfl);(case hg=>rfl);(case hn=>rfl);(case hr=>(go_simp;done));intro w11 hw;have hg:w8.grownBy w11 (some a7):=(by rw[hw];exact aN.2);have hp_:Kd.R Kd.bool 4 w11 w.heap.size (fun _=>True) (.slice (some ⟨a7,0,none⟩) aI.length aG) b2:=(by rw[hw,bC.out];exact aN.1);clear aN;replace a9:=am hp_;replace HB:=am ((by rw[hw];exact kR (HB.out) bH.out:Below w.heap.size w w11));clear hg hw hp_))
 go_loopg [8] k (fun kq v8 w' =>∃(a4:List Bool) (a2:Int),v8= .int .i64 a2∧Aside0 (tO pf kq l0 a4 a2=some r)∧Aside0 (kq≤k)∧Aside0 (Kd.R Kd.bool 4 w' w.heap.size (fun _=>True) (.slice (some ⟨a7,0,none⟩) aI.length aG) a4)∧Aside0 (Below w.heap.size w w'))
 case atStart=>exact⟨b2,a1,rfl,H,⟨Nat.le_refl _⟩,⟨sR<|a9.out⟩,⟨sW HB.out⟩⟩
 clear H
 clear bQ bP bO bN bM bL b7;try clear p7;try clear q7;try clear p7;try clear q7
 obtain⟨a4,a2,rfl,HA,aE,a0,HB⟩:=hrel
 have hl7_1:=(Kd.JA a0.out).1
 rw[hl7_1]at a0
 (try simp only[hl7_1])
 cases gk with
 | zero=>cases HA.out
 | succ k1 =>
  obtain⟨H⟩:=HA
  simp only[tO]at H
  by_cases aH:a2≥0
  rotate_left
  ·rw[if_neg aH]at H
   have aS:decide (0≤a2)=false:=decide_eq_false aH
   clear aH
   obtain rfl:=oI H
   go_wp2
   go_ret
   exact⟨_,rfl,sR<|a0.out,sW HB.out⟩
  rw[if_pos aH]at H
  have aS:decide (0≤a2)=true:=decide_eq_true aH
  clear aH
  have aO:=am H;clear H
  go_upto_region 6 with(fail)
  go_cut [32] (fun bU wc =>∃(kq:Nat) (aF:Bool),bU= .bool aF∧Aside0 (wM pf kq l0 a4 a2 aF=some r)∧Aside0 (kq≤k1)∧Aside0 (Kd.R Kd.bool 4 wc w.heap.size (fun _=>True) (.slice (some ⟨a7,0,none⟩) a4.length aG) a4)∧Aside0 (Below w.heap.size w wc))
  case first =>
   have H:=aO.out
   clear aO
   replace H:=iN H;obtain⟨cJ,H⟩:=H
   replace H:=iN H;obtain⟨cI,H⟩:=H
   generalize hbq16:wH false a4 a2=cQ at H
   have aT:=am hbq16.symm;clear hbq16
   replace H:=iB H;rcases H with⟨rfl,H⟩|⟨rfl,H⟩
   ·replace H:=oA H;obtain⟨b3,cB,H⟩:=H
    replace H:=am H
    have aB:0≤(a2:Int):=oD (by assumption)
    have aA:a2<(a4.length:Int):=oD (by assumption)
    obtain⟨aJ,aL,a6⟩:=Kd.JJ (Kd.JA a0.out).2.2 a2 aB aA
    (try rw[← aT.out]at a6)
    obtain rfl:(⟨a7,0,none⟩:Addr)=aJ:=(by injection aL)
    (simp only[pW]at a6)
    replace aB:=eq_true aB
    replace aA:=eq_true aA
    go_wp2_with ((go_at_fn F;refine(HPF.out _ a2 b3 (by exact sW HB.out) cB.out).mono ?_;rintro e w19 ⟨rfl,hb⟩;replace a0:=rB a0 hb;replace HB:=hB HB hb;(try clear hb)))
    go_meet
    case rel=>exact⟨_,(!b3),rfl,H,⟨by have:=aE.out;omega⟩,⟨by(try simp only[hl7_1]);exact sR<|a0.out⟩,⟨sW HB.out⟩⟩
   replace H:=am H
   have aB:0≤(a2:Int):=oD (by assumption)
   have aA:a2<(a4.length:Int):=oD (by assumption)
   obtain⟨aJ,aL,a6⟩:=Kd.JJ (Kd.JA a0.out).2.2 a2 aB aA
   (try rw[← aT.out]at a6)
   obtain rfl:(⟨a7,0,none⟩:Addr)=aJ:=(by injection aL)
   (simp only[pW]at a6)
   replace aB:=eq_true aB
   replace aA:=eq_true aA
   go_wp2
   go_meet
   case rel=>exact⟨_,true,rfl,H,⟨by have:=aE.out;omega⟩,⟨by(try simp only[hl7_1]);exact sR<|a0.out⟩,⟨sW HB.out⟩⟩
  clear aO
  clear aS
  obtain⟨kq,aF,rfl,HA,aD,a0,HB⟩:=hcut
  cases kq with
  | zero=>cases HA.out
  | succ aK =>
   obtain⟨H⟩:=HA
   simp only[wM]at H
   replace H:=iB H;rcases H with⟨rfl,H⟩|⟨rfl,H⟩
   ·replace H:=am H
    go_wp2
    (try simp only[← hl7_1])
    go_roundg aK
    case measure=>have:=aE.out;have:=aD.out;omega
    case rel=>exact⟨a4,(wrap64 (a2-1)),rfl,H,⟨by have:=aE.out;have:=aD.out;omega⟩,⟨by(try simp only[hl7_1]);exact sR<|a0.out⟩,⟨sW HB.out⟩⟩
   replace H:=iN H;obtain⟨bA,H⟩:=H
   replace H:=iN H;obtain⟨b9,H⟩:=H
   replace H:=oA H;obtain⟨a5,c1,H⟩:=H
   replace H:=am H
   obtain⟨bJ,bI,cL,rfl,b0,a_,aZ,aY,aX,aW⟩:=ix (pE (Kd.JE b_.out HB.out) a2)
   go_wp2_with (((with_reducible refine gW ?_);refine gF 40 (some 37) rfl ?_;refine gT Tryz.func40 (JIi _ _ _ _ _ _ _ _ _ c1.out) ?_;rintro cM w24 ⟨bF,hb⟩;replace a0:=rB a0 hb;have aU:=rL bF HB;replace HB:=hB HB hb;(try clear hb);(try clear bF);obtain⟨bR,bK,rfl⟩:=Kd.JB aU.out))
   go_loopg [39] aK (fun kq bT w' =>∃(a8:List Bool) (a3:Int),bT= .int .i64 a3∧Aside0 (wL pf kq l0 a8 a2 a5 (a5.length:Int) a3=some r)∧Aside0 (kq≤aK)∧Aside0 (Kd.R Kd.bool 4 w' w.heap.size (fun _=>True) (.slice (some ⟨a7,0,none⟩) a4.length aG) a8)∧Aside0 (Kd.R (Kd.int .i64) 3 w' w.heap.size (fun _=>True) (.slice bR a5.length bK) a5)∧Aside0 (Below w.heap.size w w'))
   case atStart=>exact⟨a4,0,rfl,H,⟨Nat.le_refl _⟩,⟨by(try simp only[hl7_1]);exact sR<|a0.out⟩,⟨by(try simp only[hl7_1]);exact sR<|aU.out⟩,⟨sW HB.out⟩⟩
   clear H
   clear bA b9 b0 a_ aZ aY aX aW bJ bI
   obtain⟨a8,a3,rfl,HA,aV,a0,aC,HB⟩:=hrel
   have hl7_3:=(Kd.JA a0.out).1
   rw[hl7_3]at a0
   (try simp only[hl7_3])
   (try simp only[hl7_3]at aC)
   cases gk with
   | zero=>cases HA.out
   | succ k3 =>
    obtain⟨H⟩:=HA
    simp only[wL]at H
    replace H:=iD H;rcases H with⟨b8,H⟩|⟨b8,H⟩
    ·replace H:=iN H;obtain⟨cH,H⟩:=H
     replace H:=iN H;obtain⟨cG,H⟩:=H
     replace H:=iN H;obtain⟨cF,H⟩:=H
     replace H:=iN H;obtain⟨cE,H⟩:=H
     generalize aQ:a8.set ((rd a5 a3):Int).toNat true=b1 at H
     have bB:=am aQ.symm;clear aQ
     replace H:=am H
     obtain⟨cP,cO,cK,rfl,bS⟩:=ix (Kd.JD (Kd.JA aC.out).2.2 a3)
     have b5:0≤((rd a5 a3):Int):=oD (by assumption)
     have b4:((rd a5 a3):Int)<((a8.length:Int):Int):=oD (by assumption)
     obtain⟨bV,hf31_0⟩:=Kd.JH false a0.out ((rd a5 a3):Int) b5 b4
     replace b5:=eq_true b5
     replace b4:=eq_true b4
     have aM:=Kd.JO a0.out ((rd a5 a3):Int) true
     go_wp2_with (((with_reducible refine pY (t:=4) (p:=45) rfl ?_);refine pH (t:=4) (p:=45) (v:=?vo_w33) (w1:=(wr.setCell ⟨a7,((rd a5 a3):Int).toNat,none⟩ (.bool true))) ?hg ?ho ?hn ?hr ?_;(case ho=>rfl);(case hg=>rfl);(case hn=>rfl);(case hr=>(go_simp;done));intro w33 hw;have hg:wr.grownBy w33 (some a7):=(by rw[hw];exact aM.2);have hp_:Kd.R Kd.bool 4 w33 w.heap.size (fun _=>True) (.slice (some ⟨a7,0,none⟩) a8.length aG) b1:=(by rw[hw,bB.out];exact aM.1);clear aM;replace aC:=am (Kd.JI (v:=(.slice (some ⟨a7,0,none⟩) a8.length aG)) (by exact sR<|aC.out) (Kd.JG a0.out) (by decide) hg);replace a0:=am hp_;replace HB:=am ((by rw[hw];exact kR (HB.out) bH.out:Below w.heap.size w w33));clear hg hw hp_))
     (try simp only[← hl7_3])
     go_roundg k3
     case measure=>have:=aE.out;have:=aD.out;have:=aV.out;omega
     case rel=>exact⟨b1,(wrap64 (a3+1)),rfl,H,⟨by have:=aE.out;have:=aD.out;have:=aV.out;omega⟩,⟨by(try simp only[hl7_1]);(try simp only[hl7_3]);exact sR<|a0.out⟩,⟨by(try simp only[hl7_1]);(try simp only[hl7_3]);exact sR<|aC.out⟩,⟨sW HB.out⟩⟩
    replace H:=am H
    go_wp2
    (try simp only[← hl7_1,← hl7_3])
    go_roundg k3
    case measure=>have:=aE.out;have:=aD.out;have:=aV.out;omega
    case rel=>exact⟨a8,(wrap64 (a2-1)),rfl,H,⟨by have:=aE.out;have:=aD.out;have:=aV.out;omega⟩,⟨by(try simp only[hl7_1]);(try simp only[hl7_3]);exact sR<|a0.out⟩,⟨sW HB.out⟩⟩
@[reducible] def c6v:Array Bool:= #[false,false,false,false,false,false,false,false,false,false,false,false,false,false,false,false]
@[reducible] def c6t:Array Bool:= #[false,true,false,false,false,false,false,false,false,false,false,false,false,false,false,false]
@[reducible] def c6r:Array Bool:= #[true,true,false,false,false,false,false,false,false,false,false,false,false,false,false,false]
@[reducible] def c6p:Array Bool:= #[true,true,true,false,false,false,false,false,false,false,false,false,false,false,false,false]
@[reducible] def c6n:Array Bool:= #[true,true,true,true,false,false,false,false,false,false,false,false,false,false,false,false]
@[reducible] def c6l:Array Bool:= #[true,true,true,true,true,false,false,false,false,false,false,false,false,false,false,false]
@[reducible] def c6j:Array Bool:= #[true,true,true,true,true,true,false,false,false,false,false,false,false,false,false,false]
@[reducible] def c6h:Array Bool:= #[true,true,true,true,true,true,true,false,false,false,false,false,false,false,false,false]
@[reducible] def d3y:Array Bool:= #[true,true,true,true,true,true,true,false,true,false,false,false,false,false,false,false]
@[reducible] def c6f:Array Bool:= #[true,true,true,true,true,true,true,true,true,false,false,false,false,false,false,false]
@[reducible] def b8x:Array Bool:= #[true,true,true,true,true,true,true,true,true,true,false,false,false,false,false,false]
@[reducible] def b8w:Array Bool:= #[true,true,true,true,true,true,true,true,true,true,true,false,false,false,false,false]
@[reducible] def b8v:Array Bool:= #[true,true,true,true,true,true,true,true,true,true,true,true,false,false,false,false]
@[reducible] def b8u:Array Bool:= #[true,true,true,true,true,true,true,true,true,true,true,true,true,false,false,false]
@[reducible] def b8s:Array Bool:= #[true,true,true,true,true,true,true,true,true,true,true,true,true,true,false,false]
@[reducible] def c9h:Array Bool:= #[true,true,true,true,true,true,true,true,true,true,true,true,true,true,true,false]
@[reducible] def c9f:Array Bool:= #[true,true,true,true,true,true,true,true,true,true,true,true,true,true,true,true]
@[reducible] def c9c:Array Bool:= #[true,true,true,true,true,true,true,true,false,false,false,false,false,false,false,false]
def xJ(l0:List (S31))(v i:Int):Option Bool:=if 0≤i then(if i<(l0.length:Int)then some (!(((kA l0 i).f0==19) || ((kA l0 i).f0==20)) || ((kA l0 i).f2 !=v))else none)else none
theorem a0n(a b c d e f:Int):rK a b c d e f=some ((a==19) || (a==20)):=by
 unfold rK
 by_cases h:a=19
 ·rw[if_pos h];simp[h]
 ·rw[if_neg h];simp[h]
theorem a0i{P:Prop}(h:P:=by
 simp only[Act.put,List.setIfInBounds_toArray,List.set_cons_zero,List.set_cons_succ,vB,a3w]
 rfl):P:=h
theorem c5f{P:Prop}(h:P:=by
 refine pS (i:=14) (N:=some 19) c9h ?_
 refine pS (i:=15) (N:=some 4) c9f ?_
 refine a1s (by kernel_rfl) ?_
 go_wp2
 go_ret
 exact⟨by rw[← H.out]<;>rfl,HB3.out⟩):P:=h
theorem XQi(A0:Option Addr)(c0:Nat)(l0:List (S31))(v i:Int)(b:Bool)(g1 g2:Nat)(w:World)(hr0:Kd.C k31 w A0 l0.length l0)(hc0:l0.length≤c0)
  (b1:w.cell? ⟨g1,0,none⟩=some (.slice A0 l0.length c0)) (b2:w.cell? ⟨g2,0,none⟩=some (.int .i64 v)) (h:xJ l0 v i=some b) :
  Calls Tryz.prog 59 #[.int .i64 i,.pointer (some ⟨g1,0,none⟩),.pointer (some ⟨g2,0,none⟩)] w fun e w'=>e= .returned (.bool b)∧Below w.heap.size w w':=by
 unfold xJ at h
 by_cases p1:0≤i
 rotate_left
 ·rw[if_neg p1]at h;exact absurd h (by simp)
 rw[if_pos p1]at h
 by_cases p2:i<(l0.length:Int)
 rotate_left
 ·rw[if_neg p2]at h;exact absurd h (by simp)
 rw[if_pos p2]at h
 replace h:=oI h
 obtain⟨a0,e0,y0,y1,y2,y3,y4,y5⟩:=pE hr0 i p1 p2
 cases e0
 have a1:=am hr0
 have a2:=am hc0
 clear hr0 hc0
 generalize (kA l0 i).f0=op at *
 generalize (kA l0 i).f1=W at *
 generalize (kA l0 i).f2=Kq at *
 generalize (kA l0 i).f3=A at *
 generalize (kA l0 i).f4=B at *
 generalize (kA l0 i).f5=Cq at *
 obtain⟨q,hq⟩ :∃q:Bool,((op==19) || (op==20))=q:=⟨_,rfl⟩
 rw[hq]at h
 have HQ:=am hq
 clear hq
 have H:=am h
 clear h
 have t1:decide (0≤i)=true:=decide_eq_true p1
 have t2:decide (i<(l0.length:Int))=true:=decide_eq_true p2
 cases q with
 | true =>
  go_enter Tryz.func59,Tryz.ntmps59
  go_wp2
  refine vC (n:=16) (S:=fun w'=>w'.cell? ⟨g1,0,none⟩=some (.slice (some a0) l0.length c0)∧w'.cell? ⟨g2,0,none⟩=some (.int .i64 v)∧w'.cell? (a0.add (i.toNat*6))=some (.int .i64 op)∧w'.cell? ⟨(a0.add (i.toNat*6)).block,(a0.add (i.toNat*6)).off+1,none⟩=some (.int .i64 W)∧w'.cell? ⟨(a0.add (i.toNat*6)).block,(a0.add (i.toNat*6)).off+2,none⟩=some (.int .i64 Kq)∧w'.cell? ⟨(a0.add (i.toNat*6)).block,(a0.add (i.toNat*6)).off+3,none⟩=some (.int .i64 A)∧w'.cell? ⟨(a0.add (i.toNat*6)).block,(a0.add (i.toNat*6)).off+4,none⟩=some (.int .i64 B)∧w'.cell? ⟨(a0.add (i.toNat*6)).block,(a0.add (i.toNat*6)).off+5,none⟩=some (.int .i64 Cq)) (ds:=[]) c6v (by kernel_rfl) rfl rfl ⟨b1,b2,y0,y1,y2,y3,y4,y5⟩ (fun hHeld=>?_)
  refine pS (i:=1) (N:=some 6) c6t ?_
  refine qY (i:=0) (N:=some 5) (v:=?_) (a':=?_) c6r rfl rfl (by kernel_rfl) (fun _ _ _ h=>h) (Or.inl ⟨by rfl,?_⟩) hHeld ?_ ?_
  rotate_left
  ·rintro w' ⟨s0,s1,s2,s3,s4,s5,s6,s7⟩
   go_simp
   with_reducible rfl
  rotate_left
  ·exact a0i
  refine pS (i:=2) (N:=some 7) c6p ?_
  refine qY (i:=3) (N:=some 8) (v:=?_) (a':=?_) c6n rfl rfl (by kernel_rfl) (fun _ _ _ h=>h) (Or.inl ⟨by rfl,?_⟩) hHeld ?_ ?_
  rotate_left
  ·rintro w' ⟨s0,s1,s2,s3,s4,s5,s6,s7⟩
   go_simp
   with_reducible rfl
  rotate_left
  ·exact a0i
  refine a1t (i:=4) (N:=some 9) c6l rfl rfl (by kernel_rfl) (by decide) (fun K hK=>?_)
  refine a1g Tryz.func36 (by kernel_rfl) rfl #[.agg #[.int .i64 op,.int .i64 W,.int .i64 Kq,.int .i64 A,.int .i64 B,.int .i64 Cq]] (by rfl) rfl rfl (by simp only[List.map_toArray,List.map_cons,List.map_nil];rfl) ?_
  with_reducible refine(JJi true _ (by rw[a0n,HQ.out])).mono ?_
  rintro e w3 ⟨rfl,hb⟩
  refine⟨_,rfl,?_⟩
  have HB3:=am (show Below w.heap.size w w3 from Below.trans (by apply kQ;exact Below.refl _ _) (hb.mono (by simp)))
  clear hb
  refine hK.out _ _ ⟨(kC HB3.out b1),(kC HB3.out b2),(kC HB3.out y0),(kC HB3.out y1),(kC HB3.out y2),(kC HB3.out y3),(kC HB3.out y4),(kC HB3.out y5)⟩ (fun hHeld=>?_)
  clear hK K
  refine vA (a':=?_) ?_ ?_
  rotate_left
  ·show Act.put _ (some 9) _=_
   exact a0i
  refine pS (i:=5) (N:=some 10) c6j ?_
  refine pS (i:=6) (N:=some 11) c6h ?_
  refine pS (i:=8) (N:=some 13) d3y ?_
  refine qY (i:=7) (N:=some 12) (v:=?_) (a':=?_) c6f rfl rfl (by kernel_rfl) (fun _ _ _ h=>h) (Or.inl ⟨by rfl,?_⟩) hHeld ?_ ?_
  rotate_left
  ·rintro w' ⟨s0,s1,s2,s3,s4,s5,s6,s7⟩
   go_simp
   with_reducible rfl
  rotate_left
  ·exact a0i
  refine pS (i:=9) (N:=some 14) b8x ?_
  refine pS (i:=10) (N:=some 15) b8w ?_
  refine qY (i:=11) (N:=some 16) (v:=?_) (a':=?_) b8v rfl rfl (by kernel_rfl) (fun _ _ _ h=>h) (Or.inl ⟨by rfl,?_⟩) hHeld ?_ ?_
  rotate_left
  ·rintro w' ⟨s0,s1,s2,s3,s4,s5,s6,s7⟩
   go_simp
   with_reducible rfl
  rotate_left
  ·exact a0i
  refine qY (i:=12) (N:=some 17) (v:=?_) (a':=?_) b8u rfl rfl (by kernel_rfl) (fun _ _ _ h=>h) (Or.inl ⟨by rfl,?_⟩) hHeld ?_ ?_
  rotate_left
  ·rintro w' ⟨s0,s1,s2,s3,s4,s5,s6,s7⟩
   go_simp
   with_reducible rfl
  rotate_left
  ·exact a0i
  refine pS (i:=13) (N:=some 18) b8s ?_
  exact c5f
 | false =>
  go_enter Tryz.func59,Tryz.ntmps59
  go_wp2
  refine vC (n:=16) (S:=fun w'=>w'.cell? ⟨g1,0,none⟩=some (.slice (some a0) l0.length c0)∧w'.cell? ⟨g2,0,none⟩=some (.int .i64 v)∧w'.cell? (a0.add (i.toNat*6))=some (.int .i64 op)∧w'.cell? ⟨(a0.add (i.toNat*6)).block,(a0.add (i.toNat*6)).off+1,none⟩=some (.int .i64 W)∧w'.cell? ⟨(a0.add (i.toNat*6)).block,(a0.add (i.toNat*6)).off+2,none⟩=some (.int .i64 Kq)∧w'.cell? ⟨(a0.add (i.toNat*6)).block,(a0.add (i.toNat*6)).off+3,none⟩=some (.int .i64 A)∧w'.cell? ⟨(a0.add (i.toNat*6)).block,(a0.add (i.toNat*6)).off+4,none⟩=some (.int .i64 B)∧w'.cell? ⟨(a0.add (i.toNat*6)).block,(a0.add (i.toNat*6)).off+5,none⟩=some (.int .i64 Cq)) (ds:=[]) c6v (by kernel_rfl) rfl rfl ⟨b1,b2,y0,y1,y2,y3,y4,y5⟩ (fun hHeld=>?_)
  refine pS (i:=1) (N:=some 6) c6t ?_
  refine qY (i:=0) (N:=some 5) (v:=?_) (a':=?_) c6r rfl rfl (by kernel_rfl) (fun _ _ _ h=>h) (Or.inl ⟨by rfl,?_⟩) hHeld ?_ ?_
  rotate_left
  ·rintro w' ⟨s0,s1,s2,s3,s4,s5,s6,s7⟩
   go_simp
   with_reducible rfl
  rotate_left
  ·exact a0i
  refine pS (i:=2) (N:=some 7) c6p ?_
  refine qY (i:=3) (N:=some 8) (v:=?_) (a':=?_) c6n rfl rfl (by kernel_rfl) (fun _ _ _ h=>h) (Or.inl ⟨by rfl,?_⟩) hHeld ?_ ?_
  rotate_left
  ·rintro w' ⟨s0,s1,s2,s3,s4,s5,s6,s7⟩
   go_simp
   with_reducible rfl
  rotate_left
  ·exact a0i
  refine a1t (i:=4) (N:=some 9) c6l rfl rfl (by kernel_rfl) (by decide) (fun K hK=>?_)
  refine a1g Tryz.func36 (by kernel_rfl) rfl #[.agg #[.int .i64 op,.int .i64 W,.int .i64 Kq,.int .i64 A,.int .i64 B,.int .i64 Cq]] (by rfl) rfl rfl (by simp only[List.map_toArray,List.map_cons,List.map_nil];rfl) ?_
  with_reducible refine(JJi false _ (by rw[a0n,HQ.out])).mono ?_
  rintro e w3 ⟨rfl,hb⟩
  refine⟨_,rfl,?_⟩
  have HB3:=am (show Below w.heap.size w w3 from Below.trans (by apply kQ;exact Below.refl _ _) (hb.mono (by simp)))
  clear hb
  refine hK.out _ _ ⟨(kC HB3.out b1),(kC HB3.out b2),(kC HB3.out y0),(kC HB3.out y1),(kC HB3.out y2),(kC HB3.out y3),(kC HB3.out y4),(kC HB3.out y5)⟩ (fun hHeld=>?_)
  clear hK K
  refine vA (a':=?_) ?_ ?_
  rotate_left
  ·show Act.put _ (some 9) _=_
   exact a0i
  refine pS (i:=5) (N:=some 10) c6j ?_
  refine pS (i:=6) (N:=some 11) c6h ?_
  refine qO (i:=7) (N:=some 12) (v:=undef) (a':=?_) c9c rfl rfl (by kernel_rfl) (fun _ _ _ h=>h) (Or.inr ⟨by rfl,rfl⟩) ?_ ?_
  rotate_left
  ·exact a0i
  refine qO (i:=8) (N:=some 13) (v:=undef) (a':=?_) c6f rfl rfl (by kernel_rfl) (fun _ _ _ h=>h) (Or.inr ⟨by rfl,rfl⟩) ?_ ?_
  rotate_left
  ·exact a0i
  refine qO (i:=9) (N:=some 14) (v:=undef) (a':=?_) b8x rfl rfl (by kernel_rfl) (fun _ _ _ h=>h) (Or.inr ⟨by rfl,rfl⟩) ?_ ?_
  rotate_left
  ·exact a0i
  refine qO (i:=10) (N:=some 15) (v:=undef) (a':=?_) b8w rfl rfl (by kernel_rfl) (fun _ _ _ h=>h) (Or.inr ⟨by rfl,rfl⟩) ?_ ?_
  rotate_left
  ·exact a0i
  refine qO (i:=11) (N:=some 16) (v:=undef) (a':=?_) b8v rfl rfl (by kernel_rfl) (fun _ _ _ h=>h) (Or.inr ⟨by rfl,rfl⟩) ?_ ?_
  rotate_left
  ·exact a0i
  refine qO (i:=12) (N:=some 17) (v:=undef) (a':=?_) b8u rfl rfl (by kernel_rfl) (fun _ _ _ h=>h) (Or.inr ⟨by rfl,rfl⟩) ?_ ?_
  rotate_left
  ·exact a0i
  refine qO (i:=13) (N:=some 18) (v:=undef) (a':=?_) b8s rfl rfl (by kernel_rfl) (fun _ _ _ h=>h) (Or.inr ⟨by rfl,rfl⟩) ?_ ?_
  rotate_left
  ·exact a0i
  exact c5f
def a0o(k:Nat)(l0:List (S31))(a1:Int):Option (List Bool):=xH (xJ l0 a1) k l0 (wrap64 ((l0.length:Int)-1))
theorem YKi(k:Nat)(A0:Option Addr)(c0:Nat)(l0:List (S31))(a1:Int)(r:List Bool)(w:World)(hr0:Kd.C k31 w A0 l0.length l0)(hc0:l0.length≤c0)(h:a0o k l0 a1=some r) :
  Calls Tryz.prog 35 #[.slice A0 l0.length c0,.int .i64 a1] w fun e w' =>∃a0:Value,e= .returned (a0)∧Kd.R Kd.bool 4 w' w.heap.size (fun _=>True) a0 r∧Below w.heap.size w w':=by
 have a3:=am hr0
 have a2:=am hc0
 have H:=am h
 clear hr0 hc0 h
 have hmf :∀(fn:Fn) (first cap:Array Value) (w:World),(Instr.makeFunc fn first cap).run Tryz.prog w= .ok (.func fn first cap) w:=fun _ _ _ _=>rfl
 go_enter Tryz.func35,Tryz.ntmps35
 go_wp2_with fail
 have hb0:Below w.heap.size w ((w.alloc (Obj.cells #[Value.slice A0 l0.length c0] 24)).alloc (Obj.cells #[Value.int IntKind.i64 a1] 3)):=kO (kO (Below.refl _ _) _) _
 have h1:((w.alloc (Obj.cells #[Value.slice A0 l0.length c0] 24)).alloc (Obj.cells #[Value.int IntKind.i64 a1] 3)).heap[w.heap.size]? = some (Obj.cells #[Value.slice A0 l0.length c0] 24):=oZ (heap_alloc_new w _) _
 have h2:((w.alloc (Obj.cells #[Value.slice A0 l0.length c0] 24)).alloc (Obj.cells #[Value.int IntKind.i64 a1] 3)).heap[w.heap.size+1]? = some (Obj.cells #[Value.int IntKind.i64 a1] 3):=by
  have:=heap_alloc_new (w.alloc (Obj.cells #[Value.slice A0 l0.length c0] 24)) (Obj.cells #[Value.int IntKind.i64 a1] 3)
  rwa [show(w.alloc (Obj.cells #[Value.slice A0 l0.length c0] 24)).heap.size=w.heap.size+1 from by simp]at this
 have hC:=Kd.YU (Kd.YU a3.out (Obj.cells #[Value.slice A0 l0.length c0] 24)) (Obj.cells #[Value.int IntKind.i64 a1] 3)
 refine(KIi 59 #[.pointer (some ⟨w.heap.size,0,none⟩),.pointer (some ⟨w.heap.size+1,0,none⟩)] (xJ l0 a1) k A0 c0 l0 (wrap64 ((l0.length:Int)-1)) r _ hC a2.out (fun _ _=>rfl) ?hp H.out).mono ?_
 case hp =>
  intro W i b hW hb
  exact XQi A0 c0 l0 a1 i b w.heap.size (w.heap.size+1) W (Kd.JE hC hW) a2.out ((kE (kJ h1 hW) 0).trans rfl) ((kE (kJ h2 hW) 0).trans rfl) hb
 rintro e w' ⟨v0,rfl,HO,hb⟩
 have a4:=am (Kd.JF HO (kG hb0))
 have HB2:=am (hb0.trans (hb.mono (kG hb0)))
 clear HO hb h1 h2 hC hb0
 go_wp2
 go_ret
 exact⟨v0,rfl,a4.out,HB2.out⟩
def vR(k:Nat)(l0:List (S31)):Option (List Bool):=(xH a0h k l0 (wrap64 ((l0.length:Int)-1))).bind fun a0=>(some a0)
theorem KHi(k:Nat)(A0:Option Addr)(c0:Nat)(l0:List (S31))(r:List Bool)(w:World)(hr0:Kd.C k31 w A0 l0.length l0)(hc0:l0.length≤c0)(h:vR k l0=some r) :
  Calls Tryz.prog 25 #[.slice A0 l0.length c0] w fun e w' =>∃a1:Value,e= .returned (a1)∧Kd.R Kd.bool 4 w' w.heap.size (fun _=>True) a1 r∧Below w.heap.size w w':=by
 have a3:=am hr0
 have a4:=am hc0
 clear hr0 hc0
 have HB:=am (Below.refl w.heap.size w)
 have H:=h
 clear h
 unfold vR at H
 replace H:=oA H;obtain⟨a6,A2,H⟩:=H
 obtain rfl:=oI H
 go_enter Tryz.func25,Tryz.ntmps25
 go_wp2_with (((with_reducible refine gW ?_);refine gC 37 (some 7) Tryz.func37 #[.slice A0 l0.length c0,.int .i64 (wrap64 ((l0.length:Int)-1)),.func (.func 51) #[] #[]] ?_;(with_reducible refine(KIi _ _ _ _ _ _ _ _ _ _ ?side1 ?side2 ?eg ?hp A2.out).mono ?_);(case eg=>exact fun _ _=>rfl);(case hp=>intro W i b _ h_;refine(XVi i b W h_).mono ?_;exact fun _ _ h=>h);(case side1=>exact sC a3.out);(case side2=>exact a4.out);rintro e w3 ⟨a5,rfl,a2,hb⟩;refine⟨_,rfl,?_⟩;have a0:=rL a2 HB;replace HB:=hB HB hb;(try clear hb);(try clear a2)))
 go_ret
 exact⟨_,rfl,sR<|a0.out,sW HB.out⟩
end Go.Proofs.YtkpipmojkhikaaaGreat.PAll
