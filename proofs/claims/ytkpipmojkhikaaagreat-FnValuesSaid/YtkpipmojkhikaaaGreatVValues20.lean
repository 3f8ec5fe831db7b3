/- Go functions as Lean functions: a call comes to what they say. -/
import Derived.Test.YtkpipmojkhikaaaGreatVValues16
import Derived.Test.YtkpipmojkhikaaaGreatVValues8
namespace Go.Proofs.YtkpipmojkhikaaaGreat.PAll
open Go.RowKit Go.A_ Go.B_ Go.C_ Go.D_
attribute [local go_sem] rF rC tE tD qK qJ rD rA
set_option linter.unusedVariables false
set_option maxHeartbeats 8000000
set_option maxRecDepth 100000
set_option linter.unusedSimpArgs false
theorem c1c{P:Prop}(h:P:=by repeat(first|(with_reducible first|exact HK.out|apply Kept.alloc|apply Kept.drewN|apply Kept.drew)|exact HK.out)):P:=h
theorem vS{P:Prop}(h:P:=by repeat(first|(with_reducible first|exact HK.out|apply Kept.alloc|apply Kept.drewN|apply Kept.drew|refine Kept.setCell ?_ (.inr GW395.out) _)|exact HK.out)):P:=h
@[reducible] def d5d:Array Bool:= #[false,false,false,false,false,false,false,false,false,false,false,false,false]
@[reducible] def d4z:Array Bool:= #[false,true,false,false,false,false,false,false,false,false,false,false,false]
@[reducible] def d4v:Array Bool:= #[false,true,true,false,false,false,false,false,false,false,false,false,false]
@[reducible] def d4r:Array Bool:= #[false,true,true,true,false,false,false,false,false,false,false,false,false]
@[reducible] def d4n:Array Bool:= #[false,true,true,true,false,true,false,false,false,false,false,false,false]
@[reducible] def d4j:Array Bool:= #[false,true,true,true,false,true,true,false,false,false,false,false,false]
@[reducible] def d4f:Array Bool:= #[false,true,true,true,false,true,true,false,true,false,false,false,false]
@[reducible] def d4b:Array Bool:= #[false,true,true,true,false,true,true,false,true,true,false,false,false]
@[reducible] def d3v:Array Bool:= #[true,true,true,true,false,true,true,false,true,true,false,false,false]
@[reducible] def d3r:Array Bool:= #[true,true,true,true,true,true,true,false,true,true,false,false,false]
@[reducible] def c9v:Array Bool:= #[true,true,true,true,true,true,true,true,true,true,false,false,false]
@[reducible] def c9r:Array Bool:= #[true,true,true,true,true,true,true,true,true,true,true,false,false]
@[reducible] def c9n:Array Bool:= #[true,true,true,true,true,true,true,true,true,true,true,true,false]
@[reducible] def c9k:Array Bool:= #[true,true,true,true,true,true,true,true,true,true,true,true,true]
mutual
def uJ(AT:List (S31)→List Int→Int→Option (Int×List Int)):Nat→List (S31)→List Int→Int→Int→Int→Int→Int→Int→Int→Int→Int→Int→Option (Int×List Int)
 | 0,_,_,_,_,_,_,_,_,_,_,_,_=>none
 | k+1,x0,x1,aD,aG,aF,aA,a3,a5,a0,a2,a1,a4=>(kY k a1).bind fun aI=>(if aA<aI then(if 0≤a0 then(if a0<(x1.length:Int)then((AT x0 (x1.set (a0:Int).toNat aA) a2).bind fun a9=>(if a9.1=1 then(uJ AT k x0 a9.2 aD aG 1 (wrap64 (aA+1)) a3 a5 a0 a2 a1 a4)else(uJ AT k x0 a9.2 aD 0 aF (wrap64 (aA+1)) a3 a5 a0 a2 a1 a4)))else(none))else(none))else(if 0≤a0 then(if a0<(x1.length:Int)then((some (x1.set (a0:Int).toNat aD:List Int)).bind fun aC=>(if a3=19 then(some (aG,aC))else(some (aF,aC))))else(none))else(none)))
def uI(AT:List (S31)→List Int→Int→Option (Int×List Int)):Nat→List (S31)→List Int→List Int→List Int→Int→List Int→Int→Int→Int→Int→Int→Int→Int→Option (Int×List Int)
 | 0,_,_,_,_,_,_,_,_,_,_,_,_,_=>none
 | k+1,x0,x1,x2,a8,aE,a7,a6,a3,a5,a0,a2,a1,a4=>if a6<(a7.length:Int)then(if 0≤a6 then(if 0≤(rd a7 a6)then(if(rd a7 a6)<(x2.length:Int)then(if a6<(a8.length:Int)then((some (a8.set (a6:Int).toNat (rd x2 (rd a7 a6)):List Int)).bind fun aB=>(if a6=0 then(if(rd a7 a6)<(x0.length:Int)then(uI AT k x0 x1 x2 aB ((kA x0 (rd a7 a6)).f1) a7 (wrap64 (a6+1)) a3 a5 a0 a2 a1 a4)else(none))else(uI AT k x0 x1 x2 aB aE a7 (wrap64 (a6+1)) a3 a5 a0 a2 a1 a4)))else(none))else(none))else(none))else(none))else(if 0<(a8.length:Int)then(if 1<(a8.length:Int)then(if 2<(a8.length:Int)then((zX k a3 a5 a0 a2 a1 a4 aE (rd a8 0) (rd a8 1) (rd a8 2)).bind fun aH=>(some (aH,x1)))else(none))else(none))else(none))
end
def zA(AT:List (S31)→List Int→Int→Option (Int×List Int))(k:Nat)(l0:List (S31))(l1:List Int)(l2:List Int)(a3:Int):Option (Int×List Int):=if 0≤a3 then(if a3<(l0.length:Int)then(if((kA l0 a3).f0)=1 then(if 0≤((kA l0 a3).f2)then(if((kA l0 a3).f2)<(l1.length:Int)then(some (rd l1 ((kA l0 a3).f2),l1))else(none))else(none))else((rH ((kA l0 a3).f0)).bind fun a1=>(if a1=true then(if 0≤((kA l0 a3).f2)then(if((kA l0 a3).f2)<(l1.length:Int)then(uJ AT k l0 l1 (rd l1 ((kA l0 a3).f2)) 1 0 0 ((kA l0 a3).f0) ((kA l0 a3).f1) ((kA l0 a3).f2) ((kA l0 a3).f3) ((kA l0 a3).f4) ((kA l0 a3).f5))else(none))else(none))else((sZ k ((kA l0 a3).f0) ((kA l0 a3).f1) ((kA l0 a3).f2) ((kA l0 a3).f3) ((kA l0 a3).f4) ((kA l0 a3).f5)).bind fun a0=>(uI AT k l0 l1 l2 (([0,0,0]:List Int)) 1 a0 0 ((kA l0 a3).f0) ((kA l0 a3).f1) ((kA l0 a3).f2) ((kA l0 a3).f3) ((kA l0 a3).f4) ((kA l0 a3).f5))))))else(none))else(none)
def a3e:Bool×List (List Nat×List Nat):=(true,[([],[]),([],[]),([],[]),([2],[2]),([3],[3]),([],[]),([5],[5]),([6],[6]),([],[]),([8],[8]),([9],[9]),([0,1,4,7,10],[0,1,4,7,10]),([11,11,0,1,2,3,4,5,6,7,8,9,10,11],[11])])
def a7t:List Nat:=[0,0,0,4,12,0,32,96,0,256,768,2047,4095]
theorem a5k:a4f .any (a7z Tryz.f48 27)=a3e:=by kernel_rfl
theorem a4r:yL a3e.2 a7t=true:=by kernel_rfl
theorem b1y{P:Prop}(h:P:=by
 simp only[Act.put,List.setIfInBounds_toArray,List.set_cons_zero,List.set_cons_succ,vB,a3w]
 rfl):P:=h
theorem XZi(AT:List (S31)→List Int→Int→Option (Int×List Int))(hAT :∀(A0:Option Addr) (c0:Nat) (l0:List (S31)) (P1_:Nat→Prop) (u9000_:Value) (l1:List Int) (a2 r1:Int) (r2:List Int) (w0 w:World) (hB:Below w0.heap.size w0 w) (hr0 :∀W_,Kept w W_ (fun k_=>P1_ k_)→Kd.C k31 W_ A0 l0.length l0) (hc0:l0.length≤c0) (dU:Kd.R (Kd.int .i64) 3 w w0.heap.size P1_ u9000_ l1) (h:AT l0 l1 a2=some (r1,r2)),Calls Tryz.prog 23 #[.slice A0 l0.length c0,u9000_,.int .i64 a2] w fun e w'=>e= .returned (.int .i64 r1)∧Kd.R (Kd.int .i64) 3 w' w0.heap.size (fun k_=>(P1_ k_∨w.heap.size≤k_)) u9000_ r2∧Below w0.heap.size w0 w'∧Kept w w' (fun k_=>P1_ k_))(k:Nat)(A0:Option Addr)(c0:Nat)(l0:List (S31))(P1_:Nat→Prop)(u9000_:Value)(l1:List Int)(A2:Option Addr)(c2:Nat)(l2:List Int)(a3 r1:Int)(r2:List Int)(w0 w:World)(hB:Below w0.heap.size w0 w)(hr0 :∀W_,Kept w W_ (fun k_=>P1_ k_)→Kd.C k31 W_ A0 l0.length l0)(hc0:l0.length≤c0)(dU:Kd.R (Kd.int .i64) 3 w w0.heap.size P1_ u9000_ l1)(hr2 :∀W_,Kept w W_ (fun k_=>P1_ k_)→Kd.C (Kd.int .i64) W_ A2 l2.length l2)(hc2:l2.length≤c2)(h:zA AT k l0 l1 l2 a3=some (r1,r2)) :
  Calls Tryz.prog 48 #[.slice A0 l0.length c0,u9000_,.slice A2 l2.length c2,.int .i64 a3] w fun e w'=>e= .returned (.int .i64 r1)∧Kd.R (Kd.int .i64) 3 w' w0.heap.size (fun k_=>(P1_ k_∨w.heap.size≤k_)) u9000_ r2∧Below w0.heap.size w0 w'∧Kept w w' (fun k_=>P1_ k_):=by
 have HAT:=am hAT
 clear hAT
 have hu31:=Tryz.underlying33
 have bF:=am hr0
 have dZ:=am hc0
 clear hr0 hc0
 have aA:=am (show Kd.R (Kd.int .i64) 3 w w0.heap.size (fun k_=>(P1_ k_∨w.heap.size≤k_)) u9000_ l1 from Kd.JC dU (fun k_ hk=>(.inl hk)))
 have dY:=am hr2
 have gI:=am hc2
 clear hr2 hc2
 have HK:=am (Kept.refl w (fun k_=>P1_ k_))
 have HW0:=am hB.size
 have HB:=am hB
 clear hB
 have H:=h
 clear h
 unfold zA at H
 replace H:=iN H;obtain⟨dB,H⟩:=H
 replace H:=iN H;obtain⟨dA,H⟩:=H
 replace H:=iE H;rcases H with⟨cH,cG,H⟩|⟨cH,cG,H⟩
 ·replace H:=iN H;obtain⟨g5,H⟩:=H
  replace H:=iN H;obtain⟨g4,H⟩:=H
  simp only[Option.some.injEq,Prod.mk.injEq]at H
  obtain⟨rfl,rfl⟩:=H
  obtain⟨bM,bK,bO,rfl,aZ,aY,aX,aW,aV,aU⟩:=ix (pE (Kd.JU bF.out HK.out) a3)
  go_enter Tryz.func48,Tryz.ntmps48
  go_wp2_with (((with_reducible refine gW ?_);refine bX 9 33 #[.int .i64 0,.int .i64 0,.int .i64 0,.int .i64 0,.int .i64 0,.int .i64 0] ?_;intro a1 hg w10 hbox hb;replace aA:=rB aA hb;have a0:=am hbox;have GW395:=am ((by rw[hg];exact(by exact HK.out.1):w.heap.size≤a1));replace HK:=am (Kept.below (S:=(fun k_=>P1_ k_)) (by exact c1c) hb);have cX:=am ((by rw[hg];exact(kG (by exact sW HB.out)):w0.heap.size≤a1));replace HB:=hB HB hb;clear hb hbox hg;have eV:=cf6 a0.out;obtain⟨gH,g3,rfl⟩:=Kd.JB aA.out;have cB:0≤(((kA l0 a3).f2):Int):=oD (by assumption);have bV:((kA l0 a3).f2)<(l1.length:Int):=oD (by assumption);obtain⟨b0,eD,aB⟩:=Kd.JD (Kd.JA aA.out).2.2 ((kA l0 a3).f2) cB bV;cases eD;have hn396_0:b0.block≠a1:=Kd.YH (Kd.YM aA.out a0.out (by decide));have hn396_1:b0.block≠a1:=Kd.YH (Kd.YM aA.out a0.out (by decide));have hn396_2:b0.block≠a1:=Kd.YH (Kd.YM aA.out a0.out (by decide));have hn396_3:b0.block≠a1:=Kd.YH (Kd.YM aA.out a0.out (by decide));have hn396_4:b0.block≠a1:=Kd.YH (Kd.YM aA.out a0.out (by decide));have hn396_5:b0.block≠a1:=Kd.YH (Kd.YM aA.out a0.out (by decide));replace aB:=(qC (p:=⟨a1,0,none⟩) (by(rw[tK];exact hn396_0)) (.int .i64 ((kA l0 a3).f0))).trans aB;replace aB:=(qC (p:=⟨a1,1,none⟩) (by(rw[tK];exact hn396_1)) (.int .i64 ((kA l0 a3).f1))).trans aB;replace aB:=(qC (p:=⟨a1,2,none⟩) (by(rw[tK];exact hn396_2)) (.int .i64 ((kA l0 a3).f2))).trans aB;replace aB:=(qC (p:=⟨a1,3,none⟩) (by(rw[tK];exact hn396_3)) (.int .i64 ((kA l0 a3).f3))).trans aB;replace aB:=(qC (p:=⟨a1,4,none⟩) (by(rw[tK];exact hn396_4)) (.int .i64 ((kA l0 a3).f4))).trans aB;replace aB:=(qC (p:=⟨a1,5,none⟩) (by(rw[tK];exact hn396_5)) (.int .i64 ((kA l0 a3).f5))).trans aB;clear hn396_0;clear hn396_1;clear hn396_2;clear hn396_3;clear hn396_4;clear hn396_5;replace cB:=eq_true cB;replace bV:=eq_true bV))
  go_ret
  exact⟨rfl,sR<|Kd.JC (Kd.JT (p:=⟨a1,5,none⟩) (Kd.JT (p:=⟨a1,4,none⟩) (Kd.JT (p:=⟨a1,3,none⟩) (Kd.JT (p:=⟨a1,2,none⟩) (Kd.JT (p:=⟨a1,1,none⟩) (Kd.JT (p:=⟨a1,0,none⟩) (Kd.YJ aA.out a0.out (by decide)) (fun _ hk=>hk.2) (.int .i64 ((kA l0 a3).f0))) (fun _ hk=>hk.2) (.int .i64 ((kA l0 a3).f1))) (fun _ hk=>hk.2) (.int .i64 ((kA l0 a3).f2))) (fun _ hk=>hk.2) (.int .i64 ((kA l0 a3).f3))) (fun _ hk=>hk.2) (.int .i64 ((kA l0 a3).f4))) (fun _ hk=>hk.2) (.int .i64 ((kA l0 a3).f5))) (fun _ hk=>hk.1),bW,by exact vS⟩
 replace H:=oA H;obtain⟨fX,e0,H⟩:=H
 replace H:=iB H;rcases H with⟨rfl,H⟩|⟨rfl,H⟩
 ·replace H:=iN H;obtain⟨dL,H⟩:=H
  replace H:=iN H;obtain⟨dK,H⟩:=H
  replace H:=am H
  obtain⟨bM,bK,bO,rfl,aZ,aY,aX,aW,aV,aU⟩:=ix (pE (Kd.JU bF.out HK.out) a3)
  go_enter Tryz.func48,Tryz.ntmps48
  go_wp2_with (((with_reducible refine gW ?_);first|(refine bX 9 33 #[.int .i64 0,.int .i64 0,.int .i64 0,.int .i64 0,.int .i64 0,.int .i64 0] ?_;intro a1 hg w17 hbox hb;replace aA:=rB aA hb;have a0:=am hbox;have GW395:=am ((by rw[hg];exact(by exact HK.out.1):w.heap.size≤a1));replace HK:=am (Kept.below (S:=(fun k_=>P1_ k_)) (by exact c1c) hb);have cX:=am ((by rw[hg];exact(kG (by exact sW HB.out)):w0.heap.size≤a1));replace HB:=hB HB hb;clear hb hbox hg;have d2:=cf6 a0.out)|(refine gD (some 32) Tryz.func21 rfl (JOi e0.out) fun nd=>?_;obtain⟨gE,aH,rfl⟩:=Kd.JB aA.out;have bL:0≤(((kA l0 a3).f2):Int):=oD (by assumption);have bJ:((kA l0 a3).f2)<(l1.length:Int):=oD (by assumption);obtain⟨aG,eC,a8⟩:=Kd.JD (Kd.JA aA.out).2.2 ((kA l0 a3).f2) bL bJ;cases eC;have hn398_0:aG.block≠a1:=Kd.YH (Kd.YM aA.out a0.out (by decide));have hn398_1:aG.block≠a1:=Kd.YH (Kd.YM aA.out a0.out (by decide));have hn398_2:aG.block≠a1:=Kd.YH (Kd.YM aA.out a0.out (by decide));have hn398_3:aG.block≠a1:=Kd.YH (Kd.YM aA.out a0.out (by decide));have hn398_4:aG.block≠a1:=Kd.YH (Kd.YM aA.out a0.out (by decide));have hn398_5:aG.block≠a1:=Kd.YH (Kd.YM aA.out a0.out (by decide));replace a8:=(qC (p:=⟨a1,0,none⟩) (by(rw[tK];exact hn398_0)) (.int .i64 ((kA l0 a3).f0))).trans a8;replace a8:=(qC (p:=⟨a1,1,none⟩) (by(rw[tK];exact hn398_1)) (.int .i64 ((kA l0 a3).f1))).trans a8;replace a8:=(qC (p:=⟨a1,2,none⟩) (by(rw[tK];exact hn398_2)) (.int .i64 ((kA l0 a3).f2))).trans a8;replace a8:=(qC (p:=⟨a1,3,none⟩) (by(rw[tK];exact hn398_3)) (.int .i64 ((kA l0 a3).f3))).trans a8;replace a8:=(qC (p:=⟨a1,4,none⟩) (by(rw[tK];exact hn398_4)) (.int .i64 ((kA l0 a3).f4))).trans a8;replace a8:=(qC (p:=⟨a1,5,none⟩) (by(rw[tK];exact hn398_5)) (.int .i64 ((kA l0 a3).f5))).trans a8;clear hn398_0;clear hn398_1;clear hn398_2;clear hn398_3;clear hn398_4;clear hn398_5;replace bL:=eq_true bL;replace bJ:=eq_true bJ;have hX2:=(kE (pB (cs':= #[.int .i64 ((kA l0 a3).f0),.int .i64 ((kA l0 a3).f1),.int .i64 ((kA l0 a3).f2),.int .i64 ((kA l0 a3).f3),.int .i64 ((kA l0 a3).f4),.int .i64 ((kA l0 a3).f5)]) (pB (cs':= #[.int .i64 ((kA l0 a3).f0),.int .i64 ((kA l0 a3).f1),.int .i64 ((kA l0 a3).f2),.int .i64 ((kA l0 a3).f3),.int .i64 ((kA l0 a3).f4),.int .i64 0]) (pB (cs':= #[.int .i64 ((kA l0 a3).f0),.int .i64 ((kA l0 a3).f1),.int .i64 ((kA l0 a3).f2),.int .i64 ((kA l0 a3).f3),.int .i64 0,.int .i64 0]) (pB (cs':= #[.int .i64 ((kA l0 a3).f0),.int .i64 ((kA l0 a3).f1),.int .i64 ((kA l0 a3).f2),.int .i64 0,.int .i64 0,.int .i64 0]) (pB (cs':= #[.int .i64 ((kA l0 a3).f0),.int .i64 ((kA l0 a3).f1),.int .i64 0,.int .i64 0,.int .i64 0,.int .i64 0]) (pB (cs':= #[.int .i64 ((kA l0 a3).f0),.int .i64 0,.int .i64 0,.int .i64 0,.int .i64 0,.int .i64 0]) a0.out 0 (.int .i64 ((kA l0 a3).f0)) rfl) 1 (.int .i64 ((kA l0 a3).f1)) rfl) 2 (.int .i64 ((kA l0 a3).f2)) rfl) 3 (.int .i64 ((kA l0 a3).f3)) rfl) 4 (.int .i64 ((kA l0 a3).f4)) rfl) 5 (.int .i64 ((kA l0 a3).f5)) rfl) 2).trans rfl;generalize hwX:((((((w17.setCell ⟨a1,0,none⟩ (.int .i64 ((kA l0 a3).f0))).setCell ⟨a1,1,none⟩ (.int .i64 ((kA l0 a3).f1))).setCell ⟨a1,2,none⟩ (.int .i64 ((kA l0 a3).f2))).setCell ⟨a1,3,none⟩ (.int .i64 ((kA l0 a3).f3))).setCell ⟨a1,4,none⟩ (.int .i64 ((kA l0 a3).f4))).setCell ⟨a1,5,none⟩ (.int .i64 ((kA l0 a3).f5)))=wX at a8 hX2 ⊢;have HWX:=am hwX;clear hwX)))
  obtain hwX:=HWX.out
  subst hwX
  clear a8 hX2
  go_loopg [11,12,13] k (fun kq f6 eZ eY w' =>∃(a9:List Int) (b4:Int) (b3:Int) (aI:Int),f6= .int .i64 b4∧eZ= .int .i64 b3∧eY= .int .i64 aI∧Aside0 (uJ AT kq l0 a9 (rd l1 ((kA l0 a3).f2)) b4 b3 aI ((kA l0 a3).f0) ((kA l0 a3).f1) ((kA l0 a3).f2) ((kA l0 a3).f3) ((kA l0 a3).f4) ((kA l0 a3).f5)=some (r1,r2))∧Aside0 (kq≤k)∧Aside0 (Kd.R (Kd.int .i64) 3 w' w0.heap.size (fun k_=>(P1_ k_∨w.heap.size≤k_)) (.slice (some aG) l1.length aH) a9)∧Aside0 (w'.heap[a1]? = some (.cells #[.int .i64 ((kA l0 a3).f0),.int .i64 ((kA l0 a3).f1),.int .i64 ((kA l0 a3).f2),.int .i64 ((kA l0 a3).f3),.int .i64 ((kA l0 a3).f4),.int .i64 ((kA l0 a3).f5)] 33 (0,0)))∧Aside0 (Kept w w' (fun k_=>P1_ k_))∧Aside0 (Below w0.heap.size w0 w'))
  case atStart=>exact⟨l1,1,0,0,rfl,rfl,rfl,H,⟨Nat.le_refl _⟩,⟨sR<|Kd.JC (Kd.JT (p:=⟨a1,5,none⟩) (Kd.JT (p:=⟨a1,4,none⟩) (Kd.JT (p:=⟨a1,3,none⟩) (Kd.JT (p:=⟨a1,2,none⟩) (Kd.JT (p:=⟨a1,1,none⟩) (Kd.JT (p:=⟨a1,0,none⟩) (Kd.YJ aA.out a0.out (by decide)) (fun _ hk=>hk.2) (.int .i64 ((kA l0 a3).f0))) (fun _ hk=>hk.2) (.int .i64 ((kA l0 a3).f1))) (fun _ hk=>hk.2) (.int .i64 ((kA l0 a3).f2))) (fun _ hk=>hk.2) (.int .i64 ((kA l0 a3).f3))) (fun _ hk=>hk.2) (.int .i64 ((kA l0 a3).f4))) (fun _ hk=>hk.2) (.int .i64 ((kA l0 a3).f5))) (fun _ hk=>hk.1)⟩,⟨by(with_reducible repeat(first|refine pR ?_ _|refine kW ?_|refine oZ ?_ _));refine pB (cs:= #[.int .i64 ((kA l0 a3).f0),.int .i64 ((kA l0 a3).f1),.int .i64 ((kA l0 a3).f2),.int .i64 ((kA l0 a3).f3),.int .i64 ((kA l0 a3).f4),.int .i64 0]) ?_ 5 _ rfl;(with_reducible repeat(first|refine pR ?_ _|refine kW ?_|refine oZ ?_ _));refine pB (cs:= #[.int .i64 ((kA l0 a3).f0),.int .i64 ((kA l0 a3).f1),.int .i64 ((kA l0 a3).f2),.int .i64 ((kA l0 a3).f3),.int .i64 0,.int .i64 0]) ?_ 4 _ rfl;(with_reducible repeat(first|refine pR ?_ _|refine kW ?_|refine oZ ?_ _));refine pB (cs:= #[.int .i64 ((kA l0 a3).f0),.int .i64 ((kA l0 a3).f1),.int .i64 ((kA l0 a3).f2),.int .i64 0,.int .i64 0,.int .i64 0]) ?_ 3 _ rfl;(with_reducible repeat(first|refine pR ?_ _|refine kW ?_|refine oZ ?_ _));refine pB (cs:= #[.int .i64 ((kA l0 a3).f0),.int .i64 ((kA l0 a3).f1),.int .i64 0,.int .i64 0,.int .i64 0,.int .i64 0]) ?_ 2 _ rfl;(with_reducible repeat(first|refine pR ?_ _|refine kW ?_|refine oZ ?_ _));refine pB (cs:= #[.int .i64 ((kA l0 a3).f0),.int .i64 0,.int .i64 0,.int .i64 0,.int .i64 0,.int .i64 0]) ?_ 1 _ rfl;(with_reducible repeat(first|refine pR ?_ _|refine kW ?_|refine oZ ?_ _));refine pB (cs:= #[.int .i64 0,.int .i64 0,.int .i64 0,.int .i64 0,.int .i64 0,.int .i64 0]) ?_ 0 _ rfl;exact sB<|a0.out⟩,⟨by exact vS⟩,⟨bW⟩⟩
  case round=>as_aux_lemma =>
   clear H
   clear dB dA cH cG dL dK d2 aZ aY aX aW aV aU bM bL bK bJ
   obtain⟨a9,b4,b3,aI,rfl,rfl,rfl,HA,b2,a4,a0,HK,HB⟩:=hrel
   have hl1_1:=(Kd.JA a4.out).1
   rw[hl1_1]at a4
   (try simp only[hl1_1])
   (try simp only[hl1_1]at a0)
   cases gk with
   | zero=>cases HA.out
   | succ k1 =>
    obtain⟨H⟩:=HA
    simp only[uJ]at H
    replace H:=oA H;obtain⟨fW,cY,H⟩:=H
    replace H:=iD H;rcases H with⟨dJ,H⟩|⟨dJ,H⟩
    ·replace H:=iN H;obtain⟨fU,H⟩:=H
     replace H:=iN H;obtain⟨fT,H⟩:=H
     generalize cS:a9.set (((kA l0 a3).f2):Int).toNat aI=bH at H
     have cW:=am cS.symm;clear cS
     replace H:=oA H;obtain⟨⟨d4,bI⟩,d_,H⟩:=H
     try dsimp only at H
     replace H:=iE H;rcases H with⟨dI,dH,H⟩|⟨dI,dH,H⟩
     ·replace H:=am H
      have eU:=cf6 a0.out
      go_wp2_with (((with_reducible refine gW ?_);first|(refine gD (some 41) Tryz.func46 rfl (JCi cY.out) fun nd=>?_;(try(rw[rQ wr];generalize hq_:World.drewN wr _=wr;have aQ:Aside0 (Kd.R (Kd.int .i64) 3 wr w0.heap.size (fun k_=>(P1_ k_∨w.heap.size≤k_)) (.slice (some aG) a9.length aH) a9):=⟨by rw[← hq_];exact(by exact sR<|a4.out)⟩;have aO:Aside0 (wr.heap[a1]? = some (.cells #[.int .i64 ((kA l0 a3).f0),.int .i64 ((kA l0 a3).f1),.int .i64 ((kA l0 a3).f2),.int .i64 ((kA l0 a3).f3),.int .i64 ((kA l0 a3).f4),.int .i64 ((kA l0 a3).f5)] 33 (0,0))):=⟨by rw[← hq_];exact(by exact sB<|a0.out)⟩;have aN:Aside0 (Kept w wr (fun k_=>P1_ k_)):=⟨by rw[← hq_];exact(by exact vS)⟩;have aM:Aside0 (Below w0.heap.size w0 wr):=⟨by rw[← hq_];exact(by exact bW)⟩;clear a4 a0 HK HB hq_;have a4:=aQ;have a0:=aO;have HK:=aN;have HB:=aM;clear aQ aO aN aM));have hcy_0:=(kE a0.out 0).trans (show _=some (Value.int .i64 ((kA l0 a3).f0))from rfl);have hcy_2:=(kE a0.out 2).trans (show _=some (Value.int .i64 ((kA l0 a3).f2))from rfl);have hcy_3:=(kE a0.out 3).trans (show _=some (Value.int .i64 ((kA l0 a3).f3))from rfl);have hcy_4:=(kE a0.out 4).trans (show _=some (Value.int .i64 ((kA l0 a3).f4))from rfl);have bB:0≤(((kA l0 a3).f2):Int):=oD (by assumption);have b8:(((kA l0 a3).f2):Int)<((a9.length:Int):Int):=oD (by assumption);obtain⟨aE,eF,cF,bE,gl24,cl24,HG24⟩:=Kd.JZ a4.out oM;(cases cF);have cQ:=am bE;have GG24:=am HG24;clear bE gl24 HG24;have HMgo24:=am (show(P1_ aE∨w.heap.size≤aE)from(a4.out.1 _ rfl));(skip);obtain⟨d7,hf24_0⟩:=Kd.JH 0 a4.out (((kA l0 a3).f2):Int) bB b8;replace bB:=eq_true bB;replace b8:=eq_true b8;obtain⟨fF,hz28_⟩:=Kd.JH 0 a4.out (((kA l0 a3).f2):Int) (oD (by assumption)) (oD (by assumption));have cN:=Kd.JO a4.out (((kA l0 a3).f2):Int) aI)|((with_reducible refine pY (t:=3) (p:=49) rfl ?_);refine pH (t:=3) (p:=49) (v:=?vo_w29) (w1:=(wr.setCell ⟨aE,(((kA l0 a3).f2):Int).toNat,none⟩ (.int .i64 aI))) ?hg ?ho ?hn ?hr ?_;(case ho=>rfl);(case hg=>rfl);(case hn=>rfl);(case hr=>(go_simp;done));intro w29 hw;have hg:wr.grownBy w29 (some aE):=(by rw[hw];exact cN.2);have hp_:Kd.R (Kd.int .i64) 3 w29 w0.heap.size (fun k_=>(P1_ k_∨w.heap.size≤k_)) (.slice (some ⟨aE,0,none⟩) a9.length aH) bH:=(by rw[hw,cW.out];exact cN.1);clear cN;replace a0:=gG a0 hg a4;replace HB:=am ((by rw[hw];exact kR (HB.out) cQ.out:Below w0.heap.size w0 w29));replace HK:=am (qM (S:=(fun k_=>P1_ k_)) hg (by exact vS) (fun k_ e_=>(a4.out.1 k_ e_)));replace a4:=am hp_;clear hg hw hp_;have eT:=cf6 a0.out)|(refine gF 23 (some 54) rfl ?_;refine gS Tryz.func23 (HAT.out _ _ l0 (fun k_=>some k_=(.slice (some ⟨aE,0,none⟩) a9.length aH:Value).ownBlock) (.slice (some ⟨aE,0,none⟩) a9.length aH) bH ((kA l0 a3).f3) d4 bI w0 _ bW (Kd.YV bF.out (by exact vS) (fun k_ hs_=>(fun e_=>(a4.out.1 k_ e_.symm)) hs_)) dZ.out (Kd.JL rfl a4.out) d_.out) ?_;rintro w31 ⟨bP,hb,hkp⟩;replace a0:=am (xD (by exact sB<|a0.out) hkp (fun hs_=>(fun e_=>(Kd.YM a4.out a0.out (by decide)) e_) hs_));replace HK:=am (Kept.then_ (S:=(fun k_=>P1_ k_)) (by exact vS) hkp (fun k_ hs_=>(fun e_=>(a4.out.1 k_ e_.symm)) hs_));replace a4:=am (Kd.XK rfl bP (fun k_ e_=>a4.out.1 k_ e_));replace HB:=am hb;(try clear hb);(try clear hkp);(try clear bP))))
      (try simp only[← hl1_1])
      rw[show(({block:=aE,off:=((kA l0 a3).f2).toNat}:Addr))=(⟨aE,0,none⟩:Addr).add ((kA l0 a3).f2).toNat from by simp[pW]]
      go_roundg k1
      case measure=>have:=b2.out;omega
      case rel=>exact⟨bI,b4,1,(wrap64 (aI+1)),rfl,rfl,rfl,H,⟨by have:=b2.out;omega⟩,⟨by(try simp only[hl1_1]);exact sR<|a4.out⟩,⟨by(try simp only[hl1_1]);exact sB<|a0.out⟩,⟨by exact vS⟩,⟨bW⟩⟩
     replace H:=am H
     have eS:=cf6 a0.out
     go_wp2_with (((with_reducible refine gW ?_);first|(refine gD (some 41) Tryz.func46 rfl (JCi cY.out) fun nd=>?_;(try(rw[rQ wr];generalize hq_:World.drewN wr _=wr;have aQ:Aside0 (Kd.R (Kd.int .i64) 3 wr w0.heap.size (fun k_=>(P1_ k_∨w.heap.size≤k_)) (.slice (some aG) a9.length aH) a9):=⟨by rw[← hq_];exact(by exact sR<|a4.out)⟩;have aO:Aside0 (wr.heap[a1]? = some (.cells #[.int .i64 ((kA l0 a3).f0),.int .i64 ((kA l0 a3).f1),.int .i64 ((kA l0 a3).f2),.int .i64 ((kA l0 a3).f3),.int .i64 ((kA l0 a3).f4),.int .i64 ((kA l0 a3).f5)] 33 (0,0))):=⟨by rw[← hq_];exact(by exact sB<|a0.out)⟩;have aN:Aside0 (Kept w wr (fun k_=>P1_ k_)):=⟨by rw[← hq_];exact(by exact vS)⟩;have aM:Aside0 (Below w0.heap.size w0 wr):=⟨by rw[← hq_];exact(by exact bW)⟩;clear a4 a0 HK HB hq_;have a4:=aQ;have a0:=aO;have HK:=aN;have HB:=aM;clear aQ aO aN aM));have hcy_0:=(kE a0.out 0).trans (show _=some (Value.int .i64 ((kA l0 a3).f0))from rfl);have hcy_2:=(kE a0.out 2).trans (show _=some (Value.int .i64 ((kA l0 a3).f2))from rfl);have hcy_3:=(kE a0.out 3).trans (show _=some (Value.int .i64 ((kA l0 a3).f3))from rfl);have hcy_4:=(kE a0.out 4).trans (show _=some (Value.int .i64 ((kA l0 a3).f4))from rfl);have bB:0≤(((kA l0 a3).f2):Int):=oD (by assumption);have b8:(((kA l0 a3).f2):Int)<((a9.length:Int):Int):=oD (by assumption);obtain⟨aE,eF,cF,bE,gl24,cl24,HG24⟩:=Kd.JZ a4.out oM;(cases cF);have cQ:=am bE;have GG24:=am HG24;clear bE gl24 HG24;have HMgo24:=am (show(P1_ aE∨w.heap.size≤aE)from(a4.out.1 _ rfl));obtain⟨d7,hf24_0⟩:=Kd.JH 0 a4.out (((kA l0 a3).f2):Int) bB b8;replace bB:=eq_true bB;replace b8:=eq_true b8;obtain⟨fE,hz33_⟩:=Kd.JH 0 a4.out (((kA l0 a3).f2):Int) (oD (by assumption)) (oD (by assumption));have cM:=Kd.JO a4.out (((kA l0 a3).f2):Int) aI)|((with_reducible refine pY (t:=3) (p:=49) rfl ?_);refine pH (t:=3) (p:=49) (v:=?vo_w34) (w1:=(wr.setCell ⟨aE,(((kA l0 a3).f2):Int).toNat,none⟩ (.int .i64 aI))) ?hg ?ho ?hn ?hr ?_;(case ho=>rfl);(case hg=>rfl);(case hn=>rfl);(case hr=>(go_simp;done));intro w34 hw;have hg:wr.grownBy w34 (some aE):=(by rw[hw];exact cM.2);have hp_:Kd.R (Kd.int .i64) 3 w34 w0.heap.size (fun k_=>(P1_ k_∨w.heap.size≤k_)) (.slice (some ⟨aE,0,none⟩) a9.length aH) bH:=(by rw[hw,cW.out];exact cM.1);clear cM;replace a0:=gG a0 hg a4;replace HB:=am ((by rw[hw];exact kR (HB.out) cQ.out:Below w0.heap.size w0 w34));replace HK:=am (qM (S:=(fun k_=>P1_ k_)) hg (by exact vS) (fun k_ e_=>(a4.out.1 k_ e_)));replace a4:=am hp_;clear hg hw hp_;have eR:=cf6 a0.out)|(refine gF 23 (some 54) rfl ?_;refine gS Tryz.func23 (HAT.out _ _ l0 (fun k_=>some k_=(.slice (some ⟨aE,0,none⟩) a9.length aH:Value).ownBlock) (.slice (some ⟨aE,0,none⟩) a9.length aH) bH ((kA l0 a3).f3) d4 bI w0 _ bW (Kd.YV bF.out (by exact vS) (fun k_ hs_=>(fun e_=>(a4.out.1 k_ e_.symm)) hs_)) dZ.out (Kd.JL rfl a4.out) d_.out) ?_;rintro w36 ⟨bP,hb,hkp⟩;replace a0:=am (xD (by exact sB<|a0.out) hkp (fun hs_=>(fun e_=>(Kd.YM a4.out a0.out (by decide)) e_) hs_));replace HK:=am (Kept.then_ (S:=(fun k_=>P1_ k_)) (by exact vS) hkp (fun k_ hs_=>(fun e_=>(a4.out.1 k_ e_.symm)) hs_));replace a4:=am (Kd.XK rfl bP (fun k_ e_=>a4.out.1 k_ e_));replace HB:=am hb;(try clear hb);(try clear hkp);(try clear bP))))
     (try simp only[← hl1_1])
     rw[show(({block:=aE,off:=((kA l0 a3).f2).toNat}:Addr))=(⟨aE,0,none⟩:Addr).add ((kA l0 a3).f2).toNat from by simp[pW]]
     go_roundg k1
     case measure=>have:=b2.out;omega
     case rel=>exact⟨bI,0,b3,(wrap64 (aI+1)),rfl,rfl,rfl,H,⟨by have:=b2.out;omega⟩,⟨by(try simp only[hl1_1]);exact sR<|a4.out⟩,⟨by(try simp only[hl1_1]);exact sB<|a0.out⟩,⟨by exact vS⟩,⟨bW⟩⟩
    replace H:=iN H;obtain⟨fS,H⟩:=H
    replace H:=iN H;obtain⟨fR,H⟩:=H
    replace H:=oS H;obtain⟨d3,cV,H⟩:=H
    replace H:=iE H;rcases H with⟨dG,dF,H⟩|⟨dG,dF,H⟩
    ·simp only[Option.some.injEq,Prod.mk.injEq]at H
     obtain⟨rfl,rfl⟩:=H
     have eQ:=cf6 a0.out
     go_wp2_with (((with_reducible refine gW ?_);first|(refine gD (some 41) Tryz.func46 rfl (JCi cY.out) fun nd=>?_;(try(rw[rQ wr];generalize hq_:World.drewN wr _=wr;have aQ:Aside0 (Kd.R (Kd.int .i64) 3 wr w0.heap.size (fun k_=>(P1_ k_∨w.heap.size≤k_)) (.slice (some aG) a9.length aH) a9):=⟨by rw[← hq_];exact(by exact sR<|a4.out)⟩;have aO:Aside0 (wr.heap[a1]? = some (.cells #[.int .i64 ((kA l0 a3).f0),.int .i64 ((kA l0 a3).f1),.int .i64 ((kA l0 a3).f2),.int .i64 ((kA l0 a3).f3),.int .i64 ((kA l0 a3).f4),.int .i64 ((kA l0 a3).f5)] 33 (0,0))):=⟨by rw[← hq_];exact(by exact sB<|a0.out)⟩;have aN:Aside0 (Kept w wr (fun k_=>P1_ k_)):=⟨by rw[← hq_];exact(by exact vS)⟩;have aM:Aside0 (Below w0.heap.size w0 wr):=⟨by rw[← hq_];exact(by exact bW)⟩;clear a4 a0 HK HB hq_;have a4:=aQ;have a0:=aO;have HK:=aN;have HB:=aM;clear aQ aO aN aM));have hcy_0:=(kE a0.out 0).trans (show _=some (Value.int .i64 ((kA l0 a3).f0))from rfl);have hcy_2:=(kE a0.out 2).trans (show _=some (Value.int .i64 ((kA l0 a3).f2))from rfl);have hcy_3:=(kE a0.out 3).trans (show _=some (Value.int .i64 ((kA l0 a3).f3))from rfl);have hcy_4:=(kE a0.out 4).trans (show _=some (Value.int .i64 ((kA l0 a3).f4))from rfl);have bA:0≤(((kA l0 a3).f2):Int):=oD (by assumption);have b7:(((kA l0 a3).f2):Int)<((a9.length:Int):Int):=oD (by assumption);obtain⟨aJ,eE,cE,bD,gl39,cl39,HG39⟩:=Kd.JZ a4.out oM;(cases cE);have cP:=am bD;have GG39:=am HG39;clear bD gl39 HG39;have HMgo39:=am (show(P1_ aJ∨w.heap.size≤aJ)from(a4.out.1 _ rfl));obtain⟨d6,hf39_0⟩:=Kd.JH 0 a4.out (((kA l0 a3).f2):Int) bA b7;replace bA:=eq_true bA;replace b7:=eq_true b7;obtain⟨fD,hz42_⟩:=Kd.JH 0 a4.out (((kA l0 a3).f2):Int) (oD (by assumption)) (oD (by assumption));have cL:=Kd.JO a4.out (((kA l0 a3).f2):Int) (rd l1 ((kA l0 a3).f2)))|((with_reducible refine pY (t:=3) (p:=60) rfl ?_);refine pH (t:=3) (p:=60) (v:=?vo_w43) (w1:=(wr.setCell ⟨aJ,(((kA l0 a3).f2):Int).toNat,none⟩ (.int .i64 (rd l1 ((kA l0 a3).f2))))) ?hg ?ho ?hn ?hr ?_;(case ho=>rfl);(case hg=>rfl);(case hn=>rfl);(case hr=>(go_simp;done));intro w43 hw;have hg:wr.grownBy w43 (some aJ):=(by rw[hw];exact cL.2);have hp_:Kd.R (Kd.int .i64) 3 w43 w0.heap.size (fun k_=>(P1_ k_∨w.heap.size≤k_)) (.slice (some ⟨aJ,0,none⟩) a9.length aH) d3:=(by rw[hw,cV.out];exact cL.1);clear cL;replace a0:=gG a0 hg a4;replace HB:=am ((by rw[hw];exact kR (HB.out) cP.out:Below w0.heap.size w0 w43));replace HK:=am (qM (S:=(fun k_=>P1_ k_)) hg (by exact vS) (fun k_ e_=>(a4.out.1 k_ e_)));replace a4:=am hp_;clear hg hw hp_;have eP:=cf6 a0.out)))
     go_ret
     exact⟨rfl,(by exact(sR<|a4.out)),bW,by exact vS⟩
    simp only[Option.some.injEq,Prod.mk.injEq]at H
    obtain⟨rfl,rfl⟩:=H
    have eO:=cf6 a0.out
    go_wp2_with (((with_reducible refine gW ?_);first|(refine gD (some 41) Tryz.func46 rfl (JCi cY.out) fun nd=>?_;(try(rw[rQ wr];generalize hq_:World.drewN wr _=wr;have aQ:Aside0 (Kd.R (Kd.int .i64) 3 wr w0.heap.size (fun k_=>(P1_ k_∨w.heap.size≤k_)) (.slice (some aG) a9.length aH) a9):=⟨by rw[← hq_];exact(by exact sR<|a4.out)⟩;have aO:Aside0 (wr.heap[a1]? = some (.cells #[.int .i64 ((kA l0 a3).f0),.int .i64 ((kA l0 a3).f1),.int .i64 ((kA l0 a3).f2),.int .i64 ((kA l0 a3).f3),.int .i64 ((kA l0 a3).f4),.int .i64 ((kA l0 a3).f5)] 33 (0,0))):=⟨by rw[← hq_];exact(by exact sB<|a0.out)⟩;have aN:Aside0 (Kept w wr (fun k_=>P1_ k_)):=⟨by rw[← hq_];exact(by exact vS)⟩;have aM:Aside0 (Below w0.heap.size w0 wr):=⟨by rw[← hq_];exact(by exact bW)⟩;clear a4 a0 HK HB hq_;have a4:=aQ;have a0:=aO;have HK:=aN;have HB:=aM;clear aQ aO aN aM));have hcy_0:=(kE a0.out 0).trans (show _=some (Value.int .i64 ((kA l0 a3).f0))from rfl);have hcy_2:=(kE a0.out 2).trans (show _=some (Value.int .i64 ((kA l0 a3).f2))from rfl);have hcy_3:=(kE a0.out 3).trans (show _=some (Value.int .i64 ((kA l0 a3).f3))from rfl);have hcy_4:=(kE a0.out 4).trans (show _=some (Value.int .i64 ((kA l0 a3).f4))from rfl);have bA:0≤(((kA l0 a3).f2):Int):=oD (by assumption);have b7:(((kA l0 a3).f2):Int)<((a9.length:Int):Int):=oD (by assumption);obtain⟨aJ,eE,cE,bD,gl39,cl39,HG39⟩:=Kd.JZ a4.out oM;(cases cE);have cP:=am bD;have GG39:=am HG39;clear bD gl39 HG39;have HMgo39:=am (show(P1_ aJ∨w.heap.size≤aJ)from(a4.out.1 _ rfl));obtain⟨d6,hf39_0⟩:=Kd.JH 0 a4.out (((kA l0 a3).f2):Int) bA b7;replace bA:=eq_true bA;replace b7:=eq_true b7;obtain⟨fC,hz46_⟩:=Kd.JH 0 a4.out (((kA l0 a3).f2):Int) (oD (by assumption)) (oD (by assumption));have cK:=Kd.JO a4.out (((kA l0 a3).f2):Int) (rd l1 ((kA l0 a3).f2)))|((with_reducible refine pY (t:=3) (p:=60) rfl ?_);refine pH (t:=3) (p:=60) (v:=?vo_w47) (w1:=(wr.setCell ⟨aJ,(((kA l0 a3).f2):Int).toNat,none⟩ (.int .i64 (rd l1 ((kA l0 a3).f2))))) ?hg ?ho ?hn ?hr ?_;(case ho=>rfl);(case hg=>rfl);(case hn=>rfl);(case hr=>(go_simp;done));intro w47 hw;have hg:wr.grownBy w47 (some aJ):=(by rw[hw];exact cK.2);have hp_:Kd.R (Kd.int .i64) 3 w47 w0.heap.size (fun k_=>(P1_ k_∨w.heap.size≤k_)) (.slice (some ⟨aJ,0,none⟩) a9.length aH) d3:=(by rw[hw,cV.out];exact cK.1);clear cK;replace a0:=gG a0 hg a4;replace HB:=am ((by rw[hw];exact kR (HB.out) cP.out:Below w0.heap.size w0 w47));replace HK:=am (qM (S:=(fun k_=>P1_ k_)) hg (by exact vS) (fun k_ e_=>(a4.out.1 k_ e_)));replace a4:=am hp_;clear hg hw hp_;have eN:=cf6 a0.out)))
    go_ret
    exact⟨rfl,(by exact(sR<|a4.out)),bW,by exact vS⟩
 generalize cR:([0,0,0]:List Int)=e1 at H
 have dS:=am cR.symm;clear cR
 replace H:=oA H;obtain⟨aF,f8,H⟩:=H
 replace H:=am H
 obtain⟨bM,bK,bO,rfl,aZ,aY,aX,aW,aV,aU⟩:=ix (pE (Kd.JU bF.out HK.out) a3)
 go_enter Tryz.func48,Tryz.ntmps48
 go_wp2_with (((with_reducible refine gW ?_);first|(refine bX 9 33 #[.int .i64 0,.int .i64 0,.int .i64 0,.int .i64 0,.int .i64 0,.int .i64 0] ?_;intro a1 hg w50 hbox hb;replace aA:=rB aA hb;have a0:=am hbox;have GW395:=am ((by rw[hg];exact(by exact HK.out.1):w.heap.size≤a1));replace HK:=am (Kept.below (S:=(fun k_=>P1_ k_)) (by exact c1c) hb);have cX:=am ((by rw[hg];exact(kG (by exact sW HB.out)):w0.heap.size≤a1));replace HB:=hB HB hb;clear hb hbox hg;have d1:=cf6 a0.out)|(refine gD (some 32) Tryz.func21 rfl (JOi e0.out) fun nd=>?_)|((with_reducible refine pU (N:=66) rfl ?_);refine Kd.YC (Kd.int .i64) _ 3 ?hg (N:=66) ?hd (xs:=([0,0,0]:List Int)) (inner:=[.int .i64 0,.int .i64 0,.int .i64 0]) (ok:=fun _=>True) (okp:=fun _=>True) ?hr ?hp (fun _ hk=>hk) trivial (Below.refl _ _) (Nat.le_refl _) (by simp) ?_;(case hd=>rfl);(case hg=>rfl);(case hr=>(go_simp;done));(case hp=>exact(Reps.one (show Kd.M (Kd.int .i64) _ _ _ 0 [.int .i64 0]from rfl) (Reps.one (show Kd.M (Kd.int .i64) _ _ _ 0 [.int .i64 0]from rfl) (Reps.one (show Kd.M (Kd.int .i64) _ _ _ 0 [.int .i64 0]from rfl) (Reps.none _ _)))));intro bR w52 bN hb hg_ hnew_;clear hg_ hnew_;(rw[← dS.out]at bN);have b5:=am (Kd.JF (Kd.JN (Kd.YK (M:=fun k_=>(P1_ k_∨w.heap.size≤k_)) bN (show Kept w _ (fun k_=>P1_ k_)from by exact vS).1 (fun k_ h_=> .inr h_)) (Kd.JM (by exact sR<|(rm (rf 5 (rf 4 (rf 3 (rf 2 (rf 1 (rf 0 (ry aA a0))))))))))) (kG (by exact bW)));replace aA:=am (Kd.JS (by exact sR<|(rm (rf 5 (rf 4 (rf 3 (rf 2 (rf 1 (rf 0 (ry aA a0))))))))) (Kd.JX bN) hb);replace a0:=am (kJ (by exact sB<|pn (by exact sB<|a0.out)) hb);replace HK:=am (Kept.below (S:=(fun k_=>P1_ k_)) (by exact vS) hb);replace HB:=hX hb;clear hb bN;have d0:=cf6 a0.out)|(refine gF 45 (some 68) rfl ?_;refine gT Tryz.func45 (JRi f8.out) ?_;rintro bQ w55 ⟨cT,hb⟩;have dT:=am (Kd.JF (Kd.JN (Kd.JN (Kd.YK (M:=fun k_=>(P1_ k_∨w.heap.size≤k_)) cT (by exact HK.out.1) (fun k_ h_=> .inr h_)) (Kd.JM (by exact sR<|aA.out))) (Kd.JM (by exact sR<|b5.out))) (kG (by exact bW)));replace aA:=rE aA cT hb;replace b5:=rE b5 cT hb;replace a0:=gB a0 hb;replace HK:=am (Kept.below (S:=(fun k_=>P1_ k_)) (by exact vS) hb);replace HB:=hX hb;(try clear hb);(try clear cT))))
 go_loopg [15,17] k (fun kq eX eW w' =>∃(a5:List Int) (b1:Int) (a6:Int),eX= .int .i64 b1∧eW= .int .i64 a6∧Aside0 (uI AT kq l0 l1 l2 a5 b1 aF a6 ((kA l0 a3).f0) ((kA l0 a3).f1) ((kA l0 a3).f2) ((kA l0 a3).f3) ((kA l0 a3).f4) ((kA l0 a3).f5)=some (r1,r2))∧Aside0 (kq≤k)∧Aside0 (Kd.R (Kd.int .i64) 3 w' w0.heap.size (fun k_=>(P1_ k_∨w.heap.size≤k_)∧some k_≠(bR:Value).ownBlock∧some k_≠(bQ:Value).ownBlock) u9000_ l1)∧Aside0 (Kd.R (Kd.int .i64) 3 w' w0.heap.size (fun k_=>(P1_ k_∨w.heap.size≤k_)∧some k_≠(u9000_:Value).ownBlock∧some k_≠(bQ:Value).ownBlock) bR a5)∧Aside0 (Kd.R (Kd.int .i64) 3 w' w0.heap.size (fun k_=>(P1_ k_∨w.heap.size≤k_)∧some k_≠(u9000_:Value).ownBlock∧some k_≠(bR:Value).ownBlock) bQ aF)∧Aside0 (w'.heap[a1]? = some (.cells #[.int .i64 ((kA l0 a3).f0),.int .i64 ((kA l0 a3).f1),.int .i64 ((kA l0 a3).f2),.int .i64 ((kA l0 a3).f3),.int .i64 ((kA l0 a3).f4),.int .i64 ((kA l0 a3).f5)] 33 (0,0)))∧Aside0 (Kept w w' (fun k_=>P1_ k_))∧Aside0 (Below w0.heap.size w0 w'))
 case atStart=>exact⟨e1,1,0,rfl,rfl,H,⟨Nat.le_refl _⟩,⟨sR<|Kd.JC aA.out (fun _ hk=>⟨hk.1.1,⟨hk.1.2,hk.2⟩⟩)⟩,⟨sR<|Kd.JC b5.out (fun _ hk=>⟨hk.1.1.1,⟨hk.1.2,hk.2⟩⟩)⟩,⟨sR<|Kd.JC dT.out (fun _ hk=>⟨hk.1.1.1,⟨hk.1.2,hk.2⟩⟩)⟩,⟨sB<|a0.out⟩,⟨by exact vS⟩,⟨bW⟩⟩
 case round=>as_aux_lemma =>
  clear H
  clear dB dA cH cG d1 d0 aZ aY aX aW aV aU bM bK
  obtain⟨a5,b1,a6,rfl,rfl,HA,b2,a4,a7,aC,a0,HK,HB⟩:=hrel
  cases gk with
  | zero=>cases HA.out
  | succ k1 =>
   obtain⟨H⟩:=HA
   simp only[uI]at H
   replace H:=iD H;rcases H with⟨dE,H⟩|⟨dE,H⟩
   ·replace H:=iN H;obtain⟨fQ,H⟩:=H
    replace H:=iN H;obtain⟨fP,H⟩:=H
    replace H:=iN H;obtain⟨fO,H⟩:=H
    replace H:=iN H;obtain⟨fN,H⟩:=H
    replace H:=oS H;obtain⟨bG,cU,H⟩:=H
    replace H:=iE H;rcases H with⟨dD,dC,H⟩|⟨dD,dC,H⟩
    ·replace H:=iN H;obtain⟨fM,H⟩:=H
     replace H:=am H
     obtain⟨gA,d9,rfl⟩:=Kd.JB aC.out
     obtain⟨e5,e3,a_,rfl,c_⟩:=ix (Kd.JD (Kd.JA aC.out).2.2 a6)
     obtain⟨e4,e2,dQ,rfl,cZ⟩:=ix (Kd.JD (Kd.JU dY.out HK.out) (rd aF a6))
     have b9:0≤(a6:Int):=oD (by assumption)
     have b6:(a6:Int)<((a5.length:Int):Int):=oD (by assumption)
     obtain⟨aD,aK,cC,bC,gl61,cl61,HG61⟩:=Kd.JZ a7.out oM
     (cases cC)
     have cO:=am bC
     have GG61:=am HG61
     clear bC gl61 HG61
     have HMgo61:=am (show(P1_ aD∨w.heap.size≤aD)from(a7.out.1 _ rfl).1)
     obtain⟨d5,hf61_0⟩:=Kd.JH 0 a7.out (a6:Int) b9 b6
     replace b9:=eq_true b9
     replace b6:=eq_true b6
     have cJ:=Kd.JO a7.out (a6:Int) (rd l2 (rd aF a6))
     go_wp2_with (((with_reducible refine pY (t:=3) (p:=84) rfl ?_);refine pH (t:=3) (p:=84) (v:=?vo_w66) (w1:=(wr.setCell ⟨aD,(a6:Int).toNat,none⟩ (.int .i64 (rd l2 (rd aF a6))))) ?hg ?ho ?hn ?hr ?_;(case ho=>rfl);(case hg=>rfl);(case hn=>rfl);(case hr=>(go_simp;done));intro w66 hw;have hg:wr.grownBy w66 (some aD):=(by rw[hw];exact cJ.2);have hp_:Kd.R (Kd.int .i64) 3 w66 w0.heap.size (fun k_=>(P1_ k_∨w.heap.size≤k_)∧some k_≠(u9000_:Value).ownBlock∧some k_≠(.slice (some a_) aF.length d9:Value).ownBlock) (.slice (some ⟨aD,0,none⟩) a5.length aK) bG:=(by rw[hw,cU.out];exact cJ.1);clear cJ;replace a4:=am (Kd.JW (v:=(.slice (some ⟨aD,0,none⟩) a5.length aK)) (v1:=(.slice (some ⟨aD,0,none⟩) a5.length aK)) (ok:=(fun k_=>(P1_ k_∨w.heap.size≤k_)∧some k_≠(.slice (some a_) aF.length d9:Value).ownBlock)) (by exact sR<|Kd.JC a4.out (fun _ hk=>⟨⟨hk.1,hk.2.2⟩,hk.2.1⟩)) hg (.inl rfl));replace aC:=am (Kd.JW (v:=(.slice (some ⟨aD,0,none⟩) a5.length aK)) (v1:=(.slice (some ⟨aD,0,none⟩) a5.length aK)) (ok:=(fun k_=>(P1_ k_∨w.heap.size≤k_)∧some k_≠(u9000_:Value).ownBlock)) (by exact sR<|Kd.JC aC.out (fun _ hk=>⟨⟨hk.1,hk.2.1⟩,hk.2.2⟩)) hg (.inl rfl));replace a0:=gG a0 hg a7;replace HB:=am ((by rw[hw];exact kR (HB.out) cO.out:Below w0.heap.size w0 w66));replace HK:=am (qM (S:=(fun k_=>P1_ k_)) hg (by exact vS) (fun k_ e_=>(a7.out.1 k_ e_).1));replace a7:=am hp_;clear hg hw hp_;obtain⟨g0,fZ,dP,eB,eM⟩:=ix (Kd.JD (Kd.JA aC.out).2.2 a6);obtain rfl:a_=dP:=(by injection eB);obtain⟨f_,fY,dO,eA,eL,eK,eJ,eI,eH,eG⟩:=ix (pE (Kd.JU bF.out HK.out) (rd aF a6));obtain rfl:bO=dO:=(by injection eA)))
     go_roundg k1
     case measure=>have:=b2.out;omega
     case rel=>exact⟨bG,((kA l0 (rd aF a6)).f1),(wrap64 (a6+1)),rfl,rfl,H,⟨by have:=b2.out;omega⟩,⟨sR<|Kd.JC a4.out (fun _ hk=>⟨hk.1.1,⟨hk.2,hk.1.2⟩⟩)⟩,⟨sR<|a7.out⟩,⟨sR<|Kd.JC aC.out (fun _ hk=>⟨hk.1.1,⟨hk.1.2,hk.2⟩⟩)⟩,⟨sB<|a0.out⟩,⟨by exact vS⟩,⟨bW⟩⟩
    replace H:=am H
    obtain⟨g9,d8,rfl⟩:=Kd.JB aC.out
    obtain⟨e5,e3,a_,rfl,c_⟩:=ix (Kd.JD (Kd.JA aC.out).2.2 a6)
    obtain⟨e4,e2,dQ,rfl,cZ⟩:=ix (Kd.JD (Kd.JU dY.out HK.out) (rd aF a6))
    have b9:0≤(a6:Int):=oD (by assumption)
    have b6:(a6:Int)<((a5.length:Int):Int):=oD (by assumption)
    obtain⟨aD,aK,cC,bC,gl61,cl61,HG61⟩:=Kd.JZ a7.out oM
    (cases cC)
    have cO:=am bC
    have GG61:=am HG61
    clear bC gl61 HG61
    have HMgo61:=am (show(P1_ aD∨w.heap.size≤aD)from(a7.out.1 _ rfl).1)
    obtain⟨d5,hf61_0⟩:=Kd.JH 0 a7.out (a6:Int) b9 b6
    replace b9:=eq_true b9
    replace b6:=eq_true b6
    have cI:=Kd.JO a7.out (a6:Int) (rd l2 (rd aF a6))
    go_wp2_with (((with_reducible refine pY (t:=3) (p:=84) rfl ?_);refine pH (t:=3) (p:=84) (v:=?vo_w69) (w1:=(wr.setCell ⟨aD,(a6:Int).toNat,none⟩ (.int .i64 (rd l2 (rd aF a6))))) ?hg ?ho ?hn ?hr ?_;(case ho=>rfl);(case hg=>rfl);(case hn=>rfl);(case hr=>(go_simp;done));intro w69 hw;have hg:wr.grownBy w69 (some aD):=(by rw[hw];exact cI.2);have hp_:Kd.R (Kd.int .i64) 3 w69 w0.heap.size (fun k_=>(P1_ k_∨w.heap.size≤k_)∧some k_≠(u9000_:Value).ownBlock∧some k_≠(.slice (some a_) aF.length d8:Value).ownBlock) (.slice (some ⟨aD,0,none⟩) a5.length aK) bG:=(by rw[hw,cU.out];exact cI.1);clear cI;replace a4:=am (Kd.JW (v:=(.slice (some ⟨aD,0,none⟩) a5.length aK)) (v1:=(.slice (some ⟨aD,0,none⟩) a5.length aK)) (ok:=(fun k_=>(P1_ k_∨w.heap.size≤k_)∧some k_≠(.slice (some a_) aF.length d8:Value).ownBlock)) (by exact sR<|Kd.JC a4.out (fun _ hk=>⟨⟨hk.1,hk.2.2⟩,hk.2.1⟩)) hg (.inl rfl));replace aC:=am (Kd.JW (v:=(.slice (some ⟨aD,0,none⟩) a5.length aK)) (v1:=(.slice (some ⟨aD,0,none⟩) a5.length aK)) (ok:=(fun k_=>(P1_ k_∨w.heap.size≤k_)∧some k_≠(u9000_:Value).ownBlock)) (by exact sR<|Kd.JC aC.out (fun _ hk=>⟨⟨hk.1,hk.2.1⟩,hk.2.2⟩)) hg (.inl rfl));replace a0:=gG a0 hg a7;replace HB:=am ((by rw[hw];exact kR (HB.out) cO.out:Below w0.heap.size w0 w69));replace HK:=am (qM (S:=(fun k_=>P1_ k_)) hg (by exact vS) (fun k_ e_=>(a7.out.1 k_ e_).1));replace a7:=am hp_;clear hg hw hp_))
    go_roundg k1
    case measure=>have:=b2.out;omega
    case rel=>exact⟨bG,b1,(wrap64 (a6+1)),rfl,rfl,H,⟨by have:=b2.out;omega⟩,⟨sR<|Kd.JC a4.out (fun _ hk=>⟨hk.1.1,⟨hk.2,hk.1.2⟩⟩)⟩,⟨sR<|a7.out⟩,⟨sR<|Kd.JC aC.out (fun _ hk=>⟨hk.1.1,⟨hk.1.2,hk.2⟩⟩)⟩,⟨sB<|a0.out⟩,⟨by exact vS⟩,⟨bW⟩⟩
   replace H:=iP H;obtain⟨dX,H⟩:=H
   have fL:decide (0<(a5.length:Int))=true:=decide_eq_true dX
   have fK:decide (0<a5.length)=true:=decide_eq_true oM
   have g6:0<a5.length:=by omega
   clear dX
   replace H:=iP H;obtain⟨dW,H⟩:=H
   have fJ:decide (1<(a5.length:Int))=true:=decide_eq_true dW
   have fI:decide (1<a5.length)=true:=decide_eq_true oM
   clear dW
   replace H:=iP H;obtain⟨dV,H⟩:=H
   have fH:decide (2<(a5.length:Int))=true:=decide_eq_true dV
   have fG:decide (2<a5.length)=true:=decide_eq_true oM
   clear dV
   replace H:=oA H;obtain⟨fV,f7,H⟩:=H
   simp only[Option.some.injEq,Prod.mk.injEq]at H
   obtain⟨rfl,rfl⟩:=H
   obtain⟨g8,g2,rfl⟩:=Kd.JB aC.out
   try go_wp2
   replace a4:=am (Kd.JR a4.out)
   replace a7:=am (Kd.JR a7.out)
   replace aC:=am (Kd.JR aC.out)
   replace a0:=am (kW a0.out)
   replace HK:=am (Kept.drew HK.out)
   replace HB:=am (kQ HB.out)
   obtain⟨g7,g1,e6⟩:=Kd.JB a7.out
   (subst e6)
   have c1:0≤(0:Int):=oM
   have bU:0<(a5.length:Int):=oD (by assumption)
   obtain⟨aL,e9,aT⟩:=Kd.JD (Kd.JA a7.out).2.2 0 c1 bU
   cases e9
   have fB:(0<a5.length)=True:=eq_true oM
   (try rw[tn0]at aT)
   (try rw[Addr.add_zero']at aT)
   replace c1:=eq_true c1
   replace bU:=eq_true bU
   have b_:0≤(1:Int):=oM
   have bT:1<(a5.length:Int):=oD (by assumption)
   obtain⟨dN,e8,aS⟩:=Kd.JD (Kd.JA a7.out).2.2 1 b_ bT
   obtain rfl:aL=dN:=(by injection e8)
   (try simp only[show(1:Int).toNat=1 from rfl,Nat.reduceMul,Nat.reduceEqDiff,Go.Addr.add,↓reduceIte]at aS)
   have fA:(1<a5.length)=True:=eq_true oM
   (try rw[show((1:Int)).toNat=1 from rfl]at aS)
   replace b_:=eq_true b_
   replace bT:=eq_true bT
   have bZ:0≤(2:Int):=oM
   have bS:2<(a5.length:Int):=oD (by assumption)
   obtain⟨dM,e7,aR⟩:=Kd.JD (Kd.JA a7.out).2.2 2 bZ bS
   obtain rfl:aL=dM:=(by injection e7)
   (try simp only[show(2:Int).toNat=2 from rfl,Nat.reduceMul,Nat.reduceEqDiff,Go.Addr.add,↓reduceIte]at aR)
   have f9:(2<a5.length)=True:=eq_true oM
   (try rw[show((2:Int)).toNat=2 from rfl]at aR)
   replace bZ:=eq_true bZ
   replace bS:=eq_true bS
   refine vC (n:=13) (S:=fun w'=>w'.cell? ⟨a1,0,none⟩=some (.int .i64 ((kA l0 a3).f0))∧w'.cell? ⟨a1,1,none⟩=some (.int .i64 ((kA l0 a3).f1))∧w'.cell? ⟨a1,2,none⟩=some (.int .i64 ((kA l0 a3).f2))∧w'.cell? ⟨a1,3,none⟩=some (.int .i64 ((kA l0 a3).f3))∧w'.cell? ⟨a1,4,none⟩=some (.int .i64 ((kA l0 a3).f4))∧w'.cell? ⟨a1,5,none⟩=some (.int .i64 ((kA l0 a3).f5))∧w'.cell? aL=some (.int .i64 (rd a5 0))∧w'.cell? ⟨aL.block,aL.off+1,none⟩=some (.int .i64 (rd a5 1))∧w'.cell? ⟨aL.block,aL.off+2,none⟩=some (.int .i64 (rd a5 2))) (ds:=[]) d5d (by kernel_rfl) rfl rfl ⟨(kE a0.out 0).trans rfl,(kE a0.out 1).trans rfl,(kE a0.out 2).trans rfl,(kE a0.out 3).trans rfl,(kE a0.out 4).trans rfl,(kE a0.out 5).trans rfl,aT,aS,aR⟩ (fun hHeld=>?_);refine uR a5k a4r (fun HT_ HW_=>?_)
   generalize wr.drew=w75 at a4 a7 aC a0 HK HB aT aS aR hHeld ⊢
   refine pT (i:=1) (N:=some 96) d4z ?_
   refine pT (i:=2) (N:=some 97) d4v ?_
   refine pT (i:=3) (N:=some 98) d4r ?_
   refine pT (i:=5) (N:=some 100) d4n ?_
   refine pT (i:=6) (N:=some 101) d4j ?_
   refine pT (i:=8) (N:=some 103) d4f ?_
   refine pT (i:=9) (N:=some 104) d4b ?_
   refine qY (i:=0) (N:=some 95) (v:=?_) (a':=?_) d3v rfl rfl (pM HT_.out HW_.out (by kernel_rfl)) (fun _ _ _ h=>h) (Or.inl ⟨by rfl,?_⟩) hHeld ?_ ?_
   rotate_left
   ·rintro w' ⟨s0,s1,s2,s3,s4,s5,s6,s7,s8⟩
    go_simp
    with_reducible rfl
   rotate_left
   ·exact b1y
   refine qY (i:=4) (N:=some 99) (v:=?_) (a':=?_) d3r rfl rfl (pM HT_.out HW_.out (by kernel_rfl)) (fun _ _ _ h=>h) (Or.inl ⟨by rfl,?_⟩) hHeld ?_ ?_
   rotate_left
   ·rintro w' ⟨s0,s1,s2,s3,s4,s5,s6,s7,s8⟩
    go_simp
    with_reducible rfl
   rotate_left
   ·exact b1y
   refine qY (i:=7) (N:=some 102) (v:=?_) (a':=?_) c9v rfl rfl (pM HT_.out HW_.out (by kernel_rfl)) (fun _ _ _ h=>h) (Or.inl ⟨by rfl,?_⟩) hHeld ?_ ?_
   rotate_left
   ·rintro w' ⟨s0,s1,s2,s3,s4,s5,s6,s7,s8⟩
    go_simp
    with_reducible rfl
   rotate_left
   ·exact b1y
   refine qY (i:=10) (N:=some 105) (v:=?_) (a':=?_) c9r rfl rfl (pM HT_.out HW_.out (by kernel_rfl)) (fun _ _ _ h=>h) (Or.inl ⟨by rfl,?_⟩) hHeld ?_ ?_
   rotate_left
   ·rintro w' ⟨s0,s1,s2,s3,s4,s5,s6,s7,s8⟩
    go_simp
    with_reducible rfl
   rotate_left
   ·exact b1y
   refine a1t (i:=11) (N:=some 106) c9n rfl rfl (yR HT_.out (by kernel_rfl)) (by decide) (fun K hK=>?_)
   refine a1g Tryz.func67 (by kernel_rfl) rfl #[.agg #[.int .i64 ((kA l0 a3).f0),.int .i64 ((kA l0 a3).f1),.int .i64 ((kA l0 a3).f2),.int .i64 ((kA l0 a3).f3),.int .i64 ((kA l0 a3).f4),.int .i64 ((kA l0 a3).f5)],.int .i64 b1,.int .i64 (rd a5 0),.int .i64 (rd a5 1),.int .i64 (rd a5 2)] (by rfl) rfl rfl tm ?_
   with_reducible refine(YOi f7.out).mono ?_
   rintro e w77 ⟨rfl,hb⟩
   have HS6_:=(hb.cell (World.block_lt_of_cell? _ _ (hHeld.2.2.2.2.2.2.1))).trans (hHeld.2.2.2.2.2.2.1)
   have HS7_:=(hb.cell (World.block_lt_of_cell? _ _ (hHeld.2.2.2.2.2.2.2.1))).trans (hHeld.2.2.2.2.2.2.2.1)
   have HS8_:=(hb.cell (World.block_lt_of_cell? _ _ (hHeld.2.2.2.2.2.2.2.2))).trans (hHeld.2.2.2.2.2.2.2.2)
   refine⟨_,rfl,?_⟩
   replace a4:=rB a4 hb
   replace a7:=rB a7 hb
   replace aC:=rB aC hb
   replace a0:=gB a0 hb
   replace HK:=am (Kept.below (S:=(fun k_=>P1_ k_)) (by exact vS) hb)
   replace HB:=hX hb
   clear hb
   refine hK.out _ _ ⟨(kE a0.out 0).trans rfl,(kE a0.out 1).trans rfl,(kE a0.out 2).trans rfl,(kE a0.out 3).trans rfl,(kE a0.out 4).trans rfl,(kE a0.out 5).trans rfl,HS6_,HS7_,HS8_⟩ (fun hHeld=>?_)
   clear hK K
   refine vA (a':=?_) ?_ ?_
   rotate_left
   ·show Act.put _ (some 106) _=_
    exact b1y
   refine pT (i:=12) (N:=some 8) c9k ?_
   refine a1s (a2u HT_.out (by kernel_rfl)) ?_
   try go_wp2
   go_ret
   exact⟨rfl,sR<|Kd.JC a4.out (fun _ hk=>hk.1),bW,by exact vS⟩
theorem a8e{P:Prop}(h:P:=by repeat(first|(with_reducible first|exact HK.out|apply Kept.alloc|apply Kept.drewN|apply Kept.drew)|exact HK.out)):P:=h
def vP(AT:List (S31)→List Int→Int→Option (Int×List Int)):Nat→List (S31)→List Int→Int→List Int→Int→Option (Int×List Int)
 | 0,_,_,_,_,_=>none
 | k+1,x0,x1,x2,x7,x8=>if x8≤x2 then((zA AT k x0 x1 x7 x8).bind fun a0=>(if x7.length<17592186044416 then(vP AT k x0 a0.2 x2 (x7++[a0.1]) (wrap64 (x8+1)))else(none)))else(if 0≤x2 then(if x2<(x7.length:Int)then(some (rd x7 x2,x1))else(none))else(none))
def a0l(AT:List (S31)→List Int→Int→Option (Int×List Int))(k:Nat)(l0:List (S31))(l1:List Int)(a2:Int):Option (Int×List Int):=vP AT k l0 l1 a2 (([]:List Int)) 0
theorem YDi(AT:List (S31)→List Int→Int→Option (Int×List Int))(hAT :∀(A0:Option Addr) (c0:Nat) (l0:List (S31)) (P1_:Nat→Prop) (u9000_:Value) (l1:List Int) (a2 r1:Int) (r2:List Int) (w0 w:World) (hB:Below w0.heap.size w0 w) (hr0 :∀W_,Kept w W_ (fun k_=>P1_ k_)→Kd.C k31 W_ A0 l0.length l0) (hc0:l0.length≤c0) (aM:Kd.R (Kd.int .i64) 3 w w0.heap.size P1_ u9000_ l1) (h:AT l0 l1 a2=some (r1,r2)),Calls Tryz.prog 23 #[.slice A0 l0.length c0,u9000_,.int .i64 a2] w fun e w'=>e= .returned (.int .i64 r1)∧Kd.R (Kd.int .i64) 3 w' w0.heap.size (fun k_=>(P1_ k_∨w.heap.size≤k_)) u9000_ r2∧Below w0.heap.size w0 w'∧Kept w w' (fun k_=>P1_ k_))(k:Nat)(A0:Option Addr)(c0:Nat)(l0:List (S31))(P1_:Nat→Prop)(u9000_:Value)(l1:List Int)(a2 r1:Int)(r2:List Int)(w0 w:World)(hB:Below w0.heap.size w0 w)(hr0 :∀W_,Kept w W_ (fun k_=>P1_ k_)→Kd.C k31 W_ A0 l0.length l0)(hc0:l0.length≤c0)(aM:Kd.R (Kd.int .i64) 3 w w0.heap.size P1_ u9000_ l1)(h:a0l AT k l0 l1 a2=some (r1,r2)) :
  Calls Tryz.prog 23 #[.slice A0 l0.length c0,u9000_,.int .i64 a2] w fun e w'=>e= .returned (.int .i64 r1)∧Kd.R (Kd.int .i64) 3 w' w0.heap.size (fun k_=>(P1_ k_∨w.heap.size≤k_)) u9000_ r2∧Below w0.heap.size w0 w'∧Kept w w' (fun k_=>P1_ k_):=by
 have HAT:=am hAT
 clear hAT
 have aY:=am hr0
 have aZ:=am hc0
 clear hr0 hc0
 have aC:=am (show Kd.R (Kd.int .i64) 3 w w0.heap.size (fun k_=>(P1_ k_∨w.heap.size≤k_)) u9000_ l1 from Kd.JC aM (fun k_ hk=>(.inl hk)))
 have HK:=am (Kept.refl w (fun k_=>P1_ k_))
 have HW0:=am hB.size
 have HB:=am hB
 clear hB
 have H:=h
 clear h
 unfold a0l at H
 generalize a8:([]:List Int)=aR at H
 have aH:=am a8.symm;clear a8
 replace H:=am H
 go_enter Tryz.func23,Tryz.ntmps23
 go_wp2_with (((with_reducible refine gW ?_);refine lE (Kd.int .i64) 3 9 ?_;intro b3 w4 a9 hb;(rw[← aH.out]at a9);have aJ:=am (Kd.JF (Kd.JN (Kd.YK (M:=fun k_=>(P1_ k_∨w.heap.size≤k_)) a9 (by exact HK.out.1) (fun k_ h_=> .inr h_)) (Kd.JM (by exact sR<|aC.out))) (kG (by exact sW HB.out)));replace aC:=rE aC a9 hb;replace HK:=am (Kept.below (S:=(fun k_=>P1_ k_)) (by exact a8e) hb);replace HB:=hB HB hb;clear hb a9))
 go_loopg [7,8] k (fun kq v7 v8 w' =>∃(a3:List Int) (a4:List Int) (a5:Int),v8= .int .i64 a5∧Aside0 (vP AT kq l0 a3 a2 a4 a5=some (r1,r2))∧Aside0 (kq≤k)∧Aside0 (Kd.R (Kd.int .i64) 3 w' w0.heap.size (fun k_=>(P1_ k_∨w.heap.size≤k_)∧some k_≠(v7:Value).ownBlock) u9000_ a3)∧Aside0 (Kd.R (Kd.int .i64) 3 w' w0.heap.size (fun k_=>(P1_ k_∨w.heap.size≤k_)∧some k_≠(u9000_:Value).ownBlock) v7 a4)∧Aside0 (Kept w w' (fun k_=>P1_ k_))∧Aside0 (Below w0.heap.size w0 w'))
 case atStart=>exact⟨l1,aR,0,rfl,H,⟨Nat.le_refl _⟩,⟨sR<|aC.out⟩,⟨sR<|Kd.JC aJ.out (fun _ hk=>⟨hk.1.1,hk.2⟩)⟩,⟨by exact a8e⟩,⟨sW HB.out⟩⟩
 clear H
 obtain⟨a3,a4,a5,rfl,HA,aN,a0,a1,HK,HB⟩:=hrel
 cases gk with
 | zero=>cases HA.out
 | succ k1 =>
  obtain⟨H⟩:=HA
  simp only[vP]at H
  replace H:=iD H;rcases H with⟨aU,H⟩|⟨aU,H⟩
  ·replace H:=oA H;obtain⟨⟨a6,aE⟩,A7,H⟩:=H
   try dsimp only at H
   replace H:=iP H;obtain⟨c8,H⟩:=H
   have aV:=am c8
   clear c8
   generalize a7:a4++[a6]=aQ at H
   have aG:=am a7.symm;clear a7
   replace H:=am H
   obtain⟨aD,aA,rfl⟩:=Kd.JB a0.out
   obtain⟨aW,aT,rfl⟩:=Kd.JB a1.out
   go_wp2_with (((with_reducible refine gW ?_);first|(refine gF 48 (some 20) rfl ?_;refine gS Tryz.func48 (XZi AT HAT.out k1 _ _ l0 (fun k_=>some k_=(.slice aD a3.length aA:Value).ownBlock) (.slice aD a3.length aA) a3 _ _ a4 a5 a6 aE w0 _ (sW HB.out) (Kd.YV aY.out (by exact a8e) (fun k_ hs_=>(fun e_=>(a0.out.1 k_ e_.symm).1) hs_)) aZ.out (Kd.JL rfl a0.out) (Kd.YQ (a1.out) (fun k_ hk_ hs_=>(hk_.2) hs_)) ((Kd.JA a1.out).2.1) A7.out) ?_;rintro w11 ⟨aK,hb,hkp⟩;replace a1:=am (Kd.JC (ok':=fun k_=>(P1_ k_∨w.heap.size≤k_)∧some k_≠(.slice aD a3.length aA:Value).ownBlock) (Kd.YI (a1.out) hkp (fun k_ hk_ hs_=>(hk_.2) hs_)) (fun k_ hk_=>⟨hk_.1.1,hk_.1.2⟩));replace HK:=am (Kept.then_ (S:=(fun k_=>P1_ k_)) (by exact a8e) hkp (fun k_ hs_=>(fun e_=>(a0.out.1 k_ e_.symm).1) hs_));replace a0:=am (Kd.XK rfl aK (fun k_ e_=>a0.out.1 k_ e_));replace HB:=am hb;(try clear hb);(try clear hkp);(try clear aK))|((with_reducible refine kZ (b:= .append) (xs:= #[.tmp 15,.tmp 21]) rfl ?_);at_builtin;refine Kd.JQ (Kd.int .i64) (w0:=w0) w0.heap.size rfl (.tmp 15) (.tmp 21) 25 3 (.int .i64 0) 8 rfl Tryz.underlying25 a4h rfl (by decide) oM (.slice aW a4.length aT) a4 a6 [.int .i64 a6] (fun k_=>(P1_ k_∨w.heap.size≤k_)∧some k_≠(.slice aD a3.length aA:Value).ownBlock) (fun _=>False) rfl rfl ?aP (fun _ hk=>hk.elim) ?aF ?aO ?aB ?aS ?aL ?_;(case aP=>exact rfl);(case aB=>exact(by exact sW HB.out));(case aF=>exact(fun k_ hk=>⟨(.inr (Nat.le_trans (by exact HK.out.1) hk)),Kd.JV (Kd.JM (by exact sR<|a0.out)) k_ hk⟩));(case aO=>exact(by exact sR<|a1.out));(case aS=>exact(kG (by exact sW HB.out)));(case aL=>have:=aV.out;omega);intro b2 w12 ho hb hg hat;rw[← aG.out]at ho;replace a0:=am (Kd.JW (ok:=(fun k_=>(P1_ k_∨w.heap.size≤k_))) (by exact sR<|a0.out) hg hat);replace HB:=am hb;replace HK:=am (qM (S:=(fun k_=>P1_ k_)) hg (by exact a8e) (fun k_ e_=>(a1.out.1 k_ e_).1));have aI:=am ho;clear a1;clear ho hb hg hat)))
   go_roundg k1
   case measure=>have:=aN.out;omega
   case rel=>exact⟨aE,aQ,(wrap64 (a5+1)),rfl,H,⟨by have:=aN.out;omega⟩,⟨sR<|a0.out⟩,⟨sR<|aI.out⟩,⟨by exact a8e⟩,⟨sW HB.out⟩⟩
  replace H:=iN H;obtain⟨b0,H⟩:=H
  replace H:=iN H;obtain⟨a_,H⟩:=H
  simp only[Option.some.injEq,Prod.mk.injEq]at H
  obtain⟨rfl,rfl⟩:=H
  obtain⟨b7,b6,rfl⟩:=Kd.JB a1.out
  obtain⟨b5,b4,b1,rfl,aX⟩:=ix (Kd.JD (Kd.JA a1.out).2.2 a2)
  go_wp2
  go_ret
  exact⟨rfl,sR<|Kd.JC a0.out (fun _ hk=>hk.1),sW HB.out,by exact a8e⟩
def uK:Nat→List (S31)→List Int→Int→Option (Int×List Int)
  | 0=>fun _ _ _=>none
  | n+1=>fun a0 a1 a2=>a0l (uK n) (n+1) a0 a1 a2
theorem XCi(k:Nat) :∀(A0:Option Addr) (c0:Nat) (l0:List (S31)) (P1_:Nat→Prop) (u9000_:Value) (l1:List Int) (a2 r1:Int) (r2:List Int) (w0 w:World) (hB:Below w0.heap.size w0 w) (hr0 :∀W_,Kept w W_ (fun k_=>P1_ k_)→Kd.C k31 W_ A0 l0.length l0) (hc0:l0.length≤c0) (a0:Kd.R (Kd.int .i64) 3 w w0.heap.size P1_ u9000_ l1) (h:uK k l0 l1 a2=some (r1,r2)),Calls Tryz.prog 23 #[.slice A0 l0.length c0,u9000_,.int .i64 a2] w fun e w'=>e= .returned (.int .i64 r1)∧Kd.R (Kd.int .i64) 3 w' w0.heap.size (fun k_=>(P1_ k_∨w.heap.size≤k_)) u9000_ r2∧Below w0.heap.size w0 w'∧Kept w w' (fun k_=>P1_ k_):=by
 induction k with
 | zero=>intro A0 c0 l0 P1_ u9000_ l1 a2 r1 r2 w0 w hB hr0 hc0 a0 h;exact absurd h (by simp[uK])
 | succ n ih=>exact YDi _ ih (n+1)
mutual
def wJ:Nat→List (S31)→List Int→Bool→Option (Int×Bool)
 | 0,_,_,_=>none
 | k+1,x0,x1,a5=>if a5=true then(some (0,false))else((zW k x0).bind fun a4=>(vK k x1 a4 0 0))
def vK:Nat→List Int→List (S31)→Int→Int→Option (Int×Bool)
 | 0,_,_,_,_=>none
 | k+1,x1,x6,x7,x8=>if x8<(x6.length:Int)then(if 0≤x8 then((rH ((kA x6 x8).f0)).bind fun a3=>(if a3=true then(vK k x1 x6 (wrap64 (x7+((kA x6 x8).f4))) (wrap64 (x8+1)))else(vK k x1 x6 x7 (wrap64 (x8+1)))))else(none))else(if x7>12 then(some (0,false))else((wV k x6 x1).bind fun a2=>(if a2=true then((some (([]:List Int):List Int)).bind fun a0=>(if a0.length+x1.length<17592186044416 then((uK k x6 (a0++x1) (wrap64 ((x6.length:Int)-1))).bind fun a1=>(some (a1.1,true)))else(none)))else(some (0,false)))))
end
def uL(k:Nat)(l0:List (S31))(l1:List Int):Option (Int×Bool):=(tN k l0).bind fun a0=>(if a0=true then(wJ k l0 l1 ((l1.length:Int)!=8))else(wJ k l0 l1 true))
theorem YFi{k:Nat}{A0:Option Addr}{c0:Nat}{l0:List (S31)}{A1:Option Addr}{c1:Nat}{l1:List Int}{r1:Int}{r2:Bool}{w:World}(hr0:Kd.C k31 w A0 l0.length l0)(hc0:l0.length≤c0)(hr1:Kd.C (Kd.int .i64) w A1 l1.length l1)(hc1:l1.length≤c1)(h:uL k l0 l1=some (r1,r2)) :
  Calls Tryz.prog 7 #[.slice A0 l0.length c0,.slice A1 l1.length c1] w fun e w'=>e= .returned (.tuple #[.int .i64 r1,.bool r2])∧Below w.heap.size w w':=by
 have aU:=am hr0
 have aW:=am hc0
 clear hr0 hc0
 have aT:=am hr1
 have b8:=am hc1
 clear hr1 hc1
 have HB:=am (Below.refl w.heap.size w)
 have H:=h
 clear h
 unfold uL at H
 have aV:=am H;clear H
 go_enter Tryz.func7,Tryz.ntmps7
 go_upto_region 1 with(fail)
 go_cut [16] (fun bO wc =>∃(kq:Nat) (a6:Bool),bO= .bool a6∧Aside0 (wJ kq l0 l1 a6=some (r1,r2))∧Aside0 (kq≤k)∧Aside0 (Below w.heap.size w wc))
 case first =>
  have H:=aV.out
  clear aV
  replace H:=oA H;obtain⟨bU,A4,H⟩:=H
  replace H:=iB H;rcases H with⟨rfl,H⟩|⟨rfl,H⟩
  ·replace H:=am H
   go_wp2_with (((with_reducible refine gW ?_);refine gF 19 (some 10) rfl ?_;refine gS Tryz.func19 (JPi (sC (Kd.JE aU.out HB.out)) aW.out A4.out) ?_;rintro w6 hb;replace HB:=hB HB hb;(try clear hb)))
   go_meet
   case rel=>exact⟨_,(((l1.length:Int)!=8)),rfl,H,⟨oM⟩,⟨sW HB.out⟩⟩
  replace H:=am H
  go_wp2_with (((with_reducible refine gW ?_);refine gF 19 (some 10) rfl ?_;refine gS Tryz.func19 (JPi (sC (Kd.JE aU.out HB.out)) aW.out A4.out) ?_;rintro w7 hb;replace HB:=hB HB hb;(try clear hb)))
  go_meet
  case rel=>exact⟨_,true,rfl,H,⟨oM⟩,⟨sW HB.out⟩⟩
 clear aV
 obtain⟨kq,a6,rfl,HA,aE,HB⟩:=hcut
 cases kq with
 | zero=>cases HA.out
 | succ b4 =>
  obtain⟨H⟩:=HA
  simp only[wJ]at H
  replace H:=iB H;rcases H with⟨rfl,H⟩|⟨rfl,H⟩
  ·simp only[Option.some.injEq,Prod.mk.injEq]at H
   obtain⟨rfl,rfl⟩:=H
   go_wp2
   go_ret2
   exact⟨rfl,sW HB.out⟩
  replace H:=oA H;obtain⟨a4,A9,H⟩:=H
  replace H:=am H
  go_wp2_with (((with_reducible refine gW ?_);refine gF 20 (some 18) rfl ?_;refine gT Tryz.func20 (XUi (sC (Kd.JE aU.out HB.out)) aW.out A9.out) ?_;rintro bC w10 ⟨b6,hb⟩;have b3:=rL b6 HB;replace HB:=hB HB hb;(try clear hb);(try clear b6)))
  go_loopg [7,8] b4 (fun kq v7 v8 w' =>∃(a2:Int) (a1:Int),v7= .int .i64 a2∧v8= .int .i64 a1∧Aside0 (vK kq l1 a4 a2 a1=some (r1,r2))∧Aside0 (kq≤b4)∧Aside0 (Kd.R k31 33 w' w.heap.size (fun _=>True) bC a4)∧Aside0 (Below w.heap.size w w'))
  case atStart=>exact⟨0,0,rfl,rfl,H,⟨Nat.le_refl _⟩,⟨sR<|b3.out⟩,⟨sW HB.out⟩⟩
  clear H
  obtain⟨a2,a1,rfl,rfl,HA,aD,a0,HB⟩:=hrel
  cases gk with
  | zero=>cases HA.out
  | succ k2 =>
   obtain⟨H⟩:=HA
   simp only[vK]at H
   replace H:=iD H;rcases H with⟨aZ,H⟩|⟨aZ,H⟩
   ·replace H:=iN H;obtain⟨bQ,H⟩:=H
    replace H:=oA H;obtain⟨bT,bA,H⟩:=H
    replace H:=iB H;rcases H with⟨rfl,H⟩|⟨rfl,H⟩
    ·replace H:=am H
     obtain⟨cK,cF,rfl⟩:=Kd.JB a0.out
     obtain⟨bG,bF,aC,rfl,aM,aK,aJ,aI,aH,aG⟩:=ix (pE (Kd.JA a0.out).2.2 a1)
     go_wp2_with (((with_reducible refine gW ?_);refine gD (some 30) Tryz.func21 rfl (JOi bA.out) fun nd=>?_;obtain⟨bZ,bV,a_,bH,bN,bM,bL,bK,bJ,bI⟩:=ix (pE (Kd.JA a0.out).2.2 a1);obtain rfl:aC=a_:=(by injection bH)))
     go_roundg k2
     case measure=>have:=aE.out;have:=aD.out;omega
     case rel=>exact⟨(wrap64 (a2+((kA a4 a1).f4))),(wrap64 (a1+1)),rfl,rfl,H,⟨by have:=aE.out;have:=aD.out;omega⟩,⟨sR<|a0.out⟩,⟨sW HB.out⟩⟩
    replace H:=am H
    obtain⟨cJ,cE,rfl⟩:=Kd.JB a0.out
    obtain⟨bG,bF,aC,rfl,aM,aK,aJ,aI,aH,aG⟩:=ix (pE (Kd.JA a0.out).2.2 a1)
    go_wp2_with (((with_reducible refine gW ?_);refine gD (some 30) Tryz.func21 rfl (JOi bA.out) fun nd=>?_))
    go_roundg k2
    case measure=>have:=aE.out;have:=aD.out;omega
    case rel=>exact⟨a2,(wrap64 (a1+1)),rfl,rfl,H,⟨by have:=aE.out;have:=aD.out;omega⟩,⟨sR<|a0.out⟩,⟨sW HB.out⟩⟩
   by_cases a5:a2>12
   ·rw[if_pos a5]at H
    have aY:decide (12<a2)=true:=decide_eq_true a5
    clear a5
    simp only[Option.some.injEq,Prod.mk.injEq]at H
    obtain⟨rfl,rfl⟩:=H
    obtain⟨cI,cC,rfl⟩:=Kd.JB a0.out
    go_wp2
    go_ret2
    exact⟨rfl,sW HB.out⟩
   rw[if_neg a5]at H
   have aY:decide (12<a2)=false:=decide_eq_false a5
   clear a5
   replace H:=oA H;obtain⟨bS,b9,H⟩:=H
   replace H:=iB H;rcases H with⟨rfl,H⟩|⟨rfl,H⟩
   ·replace H:=oS H;obtain⟨aN,b1,H⟩:=H
    replace H:=iP H;obtain⟨b7,H⟩:=H
    have b2:=am b7
    clear b7
    generalize aA:aN++l1=a8 at H
    have b0:=am aA.symm;clear aA
    replace H:=oA H;obtain⟨⟨bE,bD⟩,bP,H⟩:=H
    try dsimp only at H
    simp only[Option.some.injEq,Prod.mk.injEq]at H
    obtain⟨rfl,rfl⟩:=H
    obtain⟨cH,cB,rfl⟩:=Kd.JB a0.out
    go_wp2_with (first|(go_at_call 22;refine(KKi (sC (Kd.JA a0.out).2.2) ((Kd.JA a0.out).2.1) (sC (Kd.JE aT.out HB.out)) b8.out b9.out).mono ?_;rintro e w24 ⟨rfl,hb⟩;replace a0:=rB a0 hb;replace HB:=hB HB hb;(try clear hb))|((with_reducible refine gW ?_);first|((with_reducible refine pU (N:=47) rfl ?_);(try(refine wD (by rfl) ?_;dsimp only));refine Kd.YC (Kd.int .i64) _ 3 ?hg (N:=47) ?hd (xs:=([]:List Int)) (inner:=[]) (ok:=fun _=>True) (okp:=fun _=>True) ?hr ?hp (fun _ hk=>hk) trivial (Below.refl _ _) (Nat.le_refl _) (by simp) ?_;(case hd=>rfl);(case hg=>rfl);(case hr=>(go_simp;done));(case hp=>exact(Reps.none _ _));intro bB w25 a9 hb hg_ hnew_;clear hg_ hnew_;(rw[← b1.out]at a9);replace a0:=rB a0 hb;have a7:=rL a9 HB;replace HB:=hB HB hb;clear hb a9)|((with_reducible refine kZ (b:= .append) (xs:= #[.tmp 47,.tmp 48]) rfl ?_);(try(refine wD (by rfl) ?_;dsimp only));at_builtin;refine Kd.R_append_rows (Kd.int .i64) (w0:=w) w.heap.size rfl (.tmp 47) (.tmp 48) 25 3 (.int .i64 0) 8 rfl Tryz.underlying25 a4h rfl (by decide) oM bB aN l1 _ _ _ (fun _=>True) (fun _=>False) rfl rfl ?aO ?aR (fun _ _ h=>h) (fun _ h=>h.elim) ?aF ?aB ?aS ?aL ?_;(case aR=>exact sC (Kd.JE aT.out HB.out));(case aB=>exact(by exact sW HB.out));(case aF=>exact(fun _ _=>trivial));(case aO=>exact(by exact sR<|a7.out));(case aS=>exact(kG (by exact sW HB.out)));(case aL=>have:=b2.out;omega);intro bR w27 ho hb hg hat;rw[← b0.out]at ho;replace a0:=oV a0 a7 hg;replace HB:=am hb;have a3:=am ho;clear a7;clear ho hb hg hat;obtain⟨aX,aQ,rfl⟩:=Kd.JB a3.out)|(refine gF 23 (some 53) rfl ?_;refine gS Tryz.func23 (XCi k2 _ _ a4 (fun k_=>some k_=(.slice aX a8.length aQ:Value).ownBlock) (.slice aX a8.length aQ) a8 (wrap64 ((a4.length:Int)-1)) bE bD w _ (sW HB.out) (Kd.YQ ((Kd.YN a0.out (Kd.JG a3.out) (by decide))) (fun k_ hk_ hs_=>(hk_.2) hs_)) ((Kd.JA a0.out).2.1) (Kd.JL rfl a3.out) bP.out) ?_;rintro w29 ⟨b5,hb,hkp⟩;replace a0:=am (Kd.JC (ok':=fun k_=>True) (Kd.YI ((Kd.YN a0.out (Kd.JG a3.out) (by decide))) hkp (fun k_ hk_ hs_=>(hk_.2) hs_)) (fun k_ hk_=>trivial));replace a3:=am (Kd.XK rfl b5 (fun k_ e_=>a3.out.1 k_ e_));replace HB:=am hb;(try clear hb);(try clear hkp);(try clear b5))))
    go_ret2
    exact⟨rfl,sW HB.out⟩
   simp only[Option.some.injEq,Prod.mk.injEq]at H
   obtain⟨rfl,rfl⟩:=H
   obtain⟨cG,b_,rfl⟩:=Kd.JB a0.out
   go_wp2_with ((go_at_call 22;refine(KKi (sC (Kd.JA a0.out).2.2) ((Kd.JA a0.out).2.1) (sC (Kd.JE aT.out HB.out)) b8.out b9.out).mono ?_;rintro e w31 ⟨rfl,hb⟩;replace a0:=rB a0 hb;replace HB:=hB HB hb;(try clear hb)))
   go_ret2
   exact⟨rfl,sW HB.out⟩
variable {Ax:Option Addr} {cx:Nat}
def IsS88(Ax:Option Addr)(cx:Nat)(w0 W:World)(g:Nat)(f0:ByteArray)(f1:Int)(f2:List (S31))(f3:Int)(f4:Int):Prop :=∃A2 c2,W.heap[g]? = some (.cells #[.string f0,.int .i64 f1,.slice A2 f2.length c2,.int .i64 f3,.int .i64 f4] 88 (0,0))∧w0.heap.size≤g∧(A2=Ax∧c2=cx)
theorem IsS88.grown{w0 W:World}{g:Nat}{f0:ByteArray}{f1:Int}{f2:List (S31)}{f3:Int}{f4:Int}{W1:World}{row:Option Nat}(h:IsS88 Ax cx w0 W g f0 f1 f2 f3 f4)(hw:W.grownBy W1 row)(hne:some g≠row):IsS88 Ax cx w0 W1 g f0 f1 f2 f3 f4:=by
 obtain⟨A2,c2,hb,hg,hr2⟩:=h
 exact⟨A2,c2,qT hb hw hne,hg,hr2⟩
theorem IsS88.below{w0 W:World}{g:Nat}{f0:ByteArray}{f1:Int}{f2:List (S31)}{f3:Int}{f4:Int}{W1:World}(h:IsS88 Ax cx w0 W g f0 f1 f2 f3 f4)(hw:Below W.heap.size W W1):IsS88 Ax cx w0 W1 g f0 f1 f2 f3 f4:=h.grown (zT hw none) (by simp)
theorem IsS88.alloc{w0 W:World}{g:Nat}{f0:ByteArray}{f1:Int}{f2:List (S31)}{f3:Int}{f4:Int}(h:IsS88 Ax cx w0 W g f0 f1 f2 f3 f4)(o:Obj):IsS88 Ax cx w0 (W.alloc o) g f0 f1 f2 f3 f4:=h.below (kO (Below.refl _ _) o)
theorem IsS88.drewN{w0 W:World}{g:Nat}{f0:ByteArray}{f1:Int}{f2:List (S31)}{f3:Int}{f4:Int}(h:IsS88 Ax cx w0 W g f0 f1 f2 f3 f4)(m:Nat):IsS88 Ax cx w0 (W.drewN m) g f0 f1 f2 f3 f4:=h
theorem IsS88.drew{w0 W:World}{g:Nat}{f0:ByteArray}{f1:Int}{f2:List (S31)}{f3:Int}{f4:Int}(h:IsS88 Ax cx w0 W g f0 f1 f2 f3 f4):IsS88 Ax cx w0 W.drew g f0 f1 f2 f3 f4:=h
theorem d7m{w0 W:World}{g:Nat}{f0:ByteArray}{f1:Int}{f2:List (S31)}{f3:Int}{f4:Int}(h:IsS88 Ax cx w0 W g f0 f1 f2 f3 f4):g<W.heap.size:=by
 obtain⟨A2,c2,hb,hg,hr2⟩:=h
 exact vD hb
theorem c4l{w0 W:World}{g:Nat}{f0:ByteArray}{f1:Int}{f2:List (S31)}{f3:Int}{f4:Int}(h:IsS88 Ax cx w0 W g f0 f1 f2 f3 f4):w0.heap.size≤g:=by
 obtain⟨A2,c2,hb,hg,hr2⟩:=h
 exact hg
theorem c7t{w0 W:World}{g:Nat}{f0:ByteArray}{f1:Int}{f2:List (S31)}{f3:Int}{f4:Int}{a:Nat}{cs:Array Value}{t:TypeId}{fr:Nat×Nat}(h:IsS88 Ax cx w0 W g f0 f1 f2 f3 f4)(hb2:W.heap[a]? = some (.cells cs t fr))(ht:t≠88):g≠a:=by
 obtain⟨A2,c2,hb,hg,hr2⟩:=h
 rintro rfl
 rw[hb]at hb2
 injection hb2 with hb2
 injection hb2 with _ ht2
 exact ht ht2.symm
theorem c2h{w0 W:World}{g:Nat}{f0:ByteArray}{f1:Int}{f2:List (S31)}{f3:Int}{f4:Int}{p:Addr}(h:IsS88 Ax cx w0 W g f0 f1 f2 f3 f4)(hne:g≠p.block)(u:Value):IsS88 Ax cx w0 (W.setCell p u) g f0 f1 f2 f3 f4:=by
 obtain⟨A2,c2,hb,hg,hr2⟩:=h
 exact⟨A2,c2,uH hb hne u,hg,hr2⟩
theorem b4z{w0 W:World}{g:Nat}{f0:ByteArray}{f1:Int}{f2:List (S31)}{f3:Int}{f4:Int}(h:IsS88 Ax cx w0 W g f0 f1 f2 f3 f4)(x:ByteArray):IsS88 Ax cx w0 (W.setCell ⟨g,0,none⟩ (.string x)) g x f1 f2 f3 f4:=by
 obtain⟨A2,c2,hb,hg,hr2⟩:=h
 exact⟨A2,c2,by simpa using tF hb 0 (.string x),hg,hr2⟩
theorem b4y{w0 W:World}{g:Nat}{f0:ByteArray}{f1:Int}{f2:List (S31)}{f3:Int}{f4:Int}(h:IsS88 Ax cx w0 W g f0 f1 f2 f3 f4)(x:Int):IsS88 Ax cx w0 (W.setCell ⟨g,1,none⟩ (.int .i64 x)) g f0 x f2 f3 f4:=by
 obtain⟨A2,c2,hb,hg,hr2⟩:=h
 exact⟨A2,c2,by simpa using tF hb 1 (.int .i64 x),hg,hr2⟩
theorem b4x{w0 W:World}{g:Nat}{f0:ByteArray}{f1:Int}{f2:List (S31)}{f3:Int}{f4:Int}(h:IsS88 Ax cx w0 W g f0 f1 f2 f3 f4)(x:Int):IsS88 Ax cx w0 (W.setCell ⟨g,3,none⟩ (.int .i64 x)) g f0 f1 f2 x f4:=by
 obtain⟨A2,c2,hb,hg,hr2⟩:=h
 exact⟨A2,c2,by simpa using tF hb 3 (.int .i64 x),hg,hr2⟩
theorem b4w{w0 W:World}{g:Nat}{f0:ByteArray}{f1:Int}{f2:List (S31)}{f3:Int}{f4:Int}(h:IsS88 Ax cx w0 W g f0 f1 f2 f3 f4)(x:Int):IsS88 Ax cx w0 (W.setCell ⟨g,4,none⟩ (.int .i64 x)) g f0 f1 f2 f3 x:=by
 obtain⟨A2,c2,hb,hg,hr2⟩:=h
 exact⟨A2,c2,by simpa using tF hb 4 (.int .i64 x),hg,hr2⟩
def rU:Nat→Int→ByteArray→Option (ByteArray)
 | 0,_,_=>none
 | k+1,x0,x3=>if x3.toList=([]:List UInt8)then((some (([(IntKind.u64.wrap (48+(Int.tmod x0 10)))%256]:List Int):List Int)).bind fun a1=>(if(strOfNums a1).size+x3.size≤9223372036854775807 then(rU k (IntKind.u64.wrap (Int.tdiv x0 10)) ((strOfNums a1)++x3))else(none)))else(if x0>0 then((some (([(IntKind.u64.wrap (48+(Int.tmod x0 10)))%256]:List Int):List Int)).bind fun a0=>(if(strOfNums a0).size+x3.size≤9223372036854775807 then(rU k (IntKind.u64.wrap (Int.tdiv x0 10)) ((strOfNums a0)++x3))else(none)))else(some x3))
def zH(k:Nat)(a0:Int):Option (ByteArray):=rU k a0 (⟨#[]⟩:ByteArray)
theorem KMi(k:Nat)(a0:Int)(r:ByteArray)(w:World)(h:zH k a0=some r) :
  Calls Tryz.prog 102 #[.int .u64 a0] w fun e w'=>e= .returned (.string r)∧Below w.heap.size w w':=by
 have HB:=am (Below.refl w.heap.size w)
 have H:=h
 clear h
 unfold zH at H
 replace H:=am H
 go_enter Tryz.func102,Tryz.ntmps102
 go_wp2
 go_loopg [0,3] k (fun kq v0 v3 w' =>∃(a1:Int) (a2:ByteArray),v0= .int .u64 a1∧v3= .string a2∧Aside0 (rU kq a1 a2=some r)∧Aside0 (kq≤k)∧Aside0 (Below w.heap.size w w'))
 case atStart=>exact⟨a0,((⟨#[]⟩:ByteArray)),rfl,rfl,H,⟨Nat.le_refl _⟩,⟨sW HB.out⟩⟩
 clear H
 obtain⟨a1,a2,rfl,rfl,HA,a6,HB⟩:=hrel
 cases gk with
 | zero=>cases HA.out
 | succ k1 =>
  obtain⟨H⟩:=HA
  simp only[rU]at H
  replace H:=iE H;rcases H with⟨aE,aD,H⟩|⟨aE,aD,H⟩
  ·replace H:=oS H;obtain⟨a4,a9,H⟩:=H
   replace H:=iP H;obtain⟨c3,H⟩:=H
   have aM:=eq_true c3
   have aL:decide ((strOfNums a4).size+a2.size≤9223372036854775807)=true:=decide_eq_true c3
   try have aK:(9223372036854775807<(strOfNums a4).size+a2.size)=False:=eq_false (Nat.not_lt.2 c3)
   replace H:=am H
   go_wp2_with (((with_reducible refine pU (N:=16) rfl ?_);refine Kd.YC (Kd.int .u8) _ 5 ?hg (N:=16) ?hd (xs:=([(IntKind.u64.wrap (48+(Int.tmod a1 10)))%256]:List Int)) (inner:=[.int .u8 ((IntKind.u64.wrap (48+(Int.tmod a1 10)))%256)]) (ok:=fun _=>True) (okp:=fun _=>True) ?hr ?hp (fun _ hk=>hk) trivial (Below.refl _ _) (Nat.le_refl _) (by simp) ?_;(case hd=>rfl);(case hg=>rfl);(case hr=>(go_simp;done));(case hp=>exact(Reps.one (show Kd.M (Kd.int .u8) _ _ _ ((IntKind.u64.wrap (48+(Int.tmod a1 10)))%256) [.int .u8 ((IntKind.u64.wrap (48+(Int.tmod a1 10)))%256)]from rfl) (Reps.none _ _)));intro aG w4 a7 hb hg_ hnew_;clear hg_ hnew_;(rw[← a9.out]at a7);have aB:=rL a7 HB;replace HB:=hB HB hb;clear hb a7;have hcv6:=b0a (P:=Tryz.prog) Tryz.underlying22 Tryz.underlying5 Tryz.underlying9 (Kd.XF aB.out)))
   go_roundg k1
   case measure=>have:=a6.out;omega
   case rel=>exact⟨(IntKind.u64.wrap (Int.tdiv a1 10)),((strOfNums a4)++a2),rfl,rfl,H,⟨by have:=a6.out;omega⟩,⟨sW HB.out⟩⟩
  by_cases c7:a1>0
  ·rw[if_pos c7]at H
   have aC:decide (0<a1)=true:=decide_eq_true c7
   clear c7
   replace H:=oS H;obtain⟨a3,a8,H⟩:=H
   replace H:=iP H;obtain⟨c8,H⟩:=H
   have aJ:=eq_true c8
   have aI:decide ((strOfNums a3).size+a2.size≤9223372036854775807)=true:=decide_eq_true c8
   try have aH:(9223372036854775807<(strOfNums a3).size+a2.size)=False:=eq_false (Nat.not_lt.2 c8)
   replace H:=am H
   go_wp2_with (((with_reducible refine pU (N:=16) rfl ?_);refine Kd.YC (Kd.int .u8) _ 5 ?hg (N:=16) ?hd (xs:=([(IntKind.u64.wrap (48+(Int.tmod a1 10)))%256]:List Int)) (inner:=[.int .u8 ((IntKind.u64.wrap (48+(Int.tmod a1 10)))%256)]) (ok:=fun _=>True) (okp:=fun _=>True) ?hr ?hp (fun _ hk=>hk) trivial (Below.refl _ _) (Nat.le_refl _) (by simp) ?_;(case hd=>rfl);(case hg=>rfl);(case hr=>(go_simp;done));(case hp=>exact(Reps.one (show Kd.M (Kd.int .u8) _ _ _ ((IntKind.u64.wrap (48+(Int.tmod a1 10)))%256) [.int .u8 ((IntKind.u64.wrap (48+(Int.tmod a1 10)))%256)]from rfl) (Reps.none _ _)));intro aF w9 a5 hb hg_ hnew_;clear hg_ hnew_;(rw[← a8.out]at a5);have aA:=rL a5 HB;replace HB:=hB HB hb;clear hb a5;have hcv11:=b0a (P:=Tryz.prog) Tryz.underlying22 Tryz.underlying5 Tryz.underlying9 (Kd.XF aA.out)))
   go_roundg k1
   case measure=>have:=a6.out;omega
   case rel=>exact⟨(IntKind.u64.wrap (Int.tdiv a1 10)),((strOfNums a3)++a2),rfl,rfl,H,⟨by have:=a6.out;omega⟩,⟨sW HB.out⟩⟩
  rw[if_neg c7]at H
  have aC:decide (0<a1)=false:=decide_eq_false c7
  clear c7
  obtain rfl:=oI H
  go_wp2
  go_ret
  exact⟨rfl,sW HB.out⟩
def qP(k:Nat)(a0:Int):Option (ByteArray):=if a0<0 then((zH k (IntKind.u64.wrap ((IntKind.u64.wrap (wrap64 (-(wrap64 (a0+1)))))+1))).bind fun a1=>(if 1+a1.size≤9223372036854775807 then(some ((⟨#[45]⟩:ByteArray)++a1))else(none)))else((zH k (IntKind.u64.wrap (a0))).bind fun a2=>(some a2))
theorem JNi{k:Nat}{a0:Int}{r:ByteArray}{w:World}(h:qP k a0=some r) :
  Calls Tryz.prog 68 #[.int .i64 a0] w fun e w'=>e= .returned (.string r)∧Below w.heap.size w w':=by
 have HB:=am (Below.refl w.heap.size w)
 have H:=h
 clear h
 unfold qP at H
 replace H:=iD H;rcases H with⟨a2,H⟩|⟨a2,H⟩
 ·replace H:=oA H;obtain⟨a1,A3,H⟩:=H
  replace H:=iP H;obtain⟨c4,H⟩:=H
  have a6:=eq_true c4
  have a5:decide (1+a1.size≤9223372036854775807)=true:=decide_eq_true c4
  try have a4:(9223372036854775807<1+a1.size)=False:=eq_false (Nat.not_lt.2 c4)
  obtain rfl:=oI H
  go_enter Tryz.func68,Tryz.ntmps68
  go_wp2_with (((with_reducible refine gW ?_);refine gF 102 (some 10) rfl ?_;refine gS Tryz.func102 (KMi k (IntKind.u64.wrap ((IntKind.u64.wrap (wrap64 (-(wrap64 (a0+1)))))+1)) a1 _ A3.out) ?_;rintro w5 hb;replace HB:=hB HB hb;(try clear hb)))
  go_ret
  exact⟨rfl,sW HB.out⟩
 replace H:=oA H;obtain⟨a3,A6,H⟩:=H
 obtain rfl:=oI H
 go_enter Tryz.func68,Tryz.ntmps68
 go_wp2_with (((with_reducible refine gW ?_);refine gF 102 (some 14) rfl ?_;refine gS Tryz.func102 (KMi _ _ _ _ A6.out) ?_;rintro w7 hb;replace HB:=hB HB hb;(try clear hb)))
 go_ret
 exact⟨rfl,sW HB.out⟩
def wO(a0:Int):Option (ByteArray):=(some (([(⟨#[97,110,100]⟩:ByteArray),(⟨#[111,114]⟩:ByteArray),(⟨#[120,111,114]⟩:ByteArray),(⟨#[97,100,100]⟩:ByteArray),(⟨#[115,117,98]⟩:ByteArray),(⟨#[109,117,108]⟩:ByteArray),(⟨#[100,105,118]⟩:ByteArray),(⟨#[114,101,109]⟩:ByteArray),(⟨#[115,104,108]⟩:ByteArray),(⟨#[115,104,114]⟩:ByteArray),(⟨#[61]⟩:ByteArray),(⟨#[60]⟩:ByteArray),(⟨#[115,60]⟩:ByteArray),(⟨#[106,111,105,110]⟩:ByteArray)]:List ByteArray):List ByteArray)).bind fun a1=>((qE a0 3 16).bind fun a2=>(if a2=true then(if 0≤(wrap64 (a0-3))then(if(wrap64 (a0-3))<(a1.length:Int)then(some (wH ByteArray.empty a1 (wrap64 (a0-3))))else(none))else(none))else(some (⟨#[]⟩:ByteArray))))
theorem KGi{a0:Int}{r:ByteArray}{w:World}(h:wO a0=some r) :
  Calls Tryz.prog 69 #[.int .i64 a0] w fun e w'=>e= .returned (.string r)∧Below w.heap.size w w':=by
 have HB:=am (Below.refl w.heap.size w)
 have H:=h
 clear h
 unfold wO at H
 replace H:=oS H;obtain⟨aB,a3,H⟩:=H
 replace H:=oA H;obtain⟨aC,A2,H⟩:=H
 replace H:=iB H;rcases H with⟨rfl,H⟩|⟨rfl,H⟩
 ·generalize a5:wrap64 (a0-3)=a6 at H
  (try rw[a5]at A2)
  have a9:(IntKind.i64.wrap (a0-3))=a6:=(vB _).trans a5
  replace H:=iN H;obtain⟨aG,H⟩:=H
  replace H:=iN H;obtain⟨aF,H⟩:=H
  obtain rfl:=oI H
  go_enter Tryz.func69,Tryz.ntmps69
  go_wp2_with (((with_reducible refine gW ?_);first|((with_reducible refine pU (N:=4) rfl ?_);refine Kd.YC Kd.string _ 9 ?hg (N:=4) ?hd (xs:=([(⟨#[97,110,100]⟩:ByteArray),(⟨#[111,114]⟩:ByteArray),(⟨#[120,111,114]⟩:ByteArray),(⟨#[97,100,100]⟩:ByteArray),(⟨#[115,117,98]⟩:ByteArray),(⟨#[109,117,108]⟩:ByteArray),(⟨#[100,105,118]⟩:ByteArray),(⟨#[114,101,109]⟩:ByteArray),(⟨#[115,104,108]⟩:ByteArray),(⟨#[115,104,114]⟩:ByteArray),(⟨#[61]⟩:ByteArray),(⟨#[60]⟩:ByteArray),(⟨#[115,60]⟩:ByteArray),(⟨#[106,111,105,110]⟩:ByteArray)]:List ByteArray)) (inner:=[.string (⟨#[97,110,100]⟩:ByteArray),.string (⟨#[111,114]⟩:ByteArray),.string (⟨#[120,111,114]⟩:ByteArray),.string (⟨#[97,100,100]⟩:ByteArray),.string (⟨#[115,117,98]⟩:ByteArray),.string (⟨#[109,117,108]⟩:ByteArray),.string (⟨#[100,105,118]⟩:ByteArray),.string (⟨#[114,101,109]⟩:ByteArray),.string (⟨#[115,104,108]⟩:ByteArray),.string (⟨#[115,104,114]⟩:ByteArray),.string (⟨#[61]⟩:ByteArray),.string (⟨#[60]⟩:ByteArray),.string (⟨#[115,60]⟩:ByteArray),.string (⟨#[106,111,105,110]⟩:ByteArray)]) (ok:=fun _=>True) (okp:=fun _=>True) ?hr ?hp (fun _ hk=>hk) trivial (Below.refl _ _) (Nat.le_refl _) (by simp) ?_;(case hd=>rfl);(case hg=>rfl);(case hr=>(go_simp;done));(case hp=>exact(Reps.one (show Kd.M Kd.string _ _ _ (⟨#[97,110,100]⟩:ByteArray) [.string (⟨#[97,110,100]⟩:ByteArray)]from rfl) (Reps.one (show Kd.M Kd.string _ _ _ (⟨#[111,114]⟩:ByteArray) [.string (⟨#[111,114]⟩:ByteArray)]from rfl) (Reps.one (show Kd.M Kd.string _ _ _ (⟨#[120,111,114]⟩:ByteArray) [.string (⟨#[120,111,114]⟩:ByteArray)]from rfl) (Reps.one (show Kd.M Kd.string _ _ _ (⟨#[97,100,100]⟩:ByteArray) [.string (⟨#[97,100,100]⟩:ByteArray)]from rfl) (Reps.one (show Kd.M Kd.string _ _ _ (⟨#[115,117,98]⟩:ByteArray) [.string (⟨#[115,117,98]⟩:ByteArray)]from rfl) (Reps.one (show Kd.M Kd.string _ _ _ (⟨#[109,117,108]⟩:ByteArray) [.string (⟨#[109,117,108]⟩:ByteArray)]from rfl) (Reps.one (show Kd.M Kd.string _ _ _ (⟨#[100,105,118]⟩:ByteArray) [.string (⟨#[100,105,118]⟩:ByteArray)]from rfl) (Reps.one (show Kd.M Kd.string _ _ _ (⟨#[114,101,109]⟩:ByteArray) [.string (⟨#[114,101,109]⟩:ByteArray)]from rfl) (Reps.one (show Kd.M Kd.string _ _ _ (⟨#[115,104,108]⟩:ByteArray) [.string (⟨#[115,104,108]⟩:ByteArray)]from rfl) (Reps.one (show Kd.M Kd.string _ _ _ (⟨#[115,104,114]⟩:ByteArray) [.string (⟨#[115,104,114]⟩:ByteArray)]from rfl) (Reps.one (show Kd.M Kd.string _ _ _ (⟨#[61]⟩:ByteArray) [.string (⟨#[61]⟩:ByteArray)]from rfl) (Reps.one (show Kd.M Kd.string _ _ _ (⟨#[60]⟩:ByteArray) [.string (⟨#[60]⟩:ByteArray)]from rfl) (Reps.one (show Kd.M Kd.string _ _ _ (⟨#[115,60]⟩:ByteArray) [.string (⟨#[115,60]⟩:ByteArray)]from rfl) (Reps.one (show Kd.M Kd.string _ _ _ (⟨#[106,111,105,110]⟩:ByteArray) [.string (⟨#[106,111,105,110]⟩:ByteArray)]from rfl) (Reps.none _ _))))))))))))))));intro a7 w7 a4 hb hg_ hnew_;clear hg_ hnew_;(rw[← a3.out]at a4);have a1:=rL a4 HB;replace HB:=hB HB hb;clear hb a4)|(refine gD (some 6) Tryz.func28 rfl (JBi A2.out) fun nd=>?_;obtain⟨aI,aH,rfl⟩:=Kd.JB a1.out;obtain⟨aE,aD,aA,rfl,a8⟩:=ix (Kd.YZ (Kd.JA a1.out).2.2 (a6)))))
  go_ret
  exact⟨rfl,sW HB.out⟩
 obtain rfl:=oI H
 go_enter Tryz.func69,Tryz.ntmps69
 go_wp2_with (((with_reducible refine gW ?_);first|((with_reducible refine pU (N:=4) rfl ?_);refine Kd.YC Kd.string _ 9 ?hg (N:=4) ?hd (xs:=([(⟨#[97,110,100]⟩:ByteArray),(⟨#[111,114]⟩:ByteArray),(⟨#[120,111,114]⟩:ByteArray),(⟨#[97,100,100]⟩:ByteArray),(⟨#[115,117,98]⟩:ByteArray),(⟨#[109,117,108]⟩:ByteArray),(⟨#[100,105,118]⟩:ByteArray),(⟨#[114,101,109]⟩:ByteArray),(⟨#[115,104,108]⟩:ByteArray),(⟨#[115,104,114]⟩:ByteArray),(⟨#[61]⟩:ByteArray),(⟨#[60]⟩:ByteArray),(⟨#[115,60]⟩:ByteArray),(⟨#[106,111,105,110]⟩:ByteArray)]:List ByteArray)) (inner:=[.string (⟨#[97,110,100]⟩:ByteArray),.string (⟨#[111,114]⟩:ByteArray),.string (⟨#[120,111,114]⟩:ByteArray),.string (⟨#[97,100,100]⟩:ByteArray),.string (⟨#[115,117,98]⟩:ByteArray),.string (⟨#[109,117,108]⟩:ByteArray),.string (⟨#[100,105,118]⟩:ByteArray),.string (⟨#[114,101,109]⟩:ByteArray),.string (⟨#[115,104,108]⟩:ByteArray),.string (⟨#[115,104,114]⟩:ByteArray),.string (⟨#[61]⟩:ByteArray),.string (⟨#[60]⟩:ByteArray),.string (⟨#[115,60]⟩:ByteArray),.string (⟨#[106,111,105,110]⟩:ByteArray)]) (ok:=fun _=>True) (okp:=fun _=>True) ?hr ?hp (fun _ hk=>hk) trivial (Below.refl _ _) (Nat.le_refl _) (by simp) ?_;(case hd=>rfl);(case hg=>rfl);(case hr=>(go_simp;done));(case hp=>exact(Reps.one (show Kd.M Kd.string _ _ _ (⟨#[97,110,100]⟩:ByteArray) [.string (⟨#[97,110,100]⟩:ByteArray)]from rfl) (Reps.one (show Kd.M Kd.string _ _ _ (⟨#[111,114]⟩:ByteArray) [.string (⟨#[111,114]⟩:ByteArray)]from rfl) (Reps.one (show Kd.M Kd.string _ _ _ (⟨#[120,111,114]⟩:ByteArray) [.string (⟨#[120,111,114]⟩:ByteArray)]from rfl) (Reps.one (show Kd.M Kd.string _ _ _ (⟨#[97,100,100]⟩:ByteArray) [.string (⟨#[97,100,100]⟩:ByteArray)]from rfl) (Reps.one (show Kd.M Kd.string _ _ _ (⟨#[115,117,98]⟩:ByteArray) [.string (⟨#[115,117,98]⟩:ByteArray)]from rfl) (Reps.one (show Kd.M Kd.string _ _ _ (⟨#[109,117,108]⟩:ByteArray) [.string (⟨#[109,117,108]⟩:ByteArray)]from rfl) (Reps.one (show Kd.M Kd.string _ _ _ (⟨#[100,105,118]⟩:ByteArray) [.string (⟨#[100,105,118]⟩:ByteArray)]from rfl) (Reps.one (show Kd.M Kd.string _ _ _ (⟨#[114,101,109]⟩:ByteArray) [.string (⟨#[114,101,109]⟩:ByteArray)]from rfl) (Reps.one (show Kd.M Kd.string _ _ _ (⟨#[115,104,108]⟩:ByteArray) [.string (⟨#[115,104,108]⟩:ByteArray)]from rfl) (Reps.one (show Kd.M Kd.string _ _ _ (⟨#[115,104,114]⟩:ByteArray) [.string (⟨#[115,104,114]⟩:ByteArray)]from rfl) (Reps.one (show Kd.M Kd.string _ _ _ (⟨#[61]⟩:ByteArray) [.string (⟨#[61]⟩:ByteArray)]from rfl) (Reps.one (show Kd.M Kd.string _ _ _ (⟨#[60]⟩:ByteArray) [.string (⟨#[60]⟩:ByteArray)]from rfl) (Reps.one (show Kd.M Kd.string _ _ _ (⟨#[115,60]⟩:ByteArray) [.string (⟨#[115,60]⟩:ByteArray)]from rfl) (Reps.one (show Kd.M Kd.string _ _ _ (⟨#[106,111,105,110]⟩:ByteArray) [.string (⟨#[106,111,105,110]⟩:ByteArray)]from rfl) (Reps.none _ _))))))))))))))));intro a7 w10 a2 hb hg_ hnew_;clear hg_ hnew_;(rw[← a3.out]at a2);have a1:=rL a2 HB;replace HB:=hB HB hb;clear hb a2)|(refine gD (some 6) Tryz.func28 rfl (JBi A2.out) fun nd=>?_)))
 go_ret
 exact⟨rfl,sW HB.out⟩
@[reducible] def b2j:Array Bool:= #[false,false,false,false,false,false,false,false,false,false]
@[reducible] def b2i:Array Bool:= #[true,false,false,false,false,false,false,false,false,false]
@[reducible] def b2h:Array Bool:= #[true,false,false,false,false,true,false,false,false,false]
@[reducible] def b2g:Array Bool:= #[true,true,false,false,false,true,false,false,false,false]
@[reducible] def b2f:Array Bool:= #[true,true,false,false,false,true,true,false,false,false]
@[reducible] def b2e:Array Bool:= #[true,true,true,false,false,true,true,false,false,false]
@[reducible] def b2d:Array Bool:= #[true,true,true,true,false,true,true,false,false,false]
@[reducible] def b2c:Array Bool:= #[true,true,true,true,true,true,true,false,false,false]
@[reducible] def b2b:Array Bool:= #[true,true,true,true,true,true,true,true,false,false]
@[reducible] def b2a:Array Bool:= #[true,true,true,true,true,true,true,true,true,false]
@[reducible] def c8b:Array Bool:= #[true,true,true,true,true,true,true,true,true,true]
def a1d(k:Nat)(a0:Int)(a7:Int)(a1:Int)(aG:Int)(aE:Int)(aF:Int):Option (ByteArray):=if a0=0 then((qP k a7).bind fun a6=>(if 1+a6.size≤9223372036854775807 then(if((⟨#[35]⟩:ByteArray)++a6).size+1≤9223372036854775807 then((qP k a1).bind fun aD=>(if(((⟨#[35]⟩:ByteArray)++a6)++(⟨#[58]⟩:ByteArray)).size+aD.size≤9223372036854775807 then(some ((((⟨#[35]⟩:ByteArray)++a6)++(⟨#[58]⟩:ByteArray))++aD))else(none)))else(none))else(none)))else(if a0=1 then((qP k a1).bind fun a5=>(if 1+a5.size≤9223372036854775807 then(if((⟨#[118]⟩:ByteArray)++a5).size+1≤9223372036854775807 then((qP k a7).bind fun aC=>(if(((⟨#[118]⟩:ByteArray)++a5)++(⟨#[58]⟩:ByteArray)).size+aC.size≤9223372036854775807 then(some ((((⟨#[118]⟩:ByteArray)++a5)++(⟨#[58]⟩:ByteArray))++aC))else(none)))else(none))else(none)))else(if a0=2 then(some (⟨#[40,110,111,116]⟩:ByteArray))else(if a0=17 then((qP k a1).bind fun a4=>(if 7+a4.size≤9223372036854775807 then(if((⟨#[40,115,108,105,99,101,32]⟩:ByteArray)++a4).size+1≤9223372036854775807 then((qP k a7).bind fun aB=>(if(((⟨#[40,115,108,105,99,101,32]⟩:ByteArray)++a4)++(⟨#[32]⟩:ByteArray)).size+aB.size≤9223372036854775807 then(some ((((⟨#[40,115,108,105,99,101,32]⟩:ByteArray)++a4)++(⟨#[32]⟩:ByteArray))++aB))else(none)))else(none))else(none)))else(if a0=18 then(some (⟨#[40,105,102]⟩:ByteArray))else(if a0=19 then((qP k a1).bind fun a3=>(if 6+a3.size≤9223372036854775807 then(if((⟨#[40,97,108,108,32,118]⟩:ByteArray)++a3).size+1≤9223372036854775807 then((qP k aE).bind fun aA=>(if(((⟨#[40,97,108,108,32,118]⟩:ByteArray)++a3)++(⟨#[58]⟩:ByteArray)).size+aA.size≤9223372036854775807 then(some ((((⟨#[40,97,108,108,32,118]⟩:ByteArray)++a3)++(⟨#[58]⟩:ByteArray))++aA))else(none)))else(none))else(none)))else(if a0=20 then((qP k a1).bind fun a2=>(if 7+a2.size≤9223372036854775807 then(if((⟨#[40,115,111,109,101,32,118]⟩:ByteArray)++a2).size+1≤9223372036854775807 then((qP k aE).bind fun a9=>(if(((⟨#[40,115,111,109,101,32,118]⟩:ByteArray)++a2)++(⟨#[58]⟩:ByteArray)).size+a9.size≤9223372036854775807 then(some ((((⟨#[40,115,111,109,101,32,118]⟩:ByteArray)++a2)++(⟨#[58]⟩:ByteArray))++a9))else(none)))else(none))else(none)))else((wO a0).bind fun a8=>(if 1+a8.size≤9223372036854775807 then(some ((⟨#[40]⟩:ByteArray)++a8))else(none)))))))))
def a6d:Bool×List (List Nat×List Nat):=(true,[([],[]),([0],[0]),([1],[1]),([2],[2]),([3],[3]),([],[]),([5],[5]),([6,2],[6]),([4,7],[4,7]),([8,7,0,1,2,3,4,5,6,7,8],[8])])
def b3e:List Nat:=[0,1,3,7,15,0,32,103,255,511]
theorem a9i:a4f .any (a7z Tryz.f52 3)=a6d:=by kernel_rfl
theorem a8n:yL a6d.2 b3e=true:=by kernel_rfl
def a6c:Bool×List (List Nat×List Nat):=(true,[([],[]),([0],[0]),([1],[1]),([2],[2]),([3],[3]),([],[]),([5],[5]),([6,2],[6]),([4,7],[4,7]),([8,7,0,1,2,3,4,5,6,7,8],[8])])
def b3d:List Nat:=[0,1,3,7,15,0,32,103,255,511]
theorem a9h:a4f .any (a7z Tryz.f52 5)=a6c:=by kernel_rfl
theorem a8m:yL a6c.2 b3d=true:=by kernel_rfl
def a6b:Bool×List (List Nat×List Nat):=(true,[([],[]),([0],[0]),([1],[1]),([2],[2]),([3],[3]),([],[]),([5],[5]),([6,2],[6]),([4,7],[4,7]),([8,7,0,1,2,3,4,5,6,7,8],[8])])
def b3c:List Nat:=[0,1,3,7,15,0,32,103,255,511]
theorem a9g:a4f .any (a7z Tryz.f52 9)=a6b:=by kernel_rfl
theorem a8l:yL a6b.2 b3c=true:=by kernel_rfl
def a5e:Bool×List (List Nat×List Nat):=(true,[([],[]),([0],[0]),([1],[1]),([2],[2]),([3],[3]),([],[]),([5],[5]),([6,2],[6]),([4,7],[4,7]),([8,7,0,1,2,3,4,5,6,7,8],[8])])
def b1i:List Nat:=[0,1,3,7,15,0,32,103,255,511]
theorem a8k:a4f .any (a7z Tryz.f52 13)=a5e:=by kernel_rfl
theorem a6m:yL a5e.2 b1i=true:=by kernel_rfl
def a5d:Bool×List (List Nat×List Nat):=(true,[([],[]),([0],[0]),([1],[1]),([2],[2]),([3],[3]),([],[]),([5],[5]),([6,2],[6]),([4,7],[4,7]),([8,7,0,1,2,3,4,5,6,7,8],[8])])
def b1h:List Nat:=[0,1,3,7,15,0,32,103,255,511]
theorem a8j:a4f .any (a7z Tryz.f52 15)=a5d:=by kernel_rfl
theorem a6l:yL a5d.2 b1h=true:=by kernel_rfl
theorem yO{P:Prop}(h:P:=by
 simp only[Act.put,List.setIfInBounds_toArray,List.set_cons_zero,List.set_cons_succ,vB,a3w]
 rfl):P:=h
theorem b1x{P:Prop}(h:P:=by
 refine pT (i:=9) (N:=some 2) c8b ?_
 refine a1s (a2u HT_.out (by kernel_rfl)) ?_
 try go_wp2
 go_ret
 exact⟨rfl,bW⟩):P:=h
theorem c5d{P:Prop}(h:P:=by
 obtain rfl:=oI H
 go_enter Tryz.func52,Tryz.ntmps52
 go_wp2_with (((with_reducible refine gW ?_);refine bX 1 33 #[.int .i64 a7,.int .i64 a3,.int .i64 a2,.int .i64 a6,.int .i64 a4,.int .i64 a5] ?_;intro a1 hg dN hbox hb;have a0:=am hbox;have aD:=gw hg;have aE:=gw hg;replace HB:=hB HB hb;clear hb hbox hg;have dM:=cf6 a0.out))
 go_ret
 exact⟨rfl,bW⟩):P:=h
theorem XHi{k:Nat}{a7 a3 a2 a6 a4 a5:Int}{r:ByteArray}{w:World}(h:a1d k a7 a3 a2 a6 a4 a5=some r) :
  Calls Tryz.prog 52 #[.agg #[.int .i64 a7,.int .i64 a3,.int .i64 a2,.int .i64 a6,.int .i64 a4,.int .i64 a5]] w fun e w'=>e= .returned (.string r)∧Below w.heap.size w w':=by
 have hu31:=Tryz.underlying33
 have HB:=am (Below.refl w.heap.size w)
 have H:=h
 clear h
 unfold a1d at H
 replace H:=iE H;rcases H with⟨bB,bA,H⟩|⟨bB,bA,H⟩
 ·replace H:=oA H;obtain⟨aC,A3,H⟩:=H
  replace H:=iP H;obtain⟨c4,H⟩:=H
  have dF:=eq_true c4
  have dE:decide (1+aC.size≤9223372036854775807)=true:=decide_eq_true c4
  try have dD:(9223372036854775807<1+aC.size)=False:=eq_false (Nat.not_lt.2 c4)
  replace H:=iP H;obtain⟨c5,H⟩:=H
  have dA:=eq_true c5
  have d9:decide (((⟨#[35]⟩:ByteArray)++aC).size+1≤9223372036854775807)=true:=decide_eq_true c5
  try have d8:(9223372036854775807<((⟨#[35]⟩:ByteArray)++aC).size+1)=False:=eq_false (Nat.not_lt.2 c5)
  have dP:(9223372036854775807<1+aC.size+1)=False:=eq_false (Nat.not_lt.2 (by have h_:=c5;(repeat rw[ByteArray.size_append]at h_);exact h_))
  replace H:=oA H;obtain⟨aJ,A6,H⟩:=H
  replace H:=iP H;obtain⟨c7,H⟩:=H
  have d7:=eq_true c7
  have d6:decide ((((⟨#[35]⟩:ByteArray)++aC)++(⟨#[58]⟩:ByteArray)).size+aJ.size≤9223372036854775807)=true:=decide_eq_true c7
  try have d5:(9223372036854775807<(((⟨#[35]⟩:ByteArray)++aC)++(⟨#[58]⟩:ByteArray)).size+aJ.size)=False:=eq_false (Nat.not_lt.2 c7)
  have dO:(9223372036854775807<1+aC.size+1+aJ.size)=False:=eq_false (Nat.not_lt.2 (by have h_:=c7;(repeat rw[ByteArray.size_append]at h_);exact h_))
  obtain rfl:=oI H
  go_enter Tryz.func52,Tryz.ntmps52
  try go_wp2_with (((with_reducible refine gW ?_);refine bX 1 33 #[.int .i64 a7,.int .i64 a3,.int .i64 a2,.int .i64 a6,.int .i64 a4,.int .i64 a5] ?_;intro a1 hg w8 hbox hb;have a0:=am hbox;have aD:=gw hg;have aE:=gw hg;replace HB:=hB HB hb;clear hb hbox hg;have bH:=cf6 a0.out))
  replace a0:=am (kW a0.out)
  replace HB:=am (kQ HB.out)
  refine vC (n:=10) (S:=fun w'=>w'.cell? ⟨a1,0,none⟩=some (.int .i64 a7)∧w'.cell? ⟨a1,1,none⟩=some (.int .i64 a3)∧w'.cell? ⟨a1,2,none⟩=some (.int .i64 a2)∧w'.cell? ⟨a1,3,none⟩=some (.int .i64 a6)∧w'.cell? ⟨a1,4,none⟩=some (.int .i64 a4)∧w'.cell? ⟨a1,5,none⟩=some (.int .i64 a5)) (ds:=[]) b2j (by kernel_rfl) rfl rfl (cz6 a0.out) (fun hHeld=>?_);refine uR a9i a8n (fun HT_ HW_=>?_)
  generalize w8.drew=w10 at a0 HB hHeld ⊢
  refine pT (i:=0) (N:=some 7) b2i ?_
  refine pT (i:=5) (N:=some 12) b2h ?_
  refine qY (i:=1) (N:=some 8) (v:=?_) (a':=?_) b2g rfl rfl (pM HT_.out HW_.out (by kernel_rfl)) (fun _ _ _ h=>h) (Or.inl ⟨by rfl,?_⟩) hHeld ?_ ?_
  rotate_left
  ·rintro w' ⟨s0,s1,s2,s3,s4,s5⟩
   go_simp
   with_reducible rfl
  rotate_left
  ·exact yO
  refine qY (i:=6) (N:=some 13) (v:=?_) (a':=?_) b2f rfl rfl (pM HT_.out HW_.out (by kernel_rfl)) (fun _ _ _ h=>h) (Or.inl ⟨by rfl,?_⟩) hHeld ?_ ?_
  rotate_left
  ·rintro w' ⟨s0,s1,s2,s3,s4,s5⟩
   go_simp
   with_reducible rfl
  rotate_left
  ·exact yO
  refine a1t (i:=2) (N:=some 9) b2e rfl rfl (yR HT_.out (by kernel_rfl)) (by decide) (fun K hK=>?_)
  refine a1g Tryz.func68 (by kernel_rfl) rfl #[.int .i64 a3] (by rfl) rfl rfl tm ?_
  with_reducible refine(JNi A3.out).mono ?_
  rintro e w11 ⟨rfl,hb⟩
  refine⟨_,rfl,?_⟩
  replace a0:=gB a0 hb
  replace HB:=hX hb
  clear hb
  refine hK.out _ _ (cz6 a0.out) (fun hHeld=>?_)
  clear hK K
  refine vA (a':=?_) ?_ ?_
  rotate_left
  ·show Act.put _ (some 9) _=_
   exact yO
  refine pT (i:=3) (N:=some 10) b2d ?_
  refine pT (i:=4) (N:=some 11) b2c ?_
  refine a1t (i:=7) (N:=some 14) b2b rfl rfl (yR HT_.out (by kernel_rfl)) (by decide) (fun K hK=>?_)
  refine a1g Tryz.func68 (by kernel_rfl) rfl #[.int .i64 a2] (by rfl) rfl rfl tm ?_
  with_reducible refine(JNi A6.out).mono ?_
  rintro e w12 ⟨rfl,hb⟩
  refine⟨_,rfl,?_⟩
  replace a0:=gB a0 hb
  replace HB:=hX hb
  clear hb
  refine hK.out _ _ (cz6 a0.out) (fun hHeld=>?_)
  clear hK K
  refine vA (a':=?_) ?_ ?_
  rotate_left
  ·show Act.put _ (some 14) _=_
   exact yO
  refine pT (i:=8) (N:=some 15) b2a ?_
  exact b1x
 replace H:=iE H;rcases H with⟨b9,b8,H⟩|⟨b9,b8,H⟩
 ·replace H:=oA H;obtain⟨aB,bQ,H⟩:=H
  replace H:=iP H;obtain⟨aY,H⟩:=H
  have d4:=eq_true aY
  have d3:decide (1+aB.size≤9223372036854775807)=true:=decide_eq_true aY
  try have d2:(9223372036854775807<1+aB.size)=False:=eq_false (Nat.not_lt.2 aY)
  replace H:=iP H;obtain⟨aS,H⟩:=H
  have d1:=eq_true aS
  have d0:decide (((⟨#[118]⟩:ByteArray)++aB).size+1≤9223372036854775807)=true:=decide_eq_true aS
  try have c_:(9223372036854775807<((⟨#[118]⟩:ByteArray)++aB).size+1)=False:=eq_false (Nat.not_lt.2 aS)
  have dL:(9223372036854775807<1+aB.size+1)=False:=eq_false (Nat.not_lt.2 (by have h_:=aS;(repeat rw[ByteArray.size_append]at h_);exact h_))
  replace H:=oA H;obtain⟨aI,bP,H⟩:=H
  replace H:=iP H;obtain⟨aR,H⟩:=H
  have cZ:=eq_true aR
  have cY:decide ((((⟨#[118]⟩:ByteArray)++aB)++(⟨#[58]⟩:ByteArray)).size+aI.size≤9223372036854775807)=true:=decide_eq_true aR
  try have cX:(9223372036854775807<(((⟨#[118]⟩:ByteArray)++aB)++(⟨#[58]⟩:ByteArray)).size+aI.size)=False:=eq_false (Nat.not_lt.2 aR)
  have dK:(9223372036854775807<1+aB.size+1+aI.size)=False:=eq_false (Nat.not_lt.2 (by have h_:=aR;(repeat rw[ByteArray.size_append]at h_);exact h_))
  obtain rfl:=oI H
  go_enter Tryz.func52,Tryz.ntmps52
  try go_wp2_with (((with_reducible refine gW ?_);refine bX 1 33 #[.int .i64 a7,.int .i64 a3,.int .i64 a2,.int .i64 a6,.int .i64 a4,.int .i64 a5] ?_;intro a1 hg w19 hbox hb;have a0:=am hbox;have aD:=gw hg;have aE:=gw hg;replace HB:=hB HB hb;clear hb hbox hg;have bG:=cf6 a0.out))
  replace a0:=am (kW a0.out)
  replace HB:=am (kQ HB.out)
  refine vC (n:=10) (S:=fun w'=>w'.cell? ⟨a1,0,none⟩=some (.int .i64 a7)∧w'.cell? ⟨a1,1,none⟩=some (.int .i64 a3)∧w'.cell? ⟨a1,2,none⟩=some (.int .i64 a2)∧w'.cell? ⟨a1,3,none⟩=some (.int .i64 a6)∧w'.cell? ⟨a1,4,none⟩=some (.int .i64 a4)∧w'.cell? ⟨a1,5,none⟩=some (.int .i64 a5)) (ds:=[]) b2j (by kernel_rfl) rfl rfl (cz6 a0.out) (fun hHeld=>?_);refine uR a9h a8m (fun HT_ HW_=>?_)
  generalize w19.drew=w21 at a0 HB hHeld ⊢
  refine pT (i:=0) (N:=some 18) b2i ?_
  refine pT (i:=5) (N:=some 23) b2h ?_
  refine qY (i:=1) (N:=some 19) (v:=?_) (a':=?_) b2g rfl rfl (pM HT_.out HW_.out (by kernel_rfl)) (fun _ _ _ h=>h) (Or.inl ⟨by rfl,?_⟩) hHeld ?_ ?_
  rotate_left
  ·rintro w' ⟨s0,s1,s2,s3,s4,s5⟩
   go_simp
   with_reducible rfl
  rotate_left
  ·exact yO
  refine qY (i:=6) (N:=some 24) (v:=?_) (a':=?_) b2f rfl rfl (pM HT_.out HW_.out (by kernel_rfl)) (fun _ _ _ h=>h) (Or.inl ⟨by rfl,?_⟩) hHeld ?_ ?_
  rotate_left
  ·rintro w' ⟨s0,s1,s2,s3,s4,s5⟩
   go_simp
   with_reducible rfl
  rotate_left
  ·exact yO
  refine a1t (i:=2) (N:=some 20) b2e rfl rfl (yR HT_.out (by kernel_rfl)) (by decide) (fun K hK=>?_)
  refine a1g Tryz.func68 (by kernel_rfl) rfl #[.int .i64 a2] (by rfl) rfl rfl tm ?_
  with_reducible refine(JNi bQ.out).mono ?_
  rintro e w22 ⟨rfl,hb⟩
  refine⟨_,rfl,?_⟩
  replace a0:=gB a0 hb
  replace HB:=hX hb
  clear hb
  refine hK.out _ _ (cz6 a0.out) (fun hHeld=>?_)
  clear hK K
  refine vA (a':=?_) ?_ ?_
  rotate_left
  ·show Act.put _ (some 20) _=_
   exact yO
  refine pT (i:=3) (N:=some 21) b2d ?_
  refine pT (i:=4) (N:=some 22) b2c ?_
  refine a1t (i:=7) (N:=some 25) b2b rfl rfl (yR HT_.out (by kernel_rfl)) (by decide) (fun K hK=>?_)
  refine a1g Tryz.func68 (by kernel_rfl) rfl #[.int .i64 a3] (by rfl) rfl rfl tm ?_
  with_reducible refine(JNi bP.out).mono ?_
  rintro e w23 ⟨rfl,hb⟩
  refine⟨_,rfl,?_⟩
  replace a0:=gB a0 hb
  replace HB:=hX hb
  clear hb
  refine hK.out _ _ (cz6 a0.out) (fun hHeld=>?_)
  clear hK K
  refine vA (a':=?_) ?_ ?_
  rotate_left
  ·show Act.put _ (some 25) _=_
   exact yO
  refine pT (i:=8) (N:=some 26) b2a ?_
  exact b1x
 replace H:=iE H;rcases H with⟨b7,b6,H⟩|⟨b7,b6,H⟩
 ·exact c5d
 replace H:=iE H;rcases H with⟨b5,b4,H⟩|⟨b5,b4,H⟩
 ·replace H:=oA H;obtain⟨aA,bO,H⟩:=H
  replace H:=iP H;obtain⟨aX,H⟩:=H
  have cW:=eq_true aX
  have cV:decide (7+aA.size≤9223372036854775807)=true:=decide_eq_true aX
  try have cU:(9223372036854775807<7+aA.size)=False:=eq_false (Nat.not_lt.2 aX)
  replace H:=iP H;obtain⟨aQ,H⟩:=H
  have cT:=eq_true aQ
  have cS:decide (((⟨#[40,115,108,105,99,101,32]⟩:ByteArray)++aA).size+1≤9223372036854775807)=true:=decide_eq_true aQ
  try have cR:(9223372036854775807<((⟨#[40,115,108,105,99,101,32]⟩:ByteArray)++aA).size+1)=False:=eq_false (Nat.not_lt.2 aQ)
  have dJ:(9223372036854775807<7+aA.size+1)=False:=eq_false (Nat.not_lt.2 (by have h_:=aQ;(repeat rw[ByteArray.size_append]at h_);exact h_))
  replace H:=oA H;obtain⟨aH,bN,H⟩:=H
  replace H:=iP H;obtain⟨aO,H⟩:=H
  have cQ:=eq_true aO
  have cP:decide ((((⟨#[40,115,108,105,99,101,32]⟩:ByteArray)++aA)++(⟨#[32]⟩:ByteArray)).size+aH.size≤9223372036854775807)=true:=decide_eq_true aO
  try have cO:(9223372036854775807<(((⟨#[40,115,108,105,99,101,32]⟩:ByteArray)++aA)++(⟨#[32]⟩:ByteArray)).size+aH.size)=False:=eq_false (Nat.not_lt.2 aO)
  have dI:(9223372036854775807<7+aA.size+1+aH.size)=False:=eq_false (Nat.not_lt.2 (by have h_:=aO;(repeat rw[ByteArray.size_append]at h_);exact h_))
  obtain rfl:=oI H
  go_enter Tryz.func52,Tryz.ntmps52
  try go_wp2_with (((with_reducible refine gW ?_);refine bX 1 33 #[.int .i64 a7,.int .i64 a3,.int .i64 a2,.int .i64 a6,.int .i64 a4,.int .i64 a5] ?_;intro a1 hg w33 hbox hb;have a0:=am hbox;have aD:=gw hg;have aE:=gw hg;replace HB:=hB HB hb;clear hb hbox hg;have bF:=cf6 a0.out))
  replace a0:=am (kW a0.out)
  replace HB:=am (kQ HB.out)
  refine vC (n:=10) (S:=fun w'=>w'.cell? ⟨a1,0,none⟩=some (.int .i64 a7)∧w'.cell? ⟨a1,1,none⟩=some (.int .i64 a3)∧w'.cell? ⟨a1,2,none⟩=some (.int .i64 a2)∧w'.cell? ⟨a1,3,none⟩=some (.int .i64 a6)∧w'.cell? ⟨a1,4,none⟩=some (.int .i64 a4)∧w'.cell? ⟨a1,5,none⟩=some (.int .i64 a5)) (ds:=[]) b2j (by kernel_rfl) rfl rfl (cz6 a0.out) (fun hHeld=>?_);refine uR a9g a8l (fun HT_ HW_=>?_)
  generalize w33.drew=w35 at a0 HB hHeld ⊢
  refine pT (i:=0) (N:=some 31) b2i ?_
  refine pT (i:=5) (N:=some 36) b2h ?_
  refine qY (i:=1) (N:=some 32) (v:=?_) (a':=?_) b2g rfl rfl (pM HT_.out HW_.out (by kernel_rfl)) (fun _ _ _ h=>h) (Or.inl ⟨by rfl,?_⟩) hHeld ?_ ?_
  rotate_left
  ·rintro w' ⟨s0,s1,s2,s3,s4,s5⟩
   go_simp
   with_reducible rfl
  rotate_left
  ·exact yO
  refine qY (i:=6) (N:=some 37) (v:=?_) (a':=?_) b2f rfl rfl (pM HT_.out HW_.out (by kernel_rfl)) (fun _ _ _ h=>h) (Or.inl ⟨by rfl,?_⟩) hHeld ?_ ?_
  rotate_left
  ·rintro w' ⟨s0,s1,s2,s3,s4,s5⟩
   go_simp
   with_reducible rfl
  rotate_left
  ·exact yO
  refine a1t (i:=2) (N:=some 33) b2e rfl rfl (yR HT_.out (by kernel_rfl)) (by decide) (fun K hK=>?_)
  refine a1g Tryz.func68 (by kernel_rfl) rfl #[.int .i64 a2] (by rfl) rfl rfl tm ?_
  with_reducible refine(JNi bO.out).mono ?_
  rintro e w36 ⟨rfl,hb⟩
  refine⟨_,rfl,?_⟩
  replace a0:=gB a0 hb
  replace HB:=hX hb
  clear hb
  refine hK.out _ _ (cz6 a0.out) (fun hHeld=>?_)
  clear hK K
  refine vA (a':=?_) ?_ ?_
  rotate_left
  ·show Act.put _ (some 33) _=_
   exact yO
  refine pT (i:=3) (N:=some 34) b2d ?_
  refine pT (i:=4) (N:=some 35) b2c ?_
  refine a1t (i:=7) (N:=some 38) b2b rfl rfl (yR HT_.out (by kernel_rfl)) (by decide) (fun K hK=>?_)
  refine a1g Tryz.func68 (by kernel_rfl) rfl #[.int .i64 a3] (by rfl) rfl rfl tm ?_
  with_reducible refine(JNi bN.out).mono ?_
  rintro e w37 ⟨rfl,hb⟩
  refine⟨_,rfl,?_⟩
  replace a0:=gB a0 hb
  replace HB:=hX hb
  clear hb
  refine hK.out _ _ (cz6 a0.out) (fun hHeld=>?_)
  clear hK K
  refine vA (a':=?_) ?_ ?_
  rotate_left
  ·show Act.put _ (some 38) _=_
   exact yO
  refine pT (i:=8) (N:=some 39) b2a ?_
  exact b1x
 replace H:=iE H;rcases H with⟨b3,b2,H⟩|⟨b3,b2,H⟩
 ·exact c5d
 replace H:=iE H;rcases H with⟨b1,b0,H⟩|⟨b1,b0,H⟩
 ·replace H:=oA H;obtain⟨a9,bM,H⟩:=H
  replace H:=iP H;obtain⟨aW,H⟩:=H
  have cN:=eq_true aW
  have cM:decide (6+a9.size≤9223372036854775807)=true:=decide_eq_true aW
  try have cL:(9223372036854775807<6+a9.size)=False:=eq_false (Nat.not_lt.2 aW)
  replace H:=iP H;obtain⟨aN,H⟩:=H
  have cK:=eq_true aN
  have cJ:decide (((⟨#[40,97,108,108,32,118]⟩:ByteArray)++a9).size+1≤9223372036854775807)=true:=decide_eq_true aN
  try have cI:(9223372036854775807<((⟨#[40,97,108,108,32,118]⟩:ByteArray)++a9).size+1)=False:=eq_false (Nat.not_lt.2 aN)
  have dH:(9223372036854775807<6+a9.size+1)=False:=eq_false (Nat.not_lt.2 (by have h_:=aN;(repeat rw[ByteArray.size_append]at h_);exact h_))
  replace H:=oA H;obtain⟨aG,bL,H⟩:=H
  replace H:=iP H;obtain⟨aM,H⟩:=H
  have cH:=eq_true aM
  have cG:decide ((((⟨#[40,97,108,108,32,118]⟩:ByteArray)++a9)++(⟨#[58]⟩:ByteArray)).size+aG.size≤9223372036854775807)=true:=decide_eq_true aM
  try have cF:(9223372036854775807<(((⟨#[40,97,108,108,32,118]⟩:ByteArray)++a9)++(⟨#[58]⟩:ByteArray)).size+aG.size)=False:=eq_false (Nat.not_lt.2 aM)
  have dG:(9223372036854775807<6+a9.size+1+aG.size)=False:=eq_false (Nat.not_lt.2 (by have h_:=aM;(repeat rw[ByteArray.size_append]at h_);exact h_))
  obtain rfl:=oI H
  go_enter Tryz.func52,Tryz.ntmps52
  try go_wp2_with (((with_reducible refine gW ?_);refine bX 1 33 #[.int .i64 a7,.int .i64 a3,.int .i64 a2,.int .i64 a6,.int .i64 a4,.int .i64 a5] ?_;intro a1 hg w47 hbox hb;have a0:=am hbox;have aD:=gw hg;have aE:=gw hg;replace HB:=hB HB hb;clear hb hbox hg;have bE:=cf6 a0.out))
  replace a0:=am (kW a0.out)
  replace HB:=am (kQ HB.out)
  refine vC (n:=10) (S:=fun w'=>w'.cell? ⟨a1,0,none⟩=some (.int .i64 a7)∧w'.cell? ⟨a1,1,none⟩=some (.int .i64 a3)∧w'.cell? ⟨a1,2,none⟩=some (.int .i64 a2)∧w'.cell? ⟨a1,3,none⟩=some (.int .i64 a6)∧w'.cell? ⟨a1,4,none⟩=some (.int .i64 a4)∧w'.cell? ⟨a1,5,none⟩=some (.int .i64 a5)) (ds:=[]) b2j (by kernel_rfl) rfl rfl (cz6 a0.out) (fun hHeld=>?_);refine uR a8k a6m (fun HT_ HW_=>?_)
  generalize w47.drew=w49 at a0 HB hHeld ⊢
  refine pT (i:=0) (N:=some 44) b2i ?_
  refine pT (i:=5) (N:=some 49) b2h ?_
  refine qY (i:=1) (N:=some 45) (v:=?_) (a':=?_) b2g rfl rfl (pM HT_.out HW_.out (by kernel_rfl)) (fun _ _ _ h=>h) (Or.inl ⟨by rfl,?_⟩) hHeld ?_ ?_
  rotate_left
  ·rintro w' ⟨s0,s1,s2,s3,s4,s5⟩
   go_simp
   with_reducible rfl
  rotate_left
  ·exact yO
  refine qY (i:=6) (N:=some 50) (v:=?_) (a':=?_) b2f rfl rfl (pM HT_.out HW_.out (by kernel_rfl)) (fun _ _ _ h=>h) (Or.inl ⟨by rfl,?_⟩) hHeld ?_ ?_
  rotate_left
  ·rintro w' ⟨s0,s1,s2,s3,s4,s5⟩
   go_simp
   with_reducible rfl
  rotate_left
  ·exact yO
  refine a1t (i:=2) (N:=some 46) b2e rfl rfl (yR HT_.out (by kernel_rfl)) (by decide) (fun K hK=>?_)
  refine a1g Tryz.func68 (by kernel_rfl) rfl #[.int .i64 a2] (by rfl) rfl rfl tm ?_
  with_reducible refine(JNi bM.out).mono ?_
  rintro e w50 ⟨rfl,hb⟩
  refine⟨_,rfl,?_⟩
  replace a0:=gB a0 hb
  replace HB:=hX hb
  clear hb
  refine hK.out _ _ (cz6 a0.out) (fun hHeld=>?_)
  clear hK K
  refine vA (a':=?_) ?_ ?_
  rotate_left
  ·show Act.put _ (some 46) _=_
   exact yO
  refine pT (i:=3) (N:=some 47) b2d ?_
  refine pT (i:=4) (N:=some 48) b2c ?_
  refine a1t (i:=7) (N:=some 51) b2b rfl rfl (yR HT_.out (by kernel_rfl)) (by decide) (fun K hK=>?_)
  refine a1g Tryz.func68 (by kernel_rfl) rfl #[.int .i64 a4] (by rfl) rfl rfl tm ?_
  with_reducible refine(JNi bL.out).mono ?_
  rintro e w51 ⟨rfl,hb⟩
  refine⟨_,rfl,?_⟩
  replace a0:=gB a0 hb
  replace HB:=hX hb
  clear hb
  refine hK.out _ _ (cz6 a0.out) (fun hHeld=>?_)
  clear hK K
  refine vA (a':=?_) ?_ ?_
  rotate_left
  ·show Act.put _ (some 51) _=_
   exact yO
  refine pT (i:=8) (N:=some 52) b2a ?_
  exact b1x
 replace H:=iE H;rcases H with⟨a_,aZ,H⟩|⟨a_,aZ,H⟩
 rotate_left
 ·replace H:=oA H;obtain⟨aT,bI,H⟩:=H
  replace H:=iP H;obtain⟨aU,H⟩:=H
  have bT:=eq_true aU
  have bS:decide (1+aT.size≤9223372036854775807)=true:=decide_eq_true aU
  try have bR:(9223372036854775807<1+aT.size)=False:=eq_false (Nat.not_lt.2 aU)
  obtain rfl:=oI H
  go_enter Tryz.func52,Tryz.ntmps52
  go_wp2_with (((with_reducible refine gW ?_);first|(refine bX 1 33 #[.int .i64 a7,.int .i64 a3,.int .i64 a2,.int .i64 a6,.int .i64 a4,.int .i64 a5] ?_;intro a1 hg w65 hbox hb;have a0:=am hbox;have aD:=gw hg;have aE:=gw hg;replace HB:=hB HB hb;clear hb hbox hg;have bC:=cf6 a0.out)|(refine gF 69 (some 66) rfl ?_;refine gS Tryz.func69 (KGi bI.out) ?_;rintro w67 hb;replace a0:=gB a0 hb;replace HB:=hX hb;(try clear hb))))
  go_ret
  exact⟨rfl,bW⟩
 replace H:=oA H;obtain⟨a8,bK,H⟩:=H
 replace H:=iP H;obtain⟨aV,H⟩:=H
 have cE:=eq_true aV
 have cC:decide (7+a8.size≤9223372036854775807)=true:=decide_eq_true aV
 try have cB:(9223372036854775807<7+a8.size)=False:=eq_false (Nat.not_lt.2 aV)
 replace H:=iP H;obtain⟨aL,H⟩:=H
 have c1:=eq_true aL
 have c0:decide (((⟨#[40,115,111,109,101,32,118]⟩:ByteArray)++a8).size+1≤9223372036854775807)=true:=decide_eq_true aL
 try have b_:(9223372036854775807<((⟨#[40,115,111,109,101,32,118]⟩:ByteArray)++a8).size+1)=False:=eq_false (Nat.not_lt.2 aL)
 have dC:(9223372036854775807<7+a8.size+1)=False:=eq_false (Nat.not_lt.2 (by have h_:=aL;(repeat rw[ByteArray.size_append]at h_);exact h_))
 replace H:=oA H;obtain⟨aF,bJ,H⟩:=H
 replace H:=iP H;obtain⟨aK,H⟩:=H
 have bZ:=eq_true aK
 have bV:decide ((((⟨#[40,115,111,109,101,32,118]⟩:ByteArray)++a8)++(⟨#[58]⟩:ByteArray)).size+aF.size≤9223372036854775807)=true:=decide_eq_true aK
 try have bU:(9223372036854775807<(((⟨#[40,115,111,109,101,32,118]⟩:ByteArray)++a8)++(⟨#[58]⟩:ByteArray)).size+aF.size)=False:=eq_false (Nat.not_lt.2 aK)
 have dB:(9223372036854775807<7+a8.size+1+aF.size)=False:=eq_false (Nat.not_lt.2 (by have h_:=aK;(repeat rw[ByteArray.size_append]at h_);exact h_))
 obtain rfl:=oI H
 go_enter Tryz.func52,Tryz.ntmps52
 try go_wp2_with (((with_reducible refine gW ?_);refine bX 1 33 #[.int .i64 a7,.int .i64 a3,.int .i64 a2,.int .i64 a6,.int .i64 a4,.int .i64 a5] ?_;intro a1 hg w58 hbox hb;have a0:=am hbox;have aD:=gw hg;have aE:=gw hg;replace HB:=hB HB hb;clear hb hbox hg;have bD:=cf6 a0.out))
 replace a0:=am (kW a0.out)
 replace HB:=am (kQ HB.out)
 refine vC (n:=10) (S:=fun w'=>w'.cell? ⟨a1,0,none⟩=some (.int .i64 a7)∧w'.cell? ⟨a1,1,none⟩=some (.int .i64 a3)∧w'.cell? ⟨a1,2,none⟩=some (.int .i64 a2)∧w'.cell? ⟨a1,3,none⟩=some (.int .i64 a6)∧w'.cell? ⟨a1,4,none⟩=some (.int .i64 a4)∧w'.cell? ⟨a1,5,none⟩=some (.int .i64 a5)) (ds:=[]) b2j (by kernel_rfl) rfl rfl (cz6 a0.out) (fun hHeld=>?_);refine uR a8j a6l (fun HT_ HW_=>?_)
 generalize w58.drew=w60 at a0 HB hHeld ⊢
 refine pT (i:=0) (N:=some 55) b2i ?_
 refine pT (i:=5) (N:=some 60) b2h ?_
 refine qY (i:=1) (N:=some 56) (v:=?_) (a':=?_) b2g rfl rfl (pM HT_.out HW_.out (by kernel_rfl)) (fun _ _ _ h=>h) (Or.inl ⟨by rfl,?_⟩) hHeld ?_ ?_
 rotate_left
 ·rintro w' ⟨s0,s1,s2,s3,s4,s5⟩
  go_simp
  with_reducible rfl
 rotate_left
 ·exact yO
 refine qY (i:=6) (N:=some 61) (v:=?_) (a':=?_) b2f rfl rfl (pM HT_.out HW_.out (by kernel_rfl)) (fun _ _ _ h=>h) (Or.inl ⟨by rfl,?_⟩) hHeld ?_ ?_
 rotate_left
 ·rintro w' ⟨s0,s1,s2,s3,s4,s5⟩
  go_simp
  with_reducible rfl
 rotate_left
 ·exact yO
 refine a1t (i:=2) (N:=some 57) b2e rfl rfl (yR HT_.out (by kernel_rfl)) (by decide) (fun K hK=>?_)
 refine a1g Tryz.func68 (by kernel_rfl) rfl #[.int .i64 a2] (by rfl) rfl rfl tm ?_
 with_reducible refine(JNi bK.out).mono ?_
 rintro e w61 ⟨rfl,hb⟩
 refine⟨_,rfl,?_⟩
 replace a0:=gB a0 hb
 replace HB:=hX hb
 clear hb
 refine hK.out _ _ (cz6 a0.out) (fun hHeld=>?_)
 clear hK K
 refine vA (a':=?_) ?_ ?_
 rotate_left
 ·show Act.put _ (some 57) _=_
  exact yO
 refine pT (i:=3) (N:=some 58) b2d ?_
 refine pT (i:=4) (N:=some 59) b2c ?_
 refine a1t (i:=7) (N:=some 62) b2b rfl rfl (yR HT_.out (by kernel_rfl)) (by decide) (fun K hK=>?_)
 refine a1g Tryz.func68 (by kernel_rfl) rfl #[.int .i64 a4] (by rfl) rfl rfl tm ?_
 with_reducible refine(JNi bJ.out).mono ?_
 rintro e w62 ⟨rfl,hb⟩
 refine⟨_,rfl,?_⟩
 replace a0:=gB a0 hb
 replace HB:=hX hb
 clear hb
 refine hK.out _ _ (cz6 a0.out) (fun hHeld=>?_)
 clear hK K
 refine vA (a':=?_) ?_ ?_
 rotate_left
 ·show Act.put _ (some 62) _=_
  exact yO
 refine pT (i:=8) (N:=some 63) b2a ?_
 exact b1x
end Go.Proofs.YtkpipmojkhikaaaGreat.PAll
