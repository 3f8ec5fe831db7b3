/- Go functions as Lean functions: a call comes to what they say. -/
import Derived.Test.YtkpipmojkhikaaaGreatVValues0
namespace Go.Proofs.YtkpipmojkhikaaaGreat.PAll
open Go.RowKit Go.A_ Go.B_ Go.C_ Go.D_
attribute [local go_sem] rF rC tE tD qK qJ rD rA
set_option linter.unusedVariables false
set_option maxHeartbeats 8000000
set_option maxRecDepth 100000
set_option linter.unusedSimpArgs false
mutual
def tW:Nat→List (S31)→List (S31)→Int→Int→List Int→Int→List Int→Int→Int→Option ((List (S31))×Int×Int×Int)
 | 0,_,_,_,_,_,_,_,_,_=>none
 | k+1,x1,x2,x3,x4,a6,aM,a0,a2,a1=>if aM<(x2.length:Int)then(if 0≤aM then(if((kA x2 aM).f1)=x3 then(if a6.length<17592186044416 then(tW k x1 x2 x3 x4 (a6++[aM]) (wrap64 (aM+1)) a0 a2 a1)else(none))else(tW k x1 x2 x3 x4 a6 (wrap64 (aM+1)) a0 a2 a1))else(none))else(if x4=0 then(qR k x1 x2 x3 x4 a6 true a0 a2 a1)else(if(x1.length:Int)>40 then(qR k x1 x2 x3 x4 a6 true a0 a2 a1)else((rT a0 a2 a1 5).bind fun aU=>(qR k x1 x2 x3 x4 a6 aU.1 a0 aU.2.1 aU.2.2))))
def qR:Nat→List (S31)→List (S31)→Int→Int→List Int→Bool→List Int→Int→Int→Option ((List (S31))×Int×Int×Int)
 | 0,_,_,_,_,_,_,_,_,_=>none
 | k+1,x1,x2,x3,x4,a6,b8,a0,a2,a1=>if b8=true then(if(a6.length:Int)>0 then((rT a0 a2 a1 4).bind fun aT=>(vX k x1 x2 x3 a6 (!aT.1) a0 aT.2.1 aT.2.2))else(vX k x1 x2 x3 a6 false a0 a2 a1))else(if x3=1 then(if(x2.length:Int)>0 then((rT a0 a2 a1 2).bind fun aR=>(uX k x1 x2 x3 x4 aR.1 a0 aR.2.1 aR.2.2))else(uX k x1 x2 x3 x4 false a0 a2 a1))else(uX k x1 x2 x3 x4 false a0 a2 a1))
def vX:Nat→List (S31)→List (S31)→Int→List Int→Bool→List Int→Int→Int→Option ((List (S31))×Int×Int×Int)
 | 0,_,_,_,_,_,_,_,_=>none
 | k+1,x1,x2,x3,a6,b7,a0,a2,a1=>if b7=true then((kV a0 a2 a1 (a6.length:Int)).bind fun a7=>(if 0≤a7.1 then(if a7.1<(a6.length:Int)then(if 0≤(rd a6 a7.1)then(if(rd a6 a7.1)<(x2.length:Int)then((qB x1 ((kA x2 (rd a6 a7.1)).f0) ((kA x2 (rd a6 a7.1)).f1) ((kA x2 (rd a6 a7.1)).f2) ((kA x2 (rd a6 a7.1)).f3) ((kA x2 (rd a6 a7.1)).f4) ((kA x2 (rd a6 a7.1)).f5)).bind fun b1=>(some (b1.1,b1.2,a7.2.1,a7.2.2)))else(none))else(none))else(none))else(none)))else((kY k x3).bind fun b2=>((kV a0 a2 a1 b2).bind fun aS=>((qB x1 0 x3 aS.1 0 0 0).bind fun b0=>(some (b0.1,b0.2,aS.2.1,aS.2.2)))))
def uX:Nat→List (S31)→List (S31)→Int→Int→Bool→List Int→Int→Int→Option ((List (S31))×Int×Int×Int)
 | 0,_,_,_,_,_,_,_,_=>none
 | k+1,x1,x2,x3,x4,b6,a0,a2,a1=>if b6=true then((kV a0 a2 a1 (x2.length:Int)).bind fun a9=>(if 0≤a9.1 then(if a9.1<(x2.length:Int)then((pD k a0 a9.2.1 a9.2.2 x1 x2 ((kA x2 a9.1).f1) (wrap64 (x4-1))).bind fun aL=>((pD k a0 aL.2.2.1 aL.2.2.2 aL.1 x2 ((kA x2 a9.1).f1) (wrap64 (x4-1))).bind fun aK=>((kV a0 aK.2.2.1 aK.2.2.2 3).bind fun aQ=>((qB aK.1 (wrap64 (13+aQ.1)) 1 0 aL.2.1 aK.2.1 0).bind fun a_=>(some (a_.1,a_.2,aQ.2.1,aQ.2.2))))))else(none))else(none)))else((kV a0 a2 a1 8).bind fun a5=>(if a5.1=0 then((pD k a0 a5.2.1 a5.2.2 x1 x2 x3 (wrap64 (x4-1))).bind fun aJ=>((qB aJ.1 2 x3 0 aJ.2.1 0 0).bind fun aZ=>(some (aZ.1,aZ.2,aJ.2.2.1,aJ.2.2.2))))else(if a5.1=1 then(if x3>1 then((kV a0 a5.2.1 a5.2.2 (wrap64 (x3-1))).bind fun aI=>((pD k a0 aI.2.1 aI.2.2 x1 x2 (wrap64 (1+aI.1)) (wrap64 (x4-1))).bind fun aH=>((pD k a0 aH.2.2.1 aH.2.2.2 aH.1 x2 (wrap64 (x3-(wrap64 (1+aI.1)))) (wrap64 (x4-1))).bind fun aG=>((qB aG.1 16 x3 0 aH.2.1 aG.2.1 0).bind fun aY=>(some (aY.1,aY.2,aG.2.2.1,aG.2.2.2))))))else(sM k x1 x2 x3 x4 a0 a5.2.1 a5.2.2))else(if a5.1=2 then(if(x2.length:Int)>0 then((kV a0 a5.2.1 a5.2.2 (x2.length:Int)).bind fun a8=>(if 0≤a8.1 then(if a8.1<(x2.length:Int)then(if((kA x2 a8.1).f1)>x3 then((pD k a0 a8.2.1 a8.2.2 x1 x2 ((kA x2 a8.1).f1) (wrap64 (x4-1))).bind fun aF=>((kV a0 aF.2.2.1 aF.2.2.2 (wrap64 ((wrap64 (((kA x2 a8.1).f1)-x3))+1))).bind fun aO=>((qB aF.1 17 x3 aO.1 aF.2.1 0 0).bind fun aX=>(some (aX.1,aX.2,aO.2.1,aO.2.2)))))else(sM k x1 x2 x3 x4 a0 a8.2.1 a8.2.2))else(none))else(none)))else(sM k x1 x2 x3 x4 a0 a5.2.1 a5.2.2))else(if a5.1=3 then((pD k a0 a5.2.1 a5.2.2 x1 x2 1 (wrap64 (x4-1))).bind fun aE=>((pD k a0 aE.2.2.1 aE.2.2.2 aE.1 x2 x3 (wrap64 (x4-1))).bind fun aD=>((pD k a0 aD.2.2.1 aD.2.2.2 aD.1 x2 x3 (wrap64 (x4-1))).bind fun aC=>((qB aC.1 18 x3 0 aE.2.1 aD.2.1 aC.2.1).bind fun aW=>(some (aW.1,aW.2,aC.2.2.1,aC.2.2.2))))))else(sM k x1 x2 x3 x4 a0 a5.2.1 a5.2.2))))))
def sM:Nat→List (S31)→List (S31)→Int→Int→List Int→Int→Int→Option ((List (S31))×Int×Int×Int)
 | 0,_,_,_,_,_,_,_=>none
 | k+1,x1,x2,x3,x4,a0,a2,a1=>(pD k a0 a2 a1 x1 x2 x3 (wrap64 (x4-1))).bind fun aB=>((pD k a0 aB.2.2.1 aB.2.2.2 aB.1 x2 x3 (wrap64 (x4-1))).bind fun aA=>((kV a0 aA.2.2.1 aA.2.2.2 10).bind fun aN=>((qB aA.1 (wrap64 (3+aN.1)) x3 0 aB.2.1 aA.2.1 0).bind fun aV=>(some (aV.1,aV.2,aN.2.1,aN.2.2)))))
def pD:Nat→List Int→Int→Int→List (S31)→List (S31)→Int→Int→Option ((List (S31))×Int×Int×Int)
 | 0,_,_,_,_,_,_,_=>none
 | k+1,b5,b4,b3,l1,l2,a3,a4=>tW k l1 l2 a3 a4 (([]:List Int)) 0 b5 b4 b3
end
theorem b8j{P:Prop}(h:P:=by
 replace H:=am H
 go_wp2
 go_meet
 case rel=>exact⟨_,l1,bS,bR,H,⟨by have:=a7.out;have:=a8.out;have:=a9.out;omega⟩,⟨sR<|a0.out⟩,⟨kI⟩,⟨sK HK.out⟩,⟨kH⟩⟩):P:=h
theorem c5r{P:Prop}(h:P:=by
 replace H:=am H
 go_wp2
 go_meet
 case rel=>exact⟨_,false,aE,aD,rfl,H,⟨by have:=a7.out;have:=a8.out;omega⟩,⟨sR<|a0.out⟩,⟨kI⟩,⟨sK HK.out⟩,⟨kH⟩⟩):P:=h
theorem c5i{P:Prop}(h:P:=by
 go_wp2
 go_meet
 case rel=>exact⟨_,true,b6,b5,rfl,H,⟨by have:=a7.out;omega⟩,⟨sR<|a0.out⟩,⟨sR<|a2.out⟩,⟨kI⟩,⟨sK HK.out⟩,⟨kH⟩⟩):P:=h
theorem KWi(k:Nat) :∀(g:Nat) (a6:List Int) (b6 b5:Int) (P1_:Nat→Prop) (u9000_:Value) (l1:List (S31)) (A2:Option Addr) (c2:Nat) (l2:List (S31)) (a3 a4:Int) (r1:List (S31)) (r2 r3 r4:Int) (w0 w:World) (hI:IsS93 w0 w g a6 b6 b5) (hB:Below w0.heap.size w0 w) (g0:Kd.R k31 33 w w0.heap.size P1_ u9000_ l1) (hr2 :∀W_,Kept w W_ (fun k_=>(P1_ k_)∨k_=g)→Kd.C k31 W_ A2 l2.length l2) (hc2:l2.length≤c2) (h:pD k a6 b6 b5 l1 l2 a3 a4=some (r1,r2,r3,r4)),
  Calls Tryz.prog 106 #[.pointer (some ⟨g,0,none⟩),u9000_,.slice A2 l2.length c2,.int .i64 a3,.int .i64 a4] w fun e w' =>∃fV:Value,e= .returned (.tuple #[fV,.int .i64 r2])∧Kd.R k31 33 w' w0.heap.size (fun k_=>(P1_ k_∨w.heap.size≤k_)) fV r1∧IsS93 w0 w' g a6 r3 r4∧Below w0.heap.size w0 w'∧Kept w w' (fun k_=>(P1_ k_)∨k_=g):=by
 induction k using Nat.strongRecOn with
 | _ k ih =>
 intro g a6 b6 b5 P1_ u9000_ l1 A2 c2 l2 a3 a4 r1 r2 r3 r4 w0 w hI hB g0 hr2 hc2 h
 cases k with
 | zero=>exact absurd h (by simp[pD])
 | succ k =>
 simp only[pD]at h
 have hu31:=Tryz.underlying33
 have cK:=am (show Kd.R k31 33 w w0.heap.size (fun k_=>(P1_ k_∨w.heap.size≤k_)) u9000_ l1 from Kd.JC g0 (fun k_ hk=>(.inl hk)))
 have aC:=am hr2
 have aQ:=am hc2
 clear hr2 hc2
 have HI0:=am hI
 have HL:=am hB.size
 clear hI
 have HK:=am (Kept.refl w (fun k_=>(P1_ k_)∨k_=g))
 have HW0:=am hB.size
 have HB:=am hB
 clear hB
 have H:=h
 clear h
 unfold pD at H
 generalize c1:([]:List Int)=g4 at H
 have fJ:=am c1.symm;clear c1
 replace H:=am H
 go_enter Tryz.func106,Tryz.ntmps106
 go_wp2_with (((with_reducible refine pU (N:=20) rfl ?_);(try(refine wD (by rfl) ?_;dsimp only));refine Kd.YC (Kd.int .i64) _ 3 ?hg (N:=20) ?hd (xs:=([]:List Int)) (inner:=[]) (ok:=fun _=>True) (okp:=fun _=>True) ?hr ?hp (fun _ hk=>hk) trivial (Below.refl _ _) (Nat.le_refl _) (by simp) ?_;(case hd=>rfl);(case hg=>rfl);(case hr=>(go_simp;done));(case hp=>exact(Reps.none _ _));intro lK w6 dY hb hg_ hnew_;clear hg_ hnew_;(rw[← fJ.out]at dY);have f_:=am (Kd.JK (by exact sR<|cK.out) hb);have fZ:=am (Kd.JF (Kd.YK (M:=fun k_=>(P1_ k_∨w.heap.size≤k_)) dY (by exact HK.out.1) (fun k_ h_=> .inr h_)) (kG (by exact kH)));have fY:=am (IsS93.below (by exact kI) hb);have fX:=am (Kept.below (S:=(fun k_=>(P1_ k_)∨k_=g)) (by exact sK HK.out) hb);have fW:=hX hb (by exact kH);clear cK;clear HI0;clear HK;clear HB;have cK:=f_;have fU:=fZ;have HI0:=fY;have HK:=fX;have HB:=fW;clear f_ fZ fY fX fW;clear hb dY))
 go_loopg [12,13] k (fun kq iM iL w' =>∃(a5:List Int) (aA:Int),iL= .int .i64 aA∧Aside0 (tW kq l1 l2 a3 a4 a5 aA a6 b6 b5=some (r1,r2,r3,r4))∧Aside0 (kq≤k)∧Aside0 (Kd.R k31 33 w' w0.heap.size (fun k_=>(P1_ k_∨w.heap.size≤k_)) u9000_ l1)∧Aside0 (Kd.R (Kd.int .i64) 3 w' w0.heap.size (fun k_=>(P1_ k_∨w.heap.size≤k_)) iM a5)∧Aside0 (IsS93 w0 w' g a6 b6 b5)∧Aside0 (Kept w w' (fun k_=>(P1_ k_)∨k_=g))∧Aside0 (Below w0.heap.size w0 w'))
 case atStart=>exact⟨g4,0,rfl,H,⟨Nat.le_refl _⟩,⟨sR<|cK.out⟩,⟨sR<|Kd.JC fU.out (fun _ hk=>hk.1)⟩,⟨kI⟩,⟨sK HK.out⟩,⟨kH⟩⟩
 case round=>as_aux_lemma =>
  clear H
  obtain⟨a5,aA,rfl,HA,a7,a0,a2,HI0,HK,HB⟩:=hrel
  cases gk with
  | zero=>cases HA.out
  | succ k1 =>
   obtain⟨H⟩:=HA
   simp only[tW]at H
   replace H:=iD H;rcases H with⟨e9,H⟩|⟨e9,H⟩
   ·replace H:=iN H;obtain⟨m6,H⟩:=H
    replace H:=iE H;rcases H with⟨fF,fE,H⟩|⟨fF,fE,H⟩
    ·replace H:=iP H;obtain⟨g1,H⟩:=H
     have fK:=am g1
     clear g1
     generalize c0:a5++[aA]=g3 at H
     have fI:=am c0.symm;clear c0
     replace H:=am H
     obtain⟨hP,hN,fH,rfl,d3,d2,d1,d0,c_,cZ⟩:=ix (pE (Kd.JU aC.out HK.out) aA)
     go_wp2_with (((with_reducible refine kZ (b:= .append) (xs:= #[.tmp 34,.tmp 36]) rfl ?_);(try(refine wD (by rfl) ?_;dsimp only));at_builtin;refine Kd.JQ (Kd.int .i64) (w0:=w0) w0.heap.size rfl (.tmp 34) (.tmp 36) 25 3 (.int .i64 0) 8 rfl Tryz.underlying25 a4h rfl (by decide) oM u12 a5 aA [.int .i64 aA] (fun k_=>(P1_ k_∨w.heap.size≤k_)) (fun _=>False) rfl rfl ?aP (fun _ hk=>hk.elim) ?aF ?aO ?aB ?aS ?aL ?_;(case aP=>exact rfl);(case aB=>exact(by exact kH));(case aF=>exact(fun k_ hk=>(.inr (Nat.le_trans (by exact HK.out.1) hk))));(case aO=>exact(by exact sR<|a2.out));(case aS=>exact(kG (by exact kH)));(case aL=>have:=fK.out;omega);intro lJ w12 ho hb hg hat;rw[← fI.out]at ho;replace a0:=oV a0 a2 hg;replace HI0:=am (IsS93.grown (by exact kI) hg (pA HI0.out a2.out (by decide)));replace HB:=am hb;replace HK:=am (qM (S:=(fun k_=>(P1_ k_)∨k_=g)) hg (by exact sK HK.out) (fun k_ e_=>Or.imp_left Or.inl ((a2.out.1 k_ e_))));have fT:=am ho;clear a2;clear ho hb hg hat))
     go_roundg k1
     case measure=>have:=a7.out;omega
     case rel=>exact⟨g3,(wrap64 (aA+1)),rfl,H,⟨by have:=a7.out;omega⟩,⟨sR<|a0.out⟩,⟨sR<|fT.out⟩,⟨kI⟩,⟨sK HK.out⟩,⟨kH⟩⟩
    replace H:=am H
    obtain⟨hP,hN,fH,rfl,d3,d2,d1,d0,c_,cZ⟩:=ix (pE (Kd.JU aC.out HK.out) aA)
    go_wp2
    go_roundg k1
    case measure=>have:=a7.out;omega
    case rel=>exact⟨a5,(wrap64 (aA+1)),rfl,H,⟨by have:=a7.out;omega⟩,⟨sR<|a0.out⟩,⟨sR<|a2.out⟩,⟨kI⟩,⟨sK HK.out⟩,⟨kH⟩⟩
   have b_:=am H;clear H
   go_upto_region 7 with(fail)
   go_cut [48] (fun iK wc =>∃(kq:Nat) (b9:Bool) (aE:Int) (aD:Int),iK= .bool b9∧Aside0 (qR kq l1 l2 a3 a4 a5 b9 a6 aE aD=some (r1,r2,r3,r4))∧Aside0 (kq≤k1)∧Aside0 (Kd.R k31 33 wc w0.heap.size (fun k_=>(P1_ k_∨w.heap.size≤k_)) u9000_ l1)∧Aside0 (Kd.R (Kd.int .i64) 3 wc w0.heap.size (fun k_=>(P1_ k_∨w.heap.size≤k_)) u12 a5)∧Aside0 (IsS93 w0 wc g a6 aE aD)∧Aside0 (Kept w wc (fun k_=>(P1_ k_)∨k_=g))∧Aside0 (Below w0.heap.size w0 wc))
   case first=>as_aux_lemma =>
    have H:=b_.out
    clear b_
    replace H:=iE H;rcases H with⟨fD,fC,H⟩|⟨fD,fC,H⟩
    ·replace H:=am H
     exact c5i
    by_cases bF:(l1.length:Int)>40
    ·rw[if_pos bF]at H
     have fB:decide (40<(l1.length:Int))=true:=decide_eq_true bF
     have fA:decide (40<l1.length)=true:=decide_eq_true oM
     clear bF
     replace H:=am H
     obtain⟨mD,m5,rfl⟩:=Kd.JB a0.out
     exact c5i
    rw[if_neg bF]at H
    have fB:decide (40<(l1.length:Int))=false:=decide_eq_false bF
    have fA:decide (40<l1.length)=false:=decide_eq_false oM
    clear bF
    replace H:=oA H;obtain⟨⟨hL,hK,hJ⟩,jI,H⟩:=H
    try dsimp only at H
    replace H:=am H
    obtain⟨mC,m4,rfl⟩:=Kd.JB a0.out
    go_wp2_with ((go_at_call 32;refine(JTi w0 _ kI kH jI.out).mono ?_;rintro e w19 ⟨rfl,hi,hb,hk⟩;replace a0:=tI a0 hk;replace a2:=tI a2 hk;replace HK:=kK HK hk;replace HB:=am hb;replace HI0:=am hi;(try clear hb);(try clear hk);(try clear hi)))
    go_meet
    case rel=>exact⟨_,hL,hK,hJ,rfl,H,⟨by have:=a7.out;omega⟩,⟨sR<|a0.out⟩,⟨sR<|a2.out⟩,⟨kI⟩,⟨sK HK.out⟩,⟨kH⟩⟩
   case rest=>as_aux_lemma =>
    clear b_
    clear e9
    obtain⟨kq,b9,aE,aD,rfl,HA,a8,a0,a2,HI0,HK,HB⟩:=hcut
    cases kq with
    | zero=>cases HA.out
    | succ dX =>
     obtain⟨H⟩:=HA
     simp only[qR]at H
     replace H:=iB H;rcases H with⟨rfl,H⟩|⟨rfl,H⟩
     ·have bZ:=am H;clear H
      go_upto_region 8 with(fail)
      go_cut [56] (fun iJ wc =>∃(kq:Nat) (b8:Bool) (b3:Int) (b1:Int),iJ= .bool b8∧Aside0 (vX kq l1 l2 a3 a5 b8 a6 b3 b1=some (r1,r2,r3,r4))∧Aside0 (kq≤dX)∧Aside0 (Kd.R k31 33 wc w0.heap.size (fun k_=>(P1_ k_∨w.heap.size≤k_)) u9000_ l1)∧Aside0 (Kd.R (Kd.int .i64) 3 wc w0.heap.size (fun k_=>(P1_ k_∨w.heap.size≤k_)) u12 a5)∧Aside0 (IsS93 w0 wc g a6 b3 b1)∧Aside0 (Kept w wc (fun k_=>(P1_ k_)∨k_=g))∧Aside0 (Below w0.heap.size w0 wc))
      case first=>as_aux_lemma =>
       have H:=bZ.out
       clear bZ
       by_cases bE:(a5.length:Int)>0
       ·rw[if_pos bE]at H
        have f9:decide (0<(a5.length:Int))=true:=decide_eq_true bE
        have f8:decide (0<a5.length)=true:=decide_eq_true oM
        have hS:0<a5.length:=by omega
        clear bE
        replace H:=oA H;obtain⟨⟨hH,hG,hF⟩,jH,H⟩:=H
        try dsimp only at H
        replace H:=am H
        obtain⟨mB,m3,rfl⟩:=Kd.JB a2.out
        go_wp2_with ((go_at_call 32;refine(JTi w0 _ kI kH jH.out).mono ?_;rintro e w25 ⟨rfl,hi,hb,hk⟩;replace a0:=tI a0 hk;replace a2:=tI a2 hk;replace HK:=kK HK hk;replace HB:=am hb;replace HI0:=am hi;(try clear hb);(try clear hk);(try clear hi)))
        go_meet
        case rel=>exact⟨_,(!hH),hG,hF,rfl,H,⟨by have:=a7.out;have:=a8.out;omega⟩,⟨sR<|a0.out⟩,⟨sR<|a2.out⟩,⟨kI⟩,⟨sK HK.out⟩,⟨kH⟩⟩
       rw[if_neg bE]at H
       have f9:decide (0<(a5.length:Int))=false:=decide_eq_false bE
       have f8:decide (0<a5.length)=false:=decide_eq_false oM
       have hS :¬0<a5.length:=by omega
       clear bE
       replace H:=am H
       obtain⟨m9,m2,rfl⟩:=Kd.JB a2.out
       go_wp2
       go_meet
       case rel=>exact⟨_,false,aE,aD,rfl,H,⟨by have:=a7.out;have:=a8.out;omega⟩,⟨sR<|a0.out⟩,⟨sR<|a2.out⟩,⟨kI⟩,⟨sK HK.out⟩,⟨kH⟩⟩
      case rest=>as_aux_lemma =>
       clear bZ
       obtain⟨kq,b8,b3,b1,rfl,HA,m7,a0,a2,HI0,HK,HB⟩:=hcut
       cases kq with
       | zero=>cases HA.out
       | succ m0 =>
        obtain⟨H⟩:=HA
        simp only[vX]at H
        replace H:=iB H;rcases H with⟨rfl,H⟩|⟨rfl,H⟩
        ·replace H:=oA H;obtain⟨⟨aN,lU,lT⟩,jG,H⟩:=H
         try dsimp only at H
         replace H:=iN H;obtain⟨jQ,H⟩:=H
         replace H:=iN H;obtain⟨jP,H⟩:=H
         replace H:=iN H;obtain⟨jO,H⟩:=H
         replace H:=iN H;obtain⟨jN,H⟩:=H
         replace H:=oA H;obtain⟨⟨hE,hD⟩,jF,H⟩:=H
         try dsimp only at H
         simp only[Option.some.injEq,Prod.mk.injEq]at H
         obtain⟨rfl,rfl,rfl,rfl⟩:=H
         obtain⟨m8,m1,rfl⟩:=Kd.JB a2.out
         go_wp2_with (((with_reducible refine gW ?_);first|(refine gF 33 (some 63) rfl ?_;refine gS Tryz.func33 (JEi _ _ _ _ _ _ _ _ w0 _ kI kH jG.out) ?_;rintro w35 ⟨hi,hb,hk⟩;replace a0:=tI a0 hk;replace a2:=tI a2 hk;replace HK:=kK HK hk;replace HB:=am hb;replace HI0:=am hi;(try clear hb);(try clear hk);(try clear hi);obtain⟨l_,lX,jT,rfl,iH⟩:=ix (Kd.JD (Kd.JA a2.out).2.2 aN);obtain⟨lZ,lW,jS,rfl,iG,iF,iC,iA,i9,i8⟩:=ix (pE (Kd.JU aC.out HK.out) (rd a5 aN));obtain⟨eN,e8,rfl⟩:=Kd.JB a0.out)|(refine gF 105 (some 68) rfl ?_;refine gT Tryz.func105 (JMi (fun k_=>some k_=(.slice eN l1.length e8:Value).ownBlock) (.slice eN l1.length e8) l1 ((kA l2 (rd a5 aN)).f0) ((kA l2 (rd a5 aN)).f1) ((kA l2 (rd a5 aN)).f2) ((kA l2 (rd a5 aN)).f3) ((kA l2 (rd a5 aN)).f4) ((kA l2 (rd a5 aN)).f5) hE hD w0 _ kH (Kd.JL rfl a0.out) jF.out) ?_;rintro lI w37 ⟨a1,hb,hkp⟩;replace a2:=am (Kd.JC (ok':=fun k_=>(P1_ k_∨w.heap.size≤k_)) (Kd.YI ((Kd.YN a2.out (Kd.JG a0.out) (by decide))) hkp (fun k_ hk_ hs_=>(hk_.2) hs_)) (fun k_ hk_=>hk_.1.1));replace HI0:=am (IsS93.kept (by exact kI) hkp (fun hs_=>(fun e_=>(pA HI0.out a0.out (by decide)) e_) hs_));have fS:=mA a1 a0;replace HK:=tB a0 hkp;replace HB:=am hb;clear a0;(try clear hb);(try clear hkp);(try clear a1))))
         go_ret2
         exact⟨_,rfl,sR<|fS.out,kI,kH,sK HK.out⟩
        replace H:=oA H;obtain⟨lS,jE,H⟩:=H
        replace H:=oA H;obtain⟨⟨hC,lR,lQ⟩,jD,H⟩:=H
        try dsimp only at H
        replace H:=oA H;obtain⟨⟨hA,h9⟩,jC,H⟩:=H
        try dsimp only at H
        simp only[Option.some.injEq,Prod.mk.injEq]at H
        obtain⟨rfl,rfl,rfl,rfl⟩:=H
        go_wp2_with (((with_reducible refine gW ?_);first|(refine gD (some 75) Tryz.func46 rfl (JCi jE.out) fun nd=>?_)|(refine gF 33 (some 76) rfl ?_;refine gS Tryz.func33 (JEi _ _ _ _ _ _ _ _ w0 _ kI kH jD.out) ?_;rintro w41 ⟨hi,hb,hk⟩;replace a0:=tI a0 hk;replace a2:=tI a2 hk;replace HK:=kK HK hk;replace HB:=am hb;replace HI0:=am hi;(try clear hb);(try clear hk);(try clear hi);obtain⟨eM,e7,rfl⟩:=Kd.JB a0.out)|(refine gF 105 (some 78) rfl ?_;refine gT Tryz.func105 (JMi (fun k_=>some k_=(.slice eM l1.length e7:Value).ownBlock) (.slice eM l1.length e7) l1 0 a3 hC 0 0 0 hA h9 w0 _ kH (Kd.JL rfl a0.out) jC.out) ?_;rintro lH w43 ⟨a1,hb,hkp⟩;replace a2:=am (Kd.JC (ok':=fun k_=>(P1_ k_∨w.heap.size≤k_)) (Kd.YI ((Kd.YN a2.out (Kd.JG a0.out) (by decide))) hkp (fun k_ hk_ hs_=>(hk_.2) hs_)) (fun k_ hk_=>hk_.1.1));replace HI0:=am (IsS93.kept (by exact kI) hkp (fun hs_=>(fun e_=>(pA HI0.out a0.out (by decide)) e_) hs_));have fR:=mA a1 a0;replace HK:=tB a0 hkp;replace HB:=am hb;clear a0;(try clear hb);(try clear hkp);(try clear a1))))
        go_ret2
        exact⟨_,rfl,sR<|fR.out,kI,kH,sK HK.out⟩
     have bV:=am H;clear H
     go_upto_region 12 with(fail)
     go_cut [91] (fun iI wc =>∃(kq:Nat) (b7:Bool) (b2:Int) (b0:Int),iI= .bool b7∧Aside0 (uX kq l1 l2 a3 a4 b7 a6 b2 b0=some (r1,r2,r3,r4))∧Aside0 (kq≤dX)∧Aside0 (Kd.R k31 33 wc w0.heap.size (fun k_=>(P1_ k_∨w.heap.size≤k_)) u9000_ l1)∧Aside0 (IsS93 w0 wc g a6 b2 b0)∧Aside0 (Kept w wc (fun k_=>(P1_ k_)∨k_=g))∧Aside0 (Below w0.heap.size w0 wc))
     case first=>as_aux_lemma =>
      have H:=bV.out
      clear bV
      replace H:=iE H;rcases H with⟨f7,f6,H⟩|⟨f7,f6,H⟩
      rotate_left
      ·exact c5r
      by_cases bD:(l2.length:Int)>0
      ·rw[if_pos bD]at H
       have eZ:decide (0<(l2.length:Int))=true:=decide_eq_true bD
       have eY:decide (0<l2.length)=true:=decide_eq_true oM
       have hR:0<l2.length:=by omega
       clear bD
       replace H:=oA H;obtain⟨⟨h8,h7,h6⟩,jB,H⟩:=H
       try dsimp only at H
       replace H:=am H
       go_wp2_with ((go_at_call 32;refine(JTi w0 _ kI kH jB.out).mono ?_;rintro e w48 ⟨rfl,hi,hb,hk⟩;replace a0:=tI a0 hk;replace a2:=tI a2 hk;replace HK:=kK HK hk;replace HB:=am hb;replace HI0:=am hi;(try clear hb);(try clear hk);(try clear hi)))
       go_meet
       case rel=>exact⟨_,h8,h7,h6,rfl,H,⟨by have:=a7.out;have:=a8.out;omega⟩,⟨sR<|a0.out⟩,⟨kI⟩,⟨sK HK.out⟩,⟨kH⟩⟩
      rw[if_neg bD]at H
      have eZ:decide (0<(l2.length:Int))=false:=decide_eq_false bD
      have eY:decide (0<l2.length)=false:=decide_eq_false oM
      have hR :¬0<l2.length:=by omega
      clear bD
      exact c5r
     case rest=>as_aux_lemma =>
      clear bV
      obtain⟨kq,b7,b2,b0,rfl,HA,a9,a0,HI0,HK,HB⟩:=hcut
      cases kq with
      | zero=>cases HA.out
      | succ aJ =>
       obtain⟨H⟩:=HA
       simp only[uX]at H
       replace H:=iB H;rcases H with⟨rfl,H⟩|⟨rfl,H⟩
       ·replace H:=oA H;obtain⟨⟨bT,h5,h4⟩,jA,H⟩:=H
        try dsimp only at H
        replace H:=iN H;obtain⟨jM,H⟩:=H
        replace H:=iN H;obtain⟨jL,H⟩:=H
        replace H:=oA H;obtain⟨⟨bQ,dV,dU,dT⟩,j9,H⟩:=H
        try dsimp only at H
        replace H:=oA H;obtain⟨⟨bP,dS,h3,h2⟩,j8,H⟩:=H
        try dsimp only at H
        replace H:=oA H;obtain⟨⟨h1,lP,lO⟩,j7,H⟩:=H
        try dsimp only at H
        replace H:=oA H;obtain⟨⟨h0,g_⟩,i_,H⟩:=H
        try dsimp only at H
        simp only[Option.some.injEq,Prod.mk.injEq]at H
        obtain⟨rfl,rfl,rfl,rfl⟩:=H
        go_wp2_with (((with_reducible refine gW ?_);first|(refine gF 33 (some 96) rfl ?_;refine gS Tryz.func33 (JEi _ _ _ _ _ _ _ _ w0 _ kI kH jA.out) ?_;rintro w57 ⟨hi,hb,hk⟩;replace a0:=tI a0 hk;replace HK:=kK HK hk;replace HB:=am hb;replace HI0:=am hi;(try clear hb);(try clear hk);(try clear hi);obtain⟨lY,lV,jR,rfl,i7,i6,i5,i4,i3,i2⟩:=ix (pE (Kd.JU aC.out HK.out) bT);obtain⟨eL,e6,rfl⟩:=Kd.JB a0.out)|(refine gF 106 (some 107) rfl ?_;refine gT Tryz.func106 (ih aJ (by have:=a7.out;have:=a8.out;have:=a9.out;omega) g a6 h5 h4 (fun k_=>some k_=(.slice eL l1.length e6:Value).ownBlock) (.slice eL l1.length e6) l1 _ _ l2 ((kA l2 bT).f1) (wrap64 (a4-1)) bQ dV dU dT w0 _ kI kH (Kd.JL rfl a0.out) (cA aC a0) aQ.out j9.out) ?_;rintro lG w59 ⟨a1,hi,hb,hkp⟩;replace HI0:=am hi;have a_:=mA a1 a0;replace HK:=tA a0 hkp;replace HB:=am hb;clear a0;(try clear hb);(try clear hkp);(try clear a1);obtain⟨eK,e5,rfl⟩:=Kd.JB a_.out)|(refine gF 106 (some 117) rfl ?_;refine gT Tryz.func106 (ih aJ (by have:=a7.out;have:=a8.out;have:=a9.out;omega) g a6 dU dT (fun k_=>some k_=(.slice eK bQ.length e5:Value).ownBlock) (.slice eK bQ.length e5) bQ _ _ l2 ((kA l2 bT).f1) (wrap64 (a4-1)) bP dS h3 h2 w0 _ kI kH (Kd.JL rfl a_.out) (cA aC a_) aQ.out j8.out) ?_;rintro lF w61 ⟨a1,hi,hb,hkp⟩;replace HI0:=am hi;have aI:=mA a1 a_;replace HK:=tA a_ hkp;replace HB:=am hb;clear a_;(try clear hb);(try clear hkp);(try clear a1))|(refine gF 33 (some 122) rfl ?_;refine gS Tryz.func33 (JEi _ _ _ _ _ _ _ _ w0 _ kI kH j7.out) ?_;rintro w62 ⟨hi,hb,hk⟩;replace aI:=tI aI hk;replace HK:=kK HK hk;replace HB:=am hb;replace HI0:=am hi;(try clear hb);(try clear hk);(try clear hi);obtain⟨eJ,e4,rfl⟩:=Kd.JB aI.out)|(refine gF 105 (some 127) rfl ?_;refine gT Tryz.func105 (JMi (fun k_=>some k_=(.slice eJ bP.length e4:Value).ownBlock) (.slice eJ bP.length e4) bP (wrap64 (13+h1)) 1 0 dV dS 0 h0 g_ w0 _ kH (Kd.JL rfl aI.out) i_.out) ?_;rintro lD w64 ⟨a1,hb,hkp⟩;replace HI0:=am (IsS93.kept (by exact kI) hkp (fun hs_=>(fun e_=>(pA HI0.out aI.out (by decide)) e_) hs_));have fQ:=mA a1 aI;replace HK:=tB aI hkp;replace HB:=am hb;clear aI;(try clear hb);(try clear hkp);(try clear a1))))
        go_ret2
        exact⟨_,rfl,sR<|fQ.out,kI,kH,sK HK.out⟩
       replace H:=oA H;obtain⟨⟨lN,bS,bR⟩,iZ,H⟩:=H
       try dsimp only at H
       have bU:=am H;clear H
       go_upto_block 2 with(((with_reducible refine gW ?_);refine gF 33 (some 131) rfl ?_;refine gS Tryz.func33 (JEi _ _ _ _ _ _ _ _ w0 _ kI kH iZ.out) ?_;rintro w67 ⟨hi,hb,hk⟩;replace a0:=tI a0 hk;replace HK:=kK HK hk;replace HB:=am hb;replace HI0:=am hi;(try clear hi)));clear hb hk
       (try simp only[Act.put,List.setIfInBounds_toArray,List.set_cons_zero,List.set_cons_succ])
       go_cut [1] (fun v1 wc =>∃(kq:Nat) (aR:List (S31)) (aM:Int) (aK:Int),Aside0 (sM kq aR l2 a3 a4 a6 aM aK=some (r1,r2,r3,r4))∧Aside0 (kq≤aJ)∧Aside0 (Kd.R k31 33 wc w0.heap.size (fun k_=>(P1_ k_∨w.heap.size≤k_)) v1 aR)∧Aside0 (IsS93 w0 wc g a6 aM aK)∧Aside0 (Kept w wc (fun k_=>(P1_ k_)∨k_=g))∧Aside0 (Below w0.heap.size w0 wc))
       case first=>as_aux_lemma =>
        have H:=bU.out
        clear bU
        replace H:=iE H;rcases H with⟨eX,eW,H⟩|⟨eX,eW,H⟩
        ·replace H:=oA H;obtain⟨⟨bO,dQ,gZ,gY⟩,iY,H⟩:=H
         try dsimp only at H
         replace H:=oA H;obtain⟨⟨gX,gV⟩,iX,H⟩:=H
         try dsimp only at H
         simp only[Option.some.injEq,Prod.mk.injEq]at H
         obtain⟨rfl,rfl,rfl,rfl⟩:=H
         obtain⟨eI,e3,rfl⟩:=Kd.JB a0.out
         go_wp2_with (((with_reducible refine gW ?_);first|(refine gF 106 (some 141) rfl ?_;refine gT Tryz.func106 (ih aJ (by have:=a7.out;have:=a8.out;have:=a9.out;omega) g a6 bS bR (fun k_=>some k_=(.slice eI l1.length e3:Value).ownBlock) (.slice eI l1.length e3) l1 _ _ l2 a3 (wrap64 (a4-1)) bO dQ gZ gY w0 _ kI kH (Kd.JL rfl a0.out) (cA aC a0) aQ.out iY.out) ?_;rintro lC w72 ⟨a1,hi,hb,hkp⟩;replace HI0:=am hi;have aZ:=mA a1 a0;replace HK:=tA a0 hkp;replace HB:=am hb;clear a0;(try clear hb);(try clear hkp);(try clear a1);obtain⟨eH,e2,rfl⟩:=Kd.JB aZ.out)|(refine gF 105 (some 148) rfl ?_;refine gT Tryz.func105 (JMi (fun k_=>some k_=(.slice eH bO.length e2:Value).ownBlock) (.slice eH bO.length e2) bO 2 a3 0 dQ 0 0 gX gV w0 _ kH (Kd.JL rfl aZ.out) iX.out) ?_;rintro lB w74 ⟨a1,hb,hkp⟩;replace HI0:=am (IsS93.kept (by exact kI) hkp (fun hs_=>(fun e_=>(pA HI0.out aZ.out (by decide)) e_) hs_));have fP:=mA a1 aZ;replace HK:=tB aZ hkp;replace HB:=am hb;clear aZ;(try clear hb);(try clear hkp);(try clear a1))))
         go_ret2
         exact⟨_,rfl,sR<|fP.out,kI,kH,sK HK.out⟩
        replace H:=iE H;rcases H with⟨eV,eU,H⟩|⟨eV,eU,H⟩
        ·by_cases bC:a3>1
         ·rw[if_pos bC]at H
          have eT:decide (1<a3)=true:=decide_eq_true bC
          clear bC
          replace H:=oA H;obtain⟨⟨dP,gU,gR⟩,iW,H⟩:=H
          try dsimp only at H
          replace H:=oA H;obtain⟨⟨bN,dO,dN,dM⟩,iV,H⟩:=H
          try dsimp only at H
          replace H:=oA H;obtain⟨⟨bM,dL,gQ,gP⟩,iU,H⟩:=H
          try dsimp only at H
          replace H:=oA H;obtain⟨⟨gO,gN⟩,iS,H⟩:=H
          try dsimp only at H
          simp only[Option.some.injEq,Prod.mk.injEq]at H
          obtain⟨rfl,rfl,rfl,rfl⟩:=H
          go_wp2_with (((with_reducible refine gW ?_);first|(refine gF 33 (some 158) rfl ?_;refine gS Tryz.func33 (JEi _ _ _ _ _ _ _ _ w0 _ kI kH iW.out) ?_;rintro w81 ⟨hi,hb,hk⟩;replace a0:=tI a0 hk;replace HK:=kK HK hk;replace HB:=am hb;replace HI0:=am hi;(try clear hb);(try clear hk);(try clear hi);obtain⟨eG,e1,rfl⟩:=Kd.JB a0.out)|(refine gF 106 (some 167) rfl ?_;refine gT Tryz.func106 (ih aJ (by have:=a7.out;have:=a8.out;have:=a9.out;omega) g a6 gU gR (fun k_=>some k_=(.slice eG l1.length e1:Value).ownBlock) (.slice eG l1.length e1) l1 _ _ l2 (wrap64 (1+dP)) (wrap64 (a4-1)) bN dO dN dM w0 _ kI kH (Kd.JL rfl a0.out) (cA aC a0) aQ.out iV.out) ?_;rintro lA w83 ⟨a1,hi,hb,hkp⟩;replace HI0:=am hi;have aY:=mA a1 a0;replace HK:=tA a0 hkp;replace HB:=am hb;clear a0;(try clear hb);(try clear hkp);(try clear a1);obtain⟨eF,e0,rfl⟩:=Kd.JB aY.out)|(refine gF 106 (some 179) rfl ?_;refine gT Tryz.func106 (ih aJ (by have:=a7.out;have:=a8.out;have:=a9.out;omega) g a6 dN dM (fun k_=>some k_=(.slice eF bN.length e0:Value).ownBlock) (.slice eF bN.length e0) bN _ _ l2 (wrap64 (a3-(wrap64 (1+dP)))) (wrap64 (a4-1)) bM dL gQ gP w0 _ kI kH (Kd.JL rfl aY.out) (cA aC aY) aQ.out iU.out) ?_;rintro l9 w85 ⟨a1,hi,hb,hkp⟩;replace HI0:=am hi;have aX:=mA a1 aY;replace HK:=tA aY hkp;replace HB:=am hb;clear aY;(try clear hb);(try clear hkp);(try clear a1);obtain⟨eE,d_,rfl⟩:=Kd.JB aX.out)|(refine gF 105 (some 187) rfl ?_;refine gT Tryz.func105 (JMi (fun k_=>some k_=(.slice eE bM.length d_:Value).ownBlock) (.slice eE bM.length d_) bM 16 a3 0 dO dL 0 gO gN w0 _ kH (Kd.JL rfl aX.out) iS.out) ?_;rintro l8 w87 ⟨a1,hb,hkp⟩;replace HI0:=am (IsS93.kept (by exact kI) hkp (fun hs_=>(fun e_=>(pA HI0.out aX.out (by decide)) e_) hs_));have fO:=mA a1 aX;replace HK:=tB aX hkp;replace HB:=am hb;clear aX;(try clear hb);(try clear hkp);(try clear a1))))
          go_ret2
          exact⟨_,rfl,sR<|fO.out,kI,kH,sK HK.out⟩
         rw[if_neg bC]at H
         have eT:decide (1<a3)=false:=decide_eq_false bC
         clear bC
         exact b8j
        replace H:=iE H;rcases H with⟨eS,eR,H⟩|⟨eS,eR,H⟩
        rotate_left
        ·replace H:=iE H;rcases H with⟨eB,eA,H⟩|⟨eB,eA,H⟩
         ·replace H:=oA H;obtain⟨⟨bK,dE,dD,dC⟩,i1,H⟩:=H
          try dsimp only at H
          replace H:=oA H;obtain⟨⟨bJ,dB,dA,d9⟩,i0,H⟩:=H
          try dsimp only at H
          replace H:=oA H;obtain⟨⟨bI,d8,gI,gH⟩,hZ,H⟩:=H
          try dsimp only at H
          replace H:=oA H;obtain⟨⟨gE,gA⟩,hY,H⟩:=H
          try dsimp only at H
          simp only[Option.some.injEq,Prod.mk.injEq]at H
          obtain⟨rfl,rfl,rfl,rfl⟩:=H
          obtain⟨cR,cI,rfl⟩:=Kd.JB a0.out
          go_wp2_with (((with_reducible refine gW ?_);first|(refine gF 106 (some 237) rfl ?_;refine gT Tryz.func106 (ih aJ (by have:=a7.out;have:=a8.out;have:=a9.out;omega) g a6 bS bR (fun k_=>some k_=(.slice cR l1.length cI:Value).ownBlock) (.slice cR l1.length cI) l1 _ _ l2 1 (wrap64 (a4-1)) bK dE dD dC w0 _ kI kH (Kd.JL rfl a0.out) (cA aC a0) aQ.out i1.out) ?_;rintro j_ w110 ⟨a1,hi,hb,hkp⟩;replace HI0:=am hi;have aW:=mA a1 a0;replace HK:=tA a0 hkp;replace HB:=am hb;clear a0;(try clear hb);(try clear hkp);(try clear a1);obtain⟨cQ,cH,rfl⟩:=Kd.JB aW.out)|(refine gF 106 (some 247) rfl ?_;refine gT Tryz.func106 (ih aJ (by have:=a7.out;have:=a8.out;have:=a9.out;omega) g a6 dD dC (fun k_=>some k_=(.slice cQ bK.length cH:Value).ownBlock) (.slice cQ bK.length cH) bK _ _ l2 a3 (wrap64 (a4-1)) bJ dB dA d9 w0 _ kI kH (Kd.JL rfl aW.out) (cA aC aW) aQ.out i0.out) ?_;rintro jZ w112 ⟨a1,hi,hb,hkp⟩;replace HI0:=am hi;have aV:=mA a1 aW;replace HK:=tA aW hkp;replace HB:=am hb;clear aW;(try clear hb);(try clear hkp);(try clear a1);obtain⟨cP,cG,rfl⟩:=Kd.JB aV.out)|(refine gF 106 (some 257) rfl ?_;refine gT Tryz.func106 (ih aJ (by have:=a7.out;have:=a8.out;have:=a9.out;omega) g a6 dA d9 (fun k_=>some k_=(.slice cP bJ.length cG:Value).ownBlock) (.slice cP bJ.length cG) bJ _ _ l2 a3 (wrap64 (a4-1)) bI d8 gI gH w0 _ kI kH (Kd.JL rfl aV.out) (cA aC aV) aQ.out hZ.out) ?_;rintro jY w114 ⟨a1,hi,hb,hkp⟩;replace HI0:=am hi;have aU:=mA a1 aV;replace HK:=tA aV hkp;replace HB:=am hb;clear aV;(try clear hb);(try clear hkp);(try clear a1);obtain⟨cO,cF,rfl⟩:=Kd.JB aU.out)|(refine gF 105 (some 266) rfl ?_;refine gT Tryz.func105 (JMi (fun k_=>some k_=(.slice cO bI.length cF:Value).ownBlock) (.slice cO bI.length cF) bI 18 a3 0 dE dB d8 gE gA w0 _ kH (Kd.JL rfl aU.out) hY.out) ?_;rintro jX w116 ⟨a1,hb,hkp⟩;replace HI0:=am (IsS93.kept (by exact kI) hkp (fun hs_=>(fun e_=>(pA HI0.out aU.out (by decide)) e_) hs_));have fM:=mA a1 aU;replace HK:=tB aU hkp;replace HB:=am hb;clear aU;(try clear hb);(try clear hkp);(try clear a1))))
          go_ret2
          exact⟨_,rfl,sR<|fM.out,kI,kH,sK HK.out⟩
         exact b8j
        by_cases bB:(l2.length:Int)>0
        rotate_left
        ·rw[if_neg bB]at H
         have eQ:decide (0<(l2.length:Int))=false:=decide_eq_false bB
         have eP:decide (0<l2.length)=false:=decide_eq_false oM
         have hQ :¬0<l2.length:=by omega
         clear bB
         exact b8j
        rw[if_pos bB]at H
        have eQ:decide (0<(l2.length:Int))=true:=decide_eq_true bB
        have eP:decide (0<l2.length)=true:=decide_eq_true oM
        have hQ:0<l2.length:=by omega
        clear bB
        replace H:=oA H;obtain⟨⟨b4,dK,dJ⟩,g2,H⟩:=H
        try dsimp only at H
        replace H:=iN H;obtain⟨jK,H⟩:=H
        replace H:=iN H;obtain⟨jJ,H⟩:=H
        by_cases bA:((kA l2 b4).f1)>a3
        ·rw[if_pos bA]at H
         have eO:decide (a3<((kA l2 b4).f1))=true:=decide_eq_true bA
         clear bA
         replace H:=oA H;obtain⟨⟨bL,dI,dH,dG⟩,iR,H⟩:=H
         try dsimp only at H
         replace H:=oA H;obtain⟨⟨dF,gM,gL⟩,iQ,H⟩:=H
         try dsimp only at H
         replace H:=oA H;obtain⟨⟨gK,gJ⟩,iO,H⟩:=H
         try dsimp only at H
         simp only[Option.some.injEq,Prod.mk.injEq]at H
         obtain⟨rfl,rfl,rfl,rfl⟩:=H
         go_wp2_with (((with_reducible refine gW ?_);first|(refine gF 33 (some 199) rfl ?_;refine gS Tryz.func33 (JEi _ _ _ _ _ _ _ _ w0 _ kI kH g2.out) ?_;rintro w97 ⟨hi,hb,hk⟩;replace a0:=tI a0 hk;replace HK:=kK HK hk;replace HB:=am hb;replace HI0:=am hi;(try clear hb);(try clear hk);(try clear hi);obtain⟨hO,hM,fG,rfl,cY,cX,cW,cV,cU,cT⟩:=ix (pE (Kd.JU aC.out HK.out) b4);obtain⟨eD,dZ,rfl⟩:=Kd.JB a0.out)|(refine gF 106 (some 213) rfl ?_;refine gT Tryz.func106 (ih aJ (by have:=a7.out;have:=a8.out;have:=a9.out;omega) g a6 dK dJ (fun k_=>some k_=(.slice eD l1.length dZ:Value).ownBlock) (.slice eD l1.length dZ) l1 _ _ l2 ((kA l2 b4).f1) (wrap64 (a4-1)) bL dI dH dG w0 _ kI kH (Kd.JL rfl a0.out) (cA aC a0) aQ.out iR.out) ?_;rintro l7 w99 ⟨a1,hi,hb,hkp⟩;replace HI0:=am hi;have aH:=mA a1 a0;replace HK:=tA a0 hkp;replace HB:=am hb;clear a0;(try clear hb);(try clear hkp);(try clear a1))|(refine gF 33 (some 223) rfl ?_;refine gS Tryz.func33 (JEi g a6 dH dG (wrap64 ((wrap64 (((kA l2 b4).f1)-a3))+1)) dF gM gL w0 _ kI kH iQ.out) ?_;rintro w100 ⟨hi,hb,hk⟩;replace aH:=tI aH hk;replace HK:=kK HK hk;replace HB:=am hb;replace HI0:=am hi;(try clear hb);(try clear hk);(try clear hi);obtain⟨cS,cJ,rfl⟩:=Kd.JB aH.out)|(refine gF 105 (some 226) rfl ?_;refine gT Tryz.func105 (JMi (fun k_=>some k_=(.slice cS bL.length cJ:Value).ownBlock) (.slice cS bL.length cJ) bL 17 a3 dF dI 0 0 gK gJ w0 _ kH (Kd.JL rfl aH.out) iO.out) ?_;rintro l6 w102 ⟨a1,hb,hkp⟩;replace HI0:=am (IsS93.kept (by exact kI) hkp (fun hs_=>(fun e_=>(pA HI0.out aH.out (by decide)) e_) hs_));have fN:=mA a1 aH;replace HK:=tB aH hkp;replace HB:=am hb;clear aH;(try clear hb);(try clear hkp);(try clear a1))))
         go_ret2
         exact⟨_,rfl,sR<|fN.out,kI,kH,sK HK.out⟩
        rw[if_neg bA]at H
        have eO:decide (a3<((kA l2 b4).f1))=false:=decide_eq_false bA
        clear bA
        replace H:=am H
        go_wp2_with (((with_reducible refine gW ?_);refine gF 33 (some 199) rfl ?_;refine gS Tryz.func33 (JEi _ _ _ _ _ _ _ _ w0 _ kI kH g2.out) ?_;rintro w103 ⟨hi,hb,hk⟩;replace a0:=tI a0 hk;replace HK:=kK HK hk;replace HB:=am hb;replace HI0:=am hi;(try clear hb);(try clear hk);(try clear hi);obtain⟨hO,hM,fG,rfl,cY,cX,cW,cV,cU,cT⟩:=ix (pE (Kd.JU aC.out HK.out) b4)))
        go_meet
        case rel=>exact⟨_,l1,dK,dJ,H,⟨by have:=a7.out;have:=a8.out;have:=a9.out;omega⟩,⟨sR<|a0.out⟩,⟨kI⟩,⟨sK HK.out⟩,⟨kH⟩⟩
       case rest=>as_aux_lemma =>
        clear bU
        obtain⟨kq,aR,aM,aK,HA,eC,a0,HI0,HK,HB⟩:=hcut
        cases kq with
        | zero=>cases HA.out
        | succ dW =>
         obtain⟨H⟩:=HA
         simp only[sM]at H
         replace H:=oA H;obtain⟨⟨bH,d7,d6,d5⟩,hW,H⟩:=H
         try dsimp only at H
         replace H:=oA H;obtain⟨⟨bG,d4,g9,g8⟩,hV,H⟩:=H
         try dsimp only at H
         replace H:=oA H;obtain⟨⟨g7,lM,lL⟩,hU,H⟩:=H
         try dsimp only at H
         replace H:=oA H;obtain⟨⟨g6,g5⟩,hT,H⟩:=H
         try dsimp only at H
         simp only[Option.some.injEq,Prod.mk.injEq]at H
         obtain⟨rfl,rfl,rfl,rfl⟩:=H
         obtain⟨cN,cE,rfl⟩:=Kd.JB a0.out
         go_wp2_with (((with_reducible refine gW ?_);first|(refine gF 106 (some 276) rfl ?_;refine gT Tryz.func106 (ih dW (by have:=a7.out;have:=a8.out;have:=a9.out;have:=eC.out;omega) g a6 aM aK (fun k_=>some k_=(.slice cN aR.length cE:Value).ownBlock) (.slice cN aR.length cE) aR _ _ l2 a3 (wrap64 (a4-1)) bH d7 d6 d5 w0 _ kI kH (Kd.JL rfl a0.out) (cA aC a0) aQ.out hW.out) ?_;rintro jW w122 ⟨a1,hi,hb,hkp⟩;replace HI0:=am hi;have aT:=mA a1 a0;replace HK:=tA a0 hkp;replace HB:=am hb;clear a0;(try clear hb);(try clear hkp);(try clear a1);obtain⟨cM,cC,rfl⟩:=Kd.JB aT.out)|(refine gF 106 (some 286) rfl ?_;refine gT Tryz.func106 (ih dW (by have:=a7.out;have:=a8.out;have:=a9.out;have:=eC.out;omega) g a6 d6 d5 (fun k_=>some k_=(.slice cM bH.length cC:Value).ownBlock) (.slice cM bH.length cC) bH _ _ l2 a3 (wrap64 (a4-1)) bG d4 g9 g8 w0 _ kI kH (Kd.JL rfl aT.out) (cA aC aT) aQ.out hV.out) ?_;rintro jV w124 ⟨a1,hi,hb,hkp⟩;replace HI0:=am hi;have aG:=mA a1 aT;replace HK:=tA aT hkp;replace HB:=am hb;clear aT;(try clear hb);(try clear hkp);(try clear a1))|(refine gF 33 (some 291) rfl ?_;refine gS Tryz.func33 (JEi _ _ _ _ _ _ _ _ w0 _ kI kH hU.out) ?_;rintro w125 ⟨hi,hb,hk⟩;replace aG:=tI aG hk;replace HK:=kK HK hk;replace HB:=am hb;replace HI0:=am hi;(try clear hb);(try clear hk);(try clear hi);obtain⟨cL,cB,rfl⟩:=Kd.JB aG.out)|(refine gF 105 (some 297) rfl ?_;refine gT Tryz.func105 (JMi (fun k_=>some k_=(.slice cL bG.length cB:Value).ownBlock) (.slice cL bG.length cB) bG (wrap64 (3+g7)) a3 0 d7 d4 0 g6 g5 w0 _ kH (Kd.JL rfl aG.out) hT.out) ?_;rintro jU w127 ⟨a1,hb,hkp⟩;replace HI0:=am (IsS93.kept (by exact kI) hkp (fun hs_=>(fun e_=>(pA HI0.out aG.out (by decide)) e_) hs_));have fL:=mA a1 aG;replace HK:=tB aG hkp;replace HB:=am hb;clear aG;(try clear hb);(try clear hkp);(try clear a1))))
         go_ret2
         exact⟨_,rfl,sR<|fL.out,kI,kH,sK HK.out⟩
end Go.Proofs.YtkpipmojkhikaaaGreat.PAll
