/- Go functions as Lean functions: a call comes to what they say. -/
import Derived.Test.YtkpipmojkhikaaaGreatVValues2
namespace Go.Proofs.YtkpipmojkhikaaaGreat.PAll
open Go.RowKit Go.A_ Go.B_ Go.C_ Go.D_
attribute [local go_sem] rF rC tE tD qK qJ rD rA
set_option linter.unusedVariables false
set_option maxHeartbeats 8000000
set_option maxRecDepth 100000
set_option linter.unusedSimpArgs false
def uM:Nat→List (S31)→Int→Option (Bool)
 | 0,_,_=>none
 | k+1,x0,x3=>if x3<(x0.length:Int)then((yH k x0 x3).bind fun a0=>(if a0=true then(uM k x0 (wrap64 (x3+1)))else(some false)))else(some true)
def tN(k:Nat)(l0:List (S31)):Option (Bool):=(pX (l0.length:Int) 1 80).bind fun a0=>(if a0=true then(uM k l0 0)else(some false))
theorem JPi{k:Nat}{A0:Option Addr}{c0:Nat}{l0:List (S31)}{r:Bool}{w:World}(hr0:Kd.C k31 w A0 l0.length l0)(hc0:l0.length≤c0)(h:tN k l0=some r) :
  Calls Tryz.prog 19 #[.slice A0 l0.length c0] w fun e w'=>e= .returned (.bool r)∧Below w.heap.size w w':=by
 have a1:=am hr0
 have a3:=am hc0
 clear hr0 hc0
 have HB:=am (Below.refl w.heap.size w)
 have H:=h
 clear h
 unfold tN at H
 replace H:=oA H;obtain⟨a6,A2,H⟩:=H
 replace H:=iB H;rcases H with⟨rfl,H⟩|⟨rfl,H⟩
 rotate_left
 ·obtain rfl:=oI H
  go_enter Tryz.func19,Tryz.ntmps19
  go_wp2_with (((with_reducible refine gW ?_);refine gD (some 6) Tryz.func42 rfl (JAi A2.out) fun nd=>?_))
  go_ret
  exact⟨rfl,sW HB.out⟩
 replace H:=am H
 go_enter Tryz.func19,Tryz.ntmps19
 go_wp2_with (((with_reducible refine gW ?_);refine gD (some 6) Tryz.func42 rfl (JAi A2.out) fun nd=>?_))
 go_loopg [3] k (fun kq v3 w' =>∃(a0:Int),v3= .int .i64 a0∧Aside0 (uM kq l0 a0=some r)∧Aside0 (kq≤k)∧Aside0 (Below w.heap.size w w'))
 case atStart=>exact⟨0,rfl,H,⟨Nat.le_refl _⟩,⟨sW HB.out⟩⟩
 clear H
 obtain⟨a0,rfl,HA,a2,HB⟩:=hrel
 cases gk with
 | zero=>cases HA.out
 | succ k1 =>
  obtain⟨H⟩:=HA
  simp only[uM]at H
  replace H:=iD H;rcases H with⟨a4,H⟩|⟨a4,H⟩
  ·replace H:=oA H;obtain⟨a5,A5,H⟩:=H
   replace H:=iB H;rcases H with⟨rfl,H⟩|⟨rfl,H⟩
   ·replace H:=am H
    go_wp2_with (((with_reducible refine gW ?_);refine gF 43 (some 16) rfl ?_;refine gS Tryz.func43 (KOi (sC (Kd.JE a1.out HB.out)) a3.out A5.out) ?_;rintro w7 hb;replace HB:=hB HB hb;(try clear hb)))
    go_roundg k1
    case measure=>have:=a2.out;omega
    case rel=>exact⟨(wrap64 (a0+1)),rfl,H,⟨by have:=a2.out;omega⟩,⟨sW HB.out⟩⟩
   obtain rfl:=oI H
   go_wp2_with (((with_reducible refine gW ?_);refine gF 43 (some 16) rfl ?_;refine gS Tryz.func43 (KOi (sC (Kd.JE a1.out HB.out)) a3.out A5.out) ?_;rintro w8 hb;replace HB:=hB HB hb;(try clear hb)))
   go_ret
   exact⟨rfl,sW HB.out⟩
  obtain rfl:=oI H
  go_wp2
  go_ret
  exact⟨rfl,sW HB.out⟩
mutual
def tX:Nat→List (S31)→List Bool→Int→Option (List Bool)
 | 0,_,_,_=>none
 | k+1,x0,x3,x4=>if x4<(x0.length:Int)then(if x3.length<140737488355328 then(tX k x0 (x3++[(x4==(wrap64 ((x0.length:Int)-1)))]) (wrap64 (x4+1)))else(none))else(rJ k x0 x3 (wrap64 ((x0.length:Int)-1)))
def rJ:Nat→List (S31)→List Bool→Int→Option (List Bool)
 | 0,_,_,_=>none
 | k+1,x0,x3,x5=>if x5≥0 then(if 0≤x5 then(if x5<(x0.length:Int)then((sZ k ((kA x0 x5).f0) ((kA x0 x5).f1) ((kA x0 x5).f2) ((kA x0 x5).f3) ((kA x0 x5).f4) ((kA x0 x5).f5)).bind fun a0=>(sU k x0 x3 x5 a0 0))else(none))else(none))else(some x3)
def sU:Nat→List (S31)→List Bool→Int→List Int→Int→Option (List Bool)
 | 0,_,_,_,_,_=>none
 | k+1,x0,x3,x5,x6,x7=>if x7<(x6.length:Int)then(if 0≤x5 then(if x5<(x3.length:Int)then(if wH false x3 x5=true then(if 0≤x7 then(if 0≤(rd x6 x7)then(if(rd x6 x7)<(x3.length:Int)then(sU k x0 (x3.set ((rd x6 x7):Int).toNat true) x5 x6 (wrap64 (x7+1)))else(none))else(none))else(none))else(rJ k x0 x3 (wrap64 (x5-1))))else(none))else(none))else(rJ k x0 x3 (wrap64 (x5-1)))
end
def vU(k:Nat)(l0:List (S31)):Option (List Bool):=tX k l0 (([]:List Bool)) 0
theorem c6d{P:Prop}(h:P:=by
 go_wp2
 go_roundg k3
 case measure=>have:=aC.out;have:=aQ.out;have:=aN.out;omega
 case rel=>exact⟨a3,(wrap64 (a1-1)),rfl,H,⟨by have:=aC.out;have:=aQ.out;have:=aN.out;omega⟩,⟨sR<|a0.out⟩,⟨sW HB.out⟩⟩):P:=h
theorem KYi{k:Nat}{A0:Option Addr}{c0:Nat}{l0:List (S31)}{r:List Bool}{w:World}(hr0:Kd.C k31 w A0 l0.length l0)(hc0:l0.length≤c0)(h:vU k l0=some r) :
  Calls Tryz.prog 44 #[.slice A0 l0.length c0] w fun e w' =>∃bD:Value,e= .returned (bD)∧Kd.R Kd.bool 4 w' w.heap.size (fun _=>True) bD r∧Below w.heap.size w w':=by
 have hu31:=Tryz.underlying33
 have bR:=am hr0
 have cS:=am hc0
 clear hr0 hc0
 have HB:=am (Below.refl w.heap.size w)
 have H:=h
 clear h
 unfold vU at H
 generalize aK:([]:List Bool)=bG at H
 have b9:=am aK.symm;clear aK
 replace H:=am H
 go_enter Tryz.func44,Tryz.ntmps44
 go_wp2_with (((with_reducible refine pU (N:=8) rfl ?_);refine Kd.YC Kd.bool _ 4 ?hg (N:=8) ?hd (xs:=([]:List Bool)) (inner:=[]) (ok:=fun _=>True) (okp:=fun _=>True) ?hr ?hp (fun _ hk=>hk) trivial (Below.refl _ _) (Nat.le_refl _) (by simp) ?_;(case hd=>rfl);(case hg=>rfl);(case hr=>(go_simp;done));(case hp=>exact(Reps.none _ _));intro cE w2 b0 hb hg_ hnew_;clear hg_ hnew_;(rw[← b9.out]at b0);have bC:=rL b0 HB;replace HB:=hB HB hb;clear hb b0))
 go_loopg [3,4] k (fun kq v3 v4 w' =>∃(aA:List Bool) (a6:Int),v4= .int .i64 a6∧Aside0 (tX kq l0 aA a6=some r)∧Aside0 (kq≤k)∧Aside0 (Kd.R Kd.bool 4 w' w.heap.size (fun _=>True) v3 aA)∧Aside0 (Below w.heap.size w w'))
 case atStart=>exact⟨bG,0,rfl,H,⟨Nat.le_refl _⟩,⟨sR<|bC.out⟩,⟨sW HB.out⟩⟩
 clear H
 obtain⟨aA,a6,rfl,HA,aC,a0,HB⟩:=hrel
 cases gk with
 | zero=>cases HA.out
 | succ k1 =>
  obtain⟨H⟩:=HA
  simp only[tX]at H
  replace H:=iD H;rcases H with⟨b4,H⟩|⟨b4,H⟩
  ·replace H:=iP H;obtain⟨c5,H⟩:=H
   have bN:=am c5
   clear c5
   generalize aJ:aA++[(a6==(wrap64 ((l0.length:Int)-1)))]=bF at H
   have b8:=am aJ.symm;clear aJ
   replace H:=am H
   go_wp2_with (((with_reducible refine kZ (b:= .append) (xs:= #[.tmp 15,.tmp 21]) rfl ?_);at_builtin;refine Kd.JQ Kd.bool (w0:=w) w.heap.size rfl (.tmp 15) (.tmp 21) 50 4 (.bool false) 1 rfl Tryz.underlying50 b1g rfl (by decide) oM u3 aA (a6==(wrap64 ((l0.length:Int)-1))) [.bool (a6==(wrap64 ((l0.length:Int)-1)))] (fun _=>True) (fun _=>False) rfl rfl ?aP (fun _ hk=>hk.elim) ?aF ?aO ?aB ?aS ?aL ?_;(case aP=>exact rfl);(case aB=>exact(by exact sW HB.out));(case aF=>exact(fun _ _=>trivial));(case aO=>exact(by exact sR<|a0.out));(case aS=>exact(kG (by exact sW HB.out)));(case aL=>have:=bN.out;omega);intro cC w6 ho hb hg hat;rw[← b8.out]at ho;replace HB:=am hb;have bB:=am ho;clear a0;clear ho hb hg hat))
   go_roundg k1
   case measure=>have:=aC.out;omega
   case rel=>exact⟨bF,(wrap64 (a6+1)),rfl,H,⟨by have:=aC.out;omega⟩,⟨sR<|bB.out⟩,⟨sW HB.out⟩⟩
  replace H:=am H
  go_wp2
  go_loopg [5] k1 (fun kq v5 w' =>∃(aD:List Bool) (a1:Int),v5= .int .i64 a1∧Aside0 (rJ kq l0 aD a1=some r)∧Aside0 (kq≤k1)∧Aside0 (Kd.R Kd.bool 4 w' w.heap.size (fun _=>True) u3 aD)∧Aside0 (Below w.heap.size w w'))
  case atStart=>exact⟨aA,(wrap64 ((l0.length:Int)-1)),rfl,H,⟨Nat.le_refl _⟩,⟨sR<|a0.out⟩,⟨sW HB.out⟩⟩
  clear H
  clear b4
  obtain⟨aD,a1,rfl,HA,aQ,a0,HB⟩:=hrel
  cases gk with
  | zero=>cases HA.out
  | succ k2 =>
   obtain⟨H⟩:=HA
   simp only[rJ]at H
   by_cases c7:a1≥0
   rotate_left
   ·rw[if_neg c7]at H
    have b3:decide (0≤a1)=false:=decide_eq_false c7
    clear c7
    obtain rfl:=oI H
    go_wp2
    go_ret
    exact⟨_,rfl,sR<|a0.out,sW HB.out⟩
   rw[if_pos c7]at H
   have b3:decide (0≤a1)=true:=decide_eq_true c7
   clear c7
   replace H:=iN H;obtain⟨bM,H⟩:=H
   replace H:=iN H;obtain⟨bL,H⟩:=H
   replace H:=oA H;obtain⟨a4,bS,H⟩:=H
   replace H:=am H
   obtain⟨bJ,bI,cB,rfl,aX,aW,aV,aU,aT,aR⟩:=ix (pE (Kd.JE bR.out HB.out) a1)
   go_wp2_with (((with_reducible refine gW ?_);refine gF 45 (some 34) rfl ?_;refine gT Tryz.func45 (JRi bS.out) ?_;rintro bH w11 ⟨bE,hb⟩;replace a0:=rB a0 hb;have bA:=rL bE HB;replace HB:=hB HB hb;(try clear hb);(try clear bE)))
   go_loopg [7] k2 (fun kq v7 w' =>∃(a3:List Bool) (a2:Int),v7= .int .i64 a2∧Aside0 (sU kq l0 a3 a1 a4 a2=some r)∧Aside0 (kq≤k2)∧Aside0 (Kd.R Kd.bool 4 w' w.heap.size (fun _=>True) u3 a3)∧Aside0 (Kd.R (Kd.int .i64) 3 w' w.heap.size (fun _=>True) bH a4)∧Aside0 (Below w.heap.size w w'))
   case atStart=>exact⟨aD,0,rfl,H,⟨Nat.le_refl _⟩,⟨sR<|a0.out⟩,⟨sR<|bA.out⟩,⟨sW HB.out⟩⟩
   clear H
   clear b3 bM bL aX aW aV aU aT aR bJ bI
   obtain⟨a3,a2,rfl,HA,aN,a0,a9,HB⟩:=hrel
   cases gk with
   | zero=>cases HA.out
   | succ k3 =>
    obtain⟨H⟩:=HA
    simp only[sU]at H
    replace H:=iD H;rcases H with⟨b5,H⟩|⟨b5,H⟩
    rotate_left
    ·replace H:=am H
     obtain⟨cN,cH,rfl⟩:=Kd.JB a9.out
     exact c6d
    replace H:=iN H;obtain⟨b_,H⟩:=H
    replace H:=iN H;obtain⟨bZ,H⟩:=H
    generalize hbq15:wH false a3 a1=cM at H
    have aM:=am hbq15.symm;clear hbq15
    replace H:=iB H;rcases H with⟨rfl,H⟩|⟨rfl,H⟩
    rotate_left
    ·replace H:=am H
     obtain⟨cP,cJ,rfl⟩:=Kd.JB a9.out
     obtain⟨cO,cI,rfl⟩:=Kd.JB a0.out
     have a8:0≤(a1:Int):=oD (by assumption)
     have a7:a1<(a3.length:Int):=oD (by assumption)
     obtain⟨b6,aG,a5⟩:=Kd.JJ (Kd.JA a0.out).2.2 a1 a8 a7
     (try rw[← aM.out]at a5)
     cases aG
     replace a8:=eq_true a8
     replace a7:=eq_true a7
     exact c6d
    replace H:=iN H;obtain⟨bV,H⟩:=H
    replace H:=iN H;obtain⟨bU,H⟩:=H
    replace H:=iN H;obtain⟨bT,H⟩:=H
    generalize aI:a3.set ((rd a4 a2):Int).toNat true=aY at H
    have b7:=am aI.symm;clear aI
    replace H:=am H
    obtain⟨cR,cK,rfl⟩:=Kd.JB a9.out
    obtain⟨cQ,b2,rfl⟩:=Kd.JB a0.out
    have a8:0≤(a1:Int):=oD (by assumption)
    have a7:a1<(a3.length:Int):=oD (by assumption)
    obtain⟨b6,aG,a5⟩:=Kd.JJ (Kd.JA a0.out).2.2 a1 a8 a7
    (try rw[← aM.out]at a5)
    cases aG
    replace a8:=eq_true a8
    replace a7:=eq_true a7
    obtain⟨cG,cF,c1,rfl,bP⟩:=ix (Kd.JD (Kd.JA a9.out).2.2 a2)
    have a_:0≤((rd a4 a2):Int):=oD (by assumption)
    have aZ:((rd a4 a2):Int)<((a3.length:Int):Int):=oD (by assumption)
    obtain⟨aE,cL,bK,b1,gl20,cl20,HG20⟩:=Kd.JZ a0.out oM
    (cases bK)
    have bO:=am b1
    have GG20:=am HG20
    clear b1 gl20 HG20
    (simp only[pW]at a5)
    obtain⟨bQ,hf20_0⟩:=Kd.JH false a0.out ((rd a4 a2):Int) a_ aZ
    replace a_:=eq_true a_
    replace aZ:=eq_true aZ
    have aH:=Kd.JO a0.out ((rd a4 a2):Int) true
    go_wp2_with (((with_reducible refine pY (t:=4) (p:=52) rfl ?_);refine pH (t:=4) (p:=52) (v:=?vo_w24) (w1:=(wr.setCell ⟨aE,((rd a4 a2):Int).toNat,none⟩ (.bool true))) ?hg ?ho ?hn ?hr ?_;(case ho=>rfl);(case hg=>rfl);(case hn=>rfl);(case hr=>(go_simp;done));intro w24 hw;have hg:wr.grownBy w24 (some aE):=(by rw[hw];exact aH.2);have hp_:Kd.R Kd.bool 4 w24 w.heap.size (fun _=>True) (.slice (some ⟨aE,0,none⟩) a3.length b2) aY:=(by rw[hw,b7.out];exact aH.1);clear aH;replace a9:=am (Kd.JI (v:=(.slice (some ⟨aE,0,none⟩) a3.length b2)) (by exact sR<|a9.out) (Kd.JG a0.out) (by decide) hg);replace a0:=am hp_;replace HB:=am ((by rw[hw];exact kR (HB.out) bO.out:Below w.heap.size w w24));clear hg hw hp_))
    go_roundg k3
    case measure=>have:=aC.out;have:=aQ.out;have:=aN.out;omega
    case rel=>exact⟨aY,(wrap64 (a2+1)),rfl,H,⟨by have:=aC.out;have:=aQ.out;have:=aN.out;omega⟩,⟨sR<|a0.out⟩,⟨sR<|a9.out⟩,⟨sW HB.out⟩⟩
mutual
def tV:Nat→List (S31)→List (List Bool)→Int→Option (List Bool)
 | 0,_,_,_=>none
 | k+1,x0,x3,x4=>if x4<(x0.length:Int)then(qQ k x0 x3 x4 (([]:List Bool)) 0)else(if 0≤(wrap64 ((x0.length:Int)-1))then(if(wrap64 ((x0.length:Int)-1))<(x3.length:Int)then(some (a7y x3 (wrap64 ((x0.length:Int)-1))))else(none))else(none))
def qQ:Nat→List (S31)→List (List Bool)→Int→List Bool→Int→Option (List Bool)
 | 0,_,_,_,_,_=>none
 | k+1,x0,x3,x4,x5,x6=>if x6<8 then(if 0≤x4 then(if x4<(x0.length:Int)then(if((kA x0 x4).f0)=1 then(vW k x0 x3 x4 x5 x6 (((kA x0 x4).f2)==x6))else(vW k x0 x3 x4 x5 x6 false))else(none))else(none))else(if x3.length<5864062014805 then(tV k x0 (x3++[x5]) (wrap64 (x4+1)))else(none))
def vW:Nat→List (S31)→List (List Bool)→Int→List Bool→Int→Bool→Option (List Bool)
 | 0,_,_,_,_,_,_=>none
 | k+1,x0,x3,x4,x5,x6,x7=>if 0≤x4 then(if x4<(x0.length:Int)then((sZ k ((kA x0 x4).f0) ((kA x0 x4).f1) ((kA x0 x4).f2) ((kA x0 x4).f3) ((kA x0 x4).f4) ((kA x0 x4).f5)).bind fun a0=>(tU k x0 x3 x4 x5 x6 x7 a0 0))else(none))else(none)
def tU:Nat→List (S31)→List (List Bool)→Int→List Bool→Int→Bool→List Int→Int→Option (List Bool)
 | 0,_,_,_,_,_,_,_,_=>none
 | k+1,x0,x3,x4,x5,x6,x7,x8,x9=>if x9<(x8.length:Int)then(if x7=true then(tU k x0 x3 x4 x5 x6 true x8 (wrap64 (x9+1)))else(if 0≤x9 then(if 0≤(rd x8 x9)then(if(rd x8 x9)<(x3.length:Int)then(if 0≤x6 then(if x6<((a7y x3 (rd x8 x9)).length:Int)then(tU k x0 x3 x4 x5 x6 (wH false (a7y x3 (rd x8 x9)) x6) x8 (wrap64 (x9+1)))else(none))else(none))else(none))else(none))else(none)))else(if 0≤x4 then(if x4<(x0.length:Int)then(if((kA x0 x4).f0)=19 then(if((kA x0 x4).f2)=x6 then(if x5.length<140737488355328 then(qQ k x0 x3 x4 (x5++[false]) (wrap64 (x6+1)))else(none))else(if x5.length<140737488355328 then(qQ k x0 x3 x4 (x5++[x7]) (wrap64 (x6+1)))else(none)))else(if((kA x0 x4).f0)=20 then(if((kA x0 x4).f2)=x6 then(if x5.length<140737488355328 then(qQ k x0 x3 x4 (x5++[false]) (wrap64 (x6+1)))else(none))else(if x5.length<140737488355328 then(qQ k x0 x3 x4 (x5++[x7]) (wrap64 (x6+1)))else(none)))else(if x5.length<140737488355328 then(qQ k x0 x3 x4 (x5++[x7]) (wrap64 (x6+1)))else(none))))else(none))else(none))
end
def zR(k:Nat)(l0:List (S31)):Option (List Bool):=tV k l0 (([]:List (List Bool))) 0
theorem XXi{k:Nat}{A0:Option Addr}{c0:Nat}{l0:List (S31)}{r:List Bool}{w:World}(hr0:Kd.C k31 w A0 l0.length l0)(hc0:l0.length≤c0)(h:zR k l0=some r) :
  Calls Tryz.prog 112 #[.slice A0 l0.length c0] w fun e w' =>∃e0:Value,e= .returned (e0)∧Kd.R Kd.bool 4 w' w.heap.size (fun _=>True) e0 r∧Below w.heap.size w w':=by
 have hu31:=Tryz.underlying33
 have aD:=am hr0
 have gU:=am hc0
 clear hr0 hc0
 have HB:=am (Below.refl w.heap.size w)
 have H:=h
 clear h
 unfold zR at H
 generalize bL:([]:List (List Bool))=eG at H
 have dK:=am bL.symm;clear bL
 replace H:=am H
 go_enter Tryz.func112,Tryz.ntmps112
 go_wp2_with (((with_reducible refine pU (N:=10) rfl ?_);refine Kd.S_lit (Kd.slice 4 Kd.bool) _ 50 ?hg (N:=10) ?hd (xs:=([]:List (List Bool))) (inner:=[]) (ok:=fun _=>True) (okp:=fun _=>True) ?hr ?hp (fun _ hk=>hk) trivial (Below.refl _ _) (Nat.le_refl _) (by simp) ?_;(case hd=>rfl);(case hg=>rfl);(case hr=>(go_simp;done));(case hp=>exact(Reps.none _ _));intro fY w2 cT hb hg_ hnew_;clear hg_ hnew_;(rw[← dK.out]at cT);have d_:=am (Kd.S_lower cT (kG (by exact sW HB.out)));replace HB:=hB HB hb;clear hb cT))
 go_loopg [3,4] k (fun kq v3 v4 w' =>∃(a5:List (List Bool)) (a2:Int),v4= .int .i64 a2∧Aside0 (tV kq l0 a5 a2=some r)∧Aside0 (kq≤k)∧Aside0 (Kd.S (Kd.slice 4 Kd.bool) 50 w' w.heap.size (fun _=>True) v3 a5)∧Aside0 (Below w.heap.size w w'))
 case atStart=>exact⟨eG,0,rfl,H,⟨Nat.le_refl _⟩,⟨by exact sS<|d_.out⟩,⟨sW HB.out⟩⟩
 clear H
 obtain⟨a5,a2,rfl,HA,a8,a0,HB⟩:=hrel
 cases gk with
 | zero=>cases HA.out
 | succ k1 =>
  obtain⟨H⟩:=HA
  simp only[tV]at H
  replace H:=iD H;rcases H with⟨cW,H⟩|⟨cW,H⟩
  rotate_left
  ·generalize cZ:wrap64 ((l0.length:Int)-1)=aV at H
   have f7:(IntKind.i64.wrap ((l0.length:Int)-1))=aV:=(vB _).trans cZ
   replace H:=iN H;obtain⟨fE,H⟩:=H
   replace H:=iN H;obtain⟨fD,H⟩:=H
   obtain rfl:=oI H
   obtain⟨gJ,g4,eQ⟩:=Kd.YX a0.out
   subst eQ
   have b9:0≤((aV):Int):=oD (by assumption)
   have b6:(aV)<(a5.length:Int):=oD (by assumption)
   obtain⟨fQ,fB,f9,eU,cQ,hl173_0,hi173_0⟩:=d6n (Kd.YS a0.out).2.2 (aV) b9 b6
   cases eU
   obtain⟨ce173,hce173,hMe173,hcc173⟩:=Kd.XI a0.out [] (aV) b9 (by exact b6)
   obtain⟨ve173_0,rfl,ge173_0⟩:=hMe173
   have hv173_0:=hcc173 0 _ rfl
   rw[Nat.add_zero,show((Kd.slice 4 Kd.bool)).sz=1 from rfl,Nat.mul_one]at hv173_0
   replace hv173_0:=oI (hv173_0.symm.trans cQ)
   rw[hv173_0]at ge173_0
   have HL173_0:=am (show Kd.R Kd.bool 4 _ _ _ _ (a7y a5 (aV))from ge173_0)
   clear hv173_0 ge173_0
   clear hcc173 hce173
   have f4:=am hi173_0
   have f6:=am hl173_0
   clear hi173_0 hl173_0
   replace b9:=eq_true b9
   replace b6:=eq_true b6
   go_wp2
   go_ret
   exact⟨_,rfl,sR<|Kd.JC HL173_0.out (fun _ hk=>trivial),sW HB.out⟩
  generalize bK:([]:List Bool)=eF at H
  have dJ:=am bK.symm;clear bK
  replace H:=am H
  go_wp2_with (((with_reducible refine pU (N:=17) rfl ?_);refine Kd.YC Kd.bool _ 4 ?hg (N:=17) ?hd (xs:=([]:List Bool)) (inner:=[]) (ok:=fun _=>True) (okp:=fun _=>True) ?hr ?hp (fun _ hk=>hk) trivial (Below.refl _ _) (Nat.le_refl _) (by simp) ?_;(case hd=>rfl);(case hg=>rfl);(case hr=>(go_simp;done));(case hp=>exact(Reps.none _ _));intro fX w5 bM hb hg_ hnew_;clear hg_ hnew_;(rw[← dJ.out]at bM);replace a0:=am (Kd.XJ (by exact sS<|a0.out) (Kd.JX bM) hb);have dZ:=rL bM HB;replace HB:=hB HB hb;clear hb bM))
  go_loopg [5,6] k1 (fun kq v5 v6 w' =>∃(a3:List Bool) (a9:Int),v6= .int .i64 a9∧Aside0 (qQ kq l0 a5 a2 a3 a9=some r)∧Aside0 (kq≤k1)∧Aside0 (Kd.S (Kd.slice 4 Kd.bool) 50 w' w.heap.size (fun k_=>some k_≠(v5:Value).ownBlock) u3 a5)∧Aside0 (Kd.R Kd.bool 4 w' w.heap.size (fun _=>True) v5 a3)∧Aside0 (Below w.heap.size w w'))
  case atStart=>exact⟨eF,0,rfl,H,⟨Nat.le_refl _⟩,⟨by exact sS<|Kd.YA a0.out (fun _ hk=>hk.2)⟩,⟨sR<|dZ.out⟩,⟨sW HB.out⟩⟩
  clear H
  clear cW
  obtain⟨a3,a9,rfl,HA,a7,a0,a1,HB⟩:=hrel
  cases gk with
  | zero=>cases HA.out
  | succ k2 =>
   obtain⟨H⟩:=HA
   simp only[qQ]at H
   replace H:=iD H;rcases H with⟨cV,H⟩|⟨cV,H⟩
   rotate_left
   ·replace H:=iP H;obtain⟨e3,H⟩:=H
    have dL:=am e3
    clear e3
    generalize bJ:a5++[a3]=eE at H
    have dI:=am bJ.symm;clear bJ
    replace H:=am H
    obtain⟨cY,cU,rfl⟩:=Kd.JB a1.out
    go_wp2_with (((with_reducible refine kZ (b:= .append) (xs:= #[.tmp 88,.tmp 90]) rfl ?_);at_builtin;refine Kd.S_append (Kd.slice 4 Kd.bool) (w0:=w) w.heap.size rfl (.tmp 88) (.tmp 90) 108 50 (.slice none 0 0) 24 rfl Tryz.underlying108 d6g rfl (by decide) oM u3 a5 a3 [.slice cY a3.length cU] (fun _=>True) (fun k_=>some k_=(.slice cY a3.length cU:Value).ownBlock) rfl rfl ?aP (fun k_ hk_=>((Kd.JC (ok':=fun k_=>((fun _=>True)) k_∧some k_≠(u3:Value).ownBlock) (Kd.YN (a1.out) (Kd.XB a0.out) (by decide)) (fun k_ hk=>⟨trivial,hk.2⟩))).1 k_ hk_.symm) ?aF ?aO ?aB ?aS ?aL ?_;(case aP=>exact Kd.M_row (Kd.JC (Kd.JL rfl (Kd.JC (ok':=fun k_=>((fun _=>True)) k_∧some k_≠(u3:Value).ownBlock) (Kd.YN (a1.out) (Kd.XB a0.out) (by decide)) (fun k_ hk=>⟨trivial,hk.2⟩))) (fun _ h_=>h_)));(case aB=>exact(by exact sW HB.out));(case aF=>exact(fun _ _=>trivial));(case aO=>exact(by exact sS<|Kd.YA a0.out (fun k_ hk=>⟨trivial,fun e_=>hk e_⟩)));(case aS=>exact(kG (by exact sW HB.out)));(case aL=>have:=dL.out;omega);intro fW w48 ho hb hg hat;rw[← dI.out]at ho;replace HB:=am hb;have dY:=am ho;clear a0 a1;clear ho hb hg hat))
    go_roundg k2
    case measure=>have:=a8.out;have:=a7.out;omega
    case rel=>exact⟨eE,(wrap64 (a2+1)),rfl,H,⟨by have:=a8.out;have:=a7.out;omega⟩,⟨by exact sS<|dY.out⟩,⟨sW HB.out⟩⟩
   have cX:=am H;clear H
   go_upto_region 9 with(fail)
   go_cut [7] (fun v7 wc =>∃(kq:Nat) (b3:Bool),v7= .bool b3∧Aside0 (vW kq l0 a5 a2 a3 a9 b3=some r)∧Aside0 (kq≤k2)∧Aside0 (Kd.S (Kd.slice 4 Kd.bool) 50 wc w.heap.size (fun k_=>some k_≠(u5:Value).ownBlock) u3 a5)∧Aside0 (Kd.R Kd.bool 4 wc w.heap.size (fun _=>True) u5 a3)∧Aside0 (Below w.heap.size w wc))
   case first =>
    have H:=cX.out
    clear cX
    replace H:=iN H;obtain⟨gI,H⟩:=H
    replace H:=iN H;obtain⟨fM,H⟩:=H
    replace H:=iE H;rcases H with⟨dB,dA,H⟩|⟨dB,dA,H⟩
    ·replace H:=am H
     obtain⟨eP,eL,bN,rfl,cP,cO,cN,cM,cL,cK⟩:=ix (pE (Kd.JE aD.out HB.out) a2)
     obtain⟨g3,g0,dC,eT,f3,f1,f0,eZ,eY,eX⟩:=ix (pE (Kd.JE aD.out HB.out) a2)
     obtain rfl:bN=dC:=(by injection eT)
     go_wp2
     go_meet
     case rel=>exact⟨_,((((kA l0 a2).f2)==a9)),rfl,H,⟨by have:=a8.out;have:=a7.out;omega⟩,⟨by exact sS<|a0.out⟩,⟨sR<|a1.out⟩,⟨sW HB.out⟩⟩
    replace H:=am H
    obtain⟨eP,eL,bN,rfl,cP,cO,cN,cM,cL,cK⟩:=ix (pE (Kd.JE aD.out HB.out) a2)
    go_wp2
    go_meet
    case rel=>exact⟨_,false,rfl,H,⟨by have:=a8.out;have:=a7.out;omega⟩,⟨by exact sS<|a0.out⟩,⟨sR<|a1.out⟩,⟨sW HB.out⟩⟩
   clear cX
   clear cV
   obtain⟨kq,b3,rfl,HA,aH,a0,a1,HB⟩:=hcut
   cases kq with
   | zero=>cases HA.out
   | succ e1 =>
    obtain⟨H⟩:=HA
    simp only[vW]at H
    replace H:=iN H;obtain⟨d9,H⟩:=H
    replace H:=iN H;obtain⟨d8,H⟩:=H
    replace H:=oA H;obtain⟨aJ,fC,H⟩:=H
    replace H:=am H
    obtain⟨eO,eK,a6,rfl,cJ,cI,cH,cG,cF,cE⟩:=ix (pE (Kd.JE aD.out HB.out) a2)
    go_wp2_with (((with_reducible refine gW ?_);refine gF 45 (some 41) rfl ?_;refine gT Tryz.func45 (JRi fC.out) ?_;rintro eH w15 ⟨e2,hb⟩;replace a0:=am (Kd.XN (by exact sS<|a0.out) hb);replace a1:=rB a1 hb;have dX:=rL e2 HB;replace HB:=hB HB hb;(try clear hb);(try clear e2)))
    go_loopg [7,9] e1 (fun kq v7 v9 w' =>∃(aC:Bool) (aA:Int),v7= .bool aC∧v9= .int .i64 aA∧Aside0 (tU kq l0 a5 a2 a3 a9 aC aJ aA=some r)∧Aside0 (kq≤e1)∧Aside0 (Kd.S (Kd.slice 4 Kd.bool) 50 w' w.heap.size (fun k_=>some k_≠(u5:Value).ownBlock) u3 a5)∧Aside0 (Kd.R Kd.bool 4 w' w.heap.size (fun _=>True) u5 a3)∧Aside0 (Kd.R (Kd.int .i64) 3 w' w.heap.size (fun _=>True) eH aJ)∧Aside0 (Below w.heap.size w w'))
    case atStart=>exact⟨b3,0,rfl,rfl,H,⟨Nat.le_refl _⟩,⟨by exact sS<|a0.out⟩,⟨sR<|a1.out⟩,⟨sR<|dX.out⟩,⟨sW HB.out⟩⟩
    clear H
    clear d9 d8 cJ cI cH cG cF cE eO eK
    obtain⟨aC,aA,rfl,rfl,HA,aG,a0,a1,a4,HB⟩:=hrel
    cases gk with
    | zero=>cases HA.out
    | succ k4 =>
     obtain⟨H⟩:=HA
     simp only[tU]at H
     replace H:=iD H;rcases H with⟨d7,H⟩|⟨d7,H⟩
     ·replace H:=iB H;rcases H with⟨rfl,H⟩|⟨rfl,H⟩
      ·replace H:=am H
       obtain⟨gR,gH,rfl⟩:=Kd.JB a4.out
       go_wp2
       go_roundg k4
       case measure=>have:=a8.out;have:=a7.out;have:=aH.out;have:=aG.out;omega
       case rel=>exact⟨true,(wrap64 (aA+1)),rfl,rfl,H,⟨by have:=a8.out;have:=a7.out;have:=aH.out;have:=aG.out;omega⟩,⟨by exact sS<|a0.out⟩,⟨sR<|a1.out⟩,⟨sR<|a4.out⟩,⟨sW HB.out⟩⟩
      replace H:=iN H;obtain⟨fL,H⟩:=H
      replace H:=iN H;obtain⟨fK,H⟩:=H
      replace H:=iN H;obtain⟨fJ,H⟩:=H
      replace H:=iN H;obtain⟨fI,H⟩:=H
      replace H:=iN H;obtain⟨fH,H⟩:=H
      replace H:=am H
      obtain⟨gQ,gE,rfl⟩:=Kd.JB a4.out
      obtain⟨g2,f_,fP,rfl,eW⟩:=ix (Kd.JD (Kd.JA a4.out).2.2 aA)
      obtain⟨gP,gA,eR⟩:=Kd.YX a0.out
      subst eR
      have b8:0≤((rd aJ aA):Int):=oD (by assumption)
      have b5:(rd aJ aA)<(a5.length:Int):=oD (by assumption)
      obtain⟨fO,fA,f8,eS,cC,hl187_0,hi187_0⟩:=d6n (Kd.YS a0.out).2.2 (rd aJ aA) b8 b5
      cases eS
      obtain⟨ce187,hce187,hMe187,hcc187⟩:=Kd.XI a0.out [] (rd aJ aA) b8 (by exact b5)
      obtain⟨ve187_0,rfl,ge187_0⟩:=hMe187
      have hv187_0:=hcc187 0 _ rfl
      rw[Nat.add_zero,show((Kd.slice 4 Kd.bool)).sz=1 from rfl,Nat.mul_one]at hv187_0
      replace hv187_0:=oI (hv187_0.symm.trans cC)
      rw[hv187_0]at ge187_0
      have HL187_0:=am (show Kd.R Kd.bool 4 _ _ _ _ (a7y a5 (rd aJ aA))from ge187_0)
      clear hv187_0 ge187_0
      clear hcc187 hce187
      have b2:=am hi187_0
      have f5:=am hl187_0
      clear hi187_0 hl187_0
      replace b8:=eq_true b8
      replace b5:=eq_true b5
      obtain⟨g1,fZ,fN,rfl,eV⟩:=ix (Kd.JJ (by repeat(first|(with_reducible exact b2.out)|(with_reducible refine Kd.YU ?_ _)|(with_reducible refine Kd.XA ?_ _)|(with_reducible refine Kd.YY ?_)|exact b2.out)) a9)
      go_wp2
      go_roundg k4
      case measure=>have:=a8.out;have:=a7.out;have:=aH.out;have:=aG.out;omega
      case rel=>exact⟨(wH false (a7y a5 (rd aJ aA)) a9),(wrap64 (aA+1)),rfl,rfl,H,⟨by have:=a8.out;have:=a7.out;have:=aH.out;have:=aG.out;omega⟩,⟨by exact sS<|a0.out⟩,⟨sR<|a1.out⟩,⟨sR<|a4.out⟩,⟨sW HB.out⟩⟩
     replace H:=iN H;obtain⟨fG,H⟩:=H
     replace H:=iN H;obtain⟨fF,H⟩:=H
     replace H:=iE H;rcases H with⟨d6,d5,H⟩|⟨d6,d5,H⟩
     ·replace H:=iE H;rcases H with⟨d4,d3,H⟩|⟨d4,d3,H⟩
      ·replace H:=iP H;obtain⟨e8,H⟩:=H
       have dQ:=am e8
       clear e8
       generalize bI:a3++[false]=eD at H
       have dH:=am bI.symm;clear bI
       replace H:=am H
       obtain⟨gO,g9,rfl⟩:=Kd.JB a4.out
       obtain⟨b7,b4,aE,aI,aT,aR,aQ,aN,aM,aK⟩:=ix (pE (Kd.JE aD.out HB.out) a2)
       obtain rfl:a6=aE:=(by injection aI)
       obtain⟨eN,eJ,bB,bD,cB,c1,b_,bZ,bV,bU⟩:=ix (pE (Kd.JE aD.out HB.out) a2)
       obtain rfl:a6=bB:=(by injection bD)
       go_wp2_with (((with_reducible refine kZ (b:= .append) (xs:= #[.tmp 84,.tmp 86]) rfl ?_);at_builtin;refine Kd.JQ Kd.bool (w0:=w) w.heap.size rfl (.tmp 84) (.tmp 86) 50 4 (.bool false) 1 rfl Tryz.underlying50 b1g rfl (by decide) oM u5 a3 false [.bool false] (fun _=>True) (fun _=>False) rfl rfl ?aP (fun _ hk=>hk.elim) ?aF ?aO ?aB ?aS ?aL ?_;(case aP=>exact rfl);(case aB=>exact(by exact sW HB.out));(case aF=>exact(fun _ _=>trivial));(case aO=>exact(by exact sR<|a1.out));(case aS=>exact(kG (by exact sW HB.out)));(case aL=>have:=dQ.out;omega);intro fV w32 ho hb hg hat;rw[← dH.out]at ho;replace a0:=am (Kd.YP (ok:=(fun _=>True)) (by exact sS<|Kd.YA a0.out (fun _ hk=>⟨trivial,hk⟩)) hg hat);replace a4:=oV a4 a1 hg;replace HB:=am hb;have dW:=am ho;clear a1;clear ho hb hg hat))
       go_roundg k4
       case measure=>have:=a8.out;have:=a7.out;have:=aH.out;have:=aG.out;omega
       case rel=>exact⟨eD,(wrap64 (a9+1)),rfl,H,⟨by have:=a8.out;have:=a7.out;have:=aH.out;have:=aG.out;omega⟩,⟨by exact sS<|Kd.YA a0.out (fun _ hk=>hk.2)⟩,⟨sR<|dW.out⟩,⟨sW HB.out⟩⟩
      replace H:=iP H;obtain⟨e7,H⟩:=H
      have dP:=am e7
      clear e7
      generalize bH:a3++[aC]=eC at H
      have dG:=am bH.symm;clear bH
      replace H:=am H
      obtain⟨gN,g8,rfl⟩:=Kd.JB a4.out
      obtain⟨b7,b4,aE,aI,aT,aR,aQ,aN,aM,aK⟩:=ix (pE (Kd.JE aD.out HB.out) a2)
      obtain rfl:a6=aE:=(by injection aI)
      obtain⟨eN,eJ,bB,bD,cB,c1,b_,bZ,bV,bU⟩:=ix (pE (Kd.JE aD.out HB.out) a2)
      obtain rfl:a6=bB:=(by injection bD)
      go_wp2_with (((with_reducible refine kZ (b:= .append) (xs:= #[.tmp 84,.tmp 86]) rfl ?_);at_builtin;refine Kd.JQ Kd.bool (w0:=w) w.heap.size rfl (.tmp 84) (.tmp 86) 50 4 (.bool false) 1 rfl Tryz.underlying50 b1g rfl (by decide) oM u5 a3 aC [.bool aC] (fun _=>True) (fun _=>False) rfl rfl ?aP (fun _ hk=>hk.elim) ?aF ?aO ?aB ?aS ?aL ?_;(case aP=>exact rfl);(case aB=>exact(by exact sW HB.out));(case aF=>exact(fun _ _=>trivial));(case aO=>exact(by exact sR<|a1.out));(case aS=>exact(kG (by exact sW HB.out)));(case aL=>have:=dP.out;omega);intro fU w35 ho hb hg hat;rw[← dG.out]at ho;replace a0:=am (Kd.YP (ok:=(fun _=>True)) (by exact sS<|Kd.YA a0.out (fun _ hk=>⟨trivial,hk⟩)) hg hat);replace a4:=oV a4 a1 hg;replace HB:=am hb;have dV:=am ho;clear a1;clear ho hb hg hat))
      go_roundg k4
      case measure=>have:=a8.out;have:=a7.out;have:=aH.out;have:=aG.out;omega
      case rel=>exact⟨eC,(wrap64 (a9+1)),rfl,H,⟨by have:=a8.out;have:=a7.out;have:=aH.out;have:=aG.out;omega⟩,⟨by exact sS<|Kd.YA a0.out (fun _ hk=>hk.2)⟩,⟨sR<|dV.out⟩,⟨sW HB.out⟩⟩
     replace H:=iE H;rcases H with⟨d2,d1,H⟩|⟨d2,d1,H⟩
     rotate_left
     ·replace H:=iP H;obtain⟨e4,H⟩:=H
      have dM:=am e4
      clear e4
      generalize bE:a3++[aC]=e9 at H
      have dD:=am bE.symm;clear bE
      replace H:=am H
      obtain⟨gK,g5,rfl⟩:=Kd.JB a4.out
      obtain⟨b7,b4,aE,aI,aT,aR,aQ,aN,aM,aK⟩:=ix (pE (Kd.JE aD.out HB.out) a2)
      obtain rfl:a6=aE:=(by injection aI)
      obtain⟨cS,cR,aU,aW,b1,b0,a_,aZ,aY,aX⟩:=ix (pE (Kd.JE aD.out HB.out) a2)
      obtain rfl:a6=aU:=(by injection aW)
      go_wp2_with (((with_reducible refine kZ (b:= .append) (xs:= #[.tmp 84,.tmp 86]) rfl ?_);at_builtin;refine Kd.JQ Kd.bool (w0:=w) w.heap.size rfl (.tmp 84) (.tmp 86) 50 4 (.bool false) 1 rfl Tryz.underlying50 b1g rfl (by decide) oM u5 a3 aC [.bool aC] (fun _=>True) (fun _=>False) rfl rfl ?aP (fun _ hk=>hk.elim) ?aF ?aO ?aB ?aS ?aL ?_;(case aP=>exact rfl);(case aB=>exact(by exact sW HB.out));(case aF=>exact(fun _ _=>trivial));(case aO=>exact(by exact sR<|a1.out));(case aS=>exact(kG (by exact sW HB.out)));(case aL=>have:=dM.out;omega);intro fR w46 ho hb hg hat;rw[← dD.out]at ho;replace a0:=am (Kd.YP (ok:=(fun _=>True)) (by exact sS<|Kd.YA a0.out (fun _ hk=>⟨trivial,hk⟩)) hg hat);replace a4:=oV a4 a1 hg;replace HB:=am hb;have dS:=am ho;clear a1;clear ho hb hg hat))
      go_roundg k4
      case measure=>have:=a8.out;have:=a7.out;have:=aH.out;have:=aG.out;omega
      case rel=>exact⟨e9,(wrap64 (a9+1)),rfl,H,⟨by have:=a8.out;have:=a7.out;have:=aH.out;have:=aG.out;omega⟩,⟨by exact sS<|Kd.YA a0.out (fun _ hk=>hk.2)⟩,⟨sR<|dS.out⟩,⟨sW HB.out⟩⟩
     replace H:=iE H;rcases H with⟨d0,c_,H⟩|⟨d0,c_,H⟩
     ·replace H:=iP H;obtain⟨e6,H⟩:=H
      have dO:=am e6
      clear e6
      generalize bG:a3++[false]=eB at H
      have dF:=am bG.symm;clear bG
      replace H:=am H
      obtain⟨gM,g7,rfl⟩:=Kd.JB a4.out
      obtain⟨b7,b4,aE,aI,aT,aR,aQ,aN,aM,aK⟩:=ix (pE (Kd.JE aD.out HB.out) a2)
      obtain rfl:a6=aE:=(by injection aI)
      obtain⟨cS,cR,aU,aW,b1,b0,a_,aZ,aY,aX⟩:=ix (pE (Kd.JE aD.out HB.out) a2)
      obtain rfl:a6=aU:=(by injection aW)
      obtain⟨eM,eI,bA,bC,bT,bS,bR,bQ,bP,bO⟩:=ix (pE (Kd.JE aD.out HB.out) a2)
      obtain rfl:a6=bA:=(by injection bC)
      go_wp2_with (((with_reducible refine kZ (b:= .append) (xs:= #[.tmp 84,.tmp 86]) rfl ?_);at_builtin;refine Kd.JQ Kd.bool (w0:=w) w.heap.size rfl (.tmp 84) (.tmp 86) 50 4 (.bool false) 1 rfl Tryz.underlying50 b1g rfl (by decide) oM u5 a3 false [.bool false] (fun _=>True) (fun _=>False) rfl rfl ?aP (fun _ hk=>hk.elim) ?aF ?aO ?aB ?aS ?aL ?_;(case aP=>exact rfl);(case aB=>exact(by exact sW HB.out));(case aF=>exact(fun _ _=>trivial));(case aO=>exact(by exact sR<|a1.out));(case aS=>exact(kG (by exact sW HB.out)));(case aL=>have:=dO.out;omega);intro fT w40 ho hb hg hat;rw[← dF.out]at ho;replace a0:=am (Kd.YP (ok:=(fun _=>True)) (by exact sS<|Kd.YA a0.out (fun _ hk=>⟨trivial,hk⟩)) hg hat);replace a4:=oV a4 a1 hg;replace HB:=am hb;have dU:=am ho;clear a1;clear ho hb hg hat))
      go_roundg k4
      case measure=>have:=a8.out;have:=a7.out;have:=aH.out;have:=aG.out;omega
      case rel=>exact⟨eB,(wrap64 (a9+1)),rfl,H,⟨by have:=a8.out;have:=a7.out;have:=aH.out;have:=aG.out;omega⟩,⟨by exact sS<|Kd.YA a0.out (fun _ hk=>hk.2)⟩,⟨sR<|dU.out⟩,⟨sW HB.out⟩⟩
     replace H:=iP H;obtain⟨e5,H⟩:=H
     have dN:=am e5
     clear e5
     generalize bF:a3++[aC]=eA at H
     have dE:=am bF.symm;clear bF
     replace H:=am H
     obtain⟨gL,g6,rfl⟩:=Kd.JB a4.out
     obtain⟨b7,b4,aE,aI,aT,aR,aQ,aN,aM,aK⟩:=ix (pE (Kd.JE aD.out HB.out) a2)
     obtain rfl:a6=aE:=(by injection aI)
     obtain⟨cS,cR,aU,aW,b1,b0,a_,aZ,aY,aX⟩:=ix (pE (Kd.JE aD.out HB.out) a2)
     obtain rfl:a6=aU:=(by injection aW)
     obtain⟨eM,eI,bA,bC,bT,bS,bR,bQ,bP,bO⟩:=ix (pE (Kd.JE aD.out HB.out) a2)
     obtain rfl:a6=bA:=(by injection bC)
     go_wp2_with (((with_reducible refine kZ (b:= .append) (xs:= #[.tmp 84,.tmp 86]) rfl ?_);at_builtin;refine Kd.JQ Kd.bool (w0:=w) w.heap.size rfl (.tmp 84) (.tmp 86) 50 4 (.bool false) 1 rfl Tryz.underlying50 b1g rfl (by decide) oM u5 a3 aC [.bool aC] (fun _=>True) (fun _=>False) rfl rfl ?aP (fun _ hk=>hk.elim) ?aF ?aO ?aB ?aS ?aL ?_;(case aP=>exact rfl);(case aB=>exact(by exact sW HB.out));(case aF=>exact(fun _ _=>trivial));(case aO=>exact(by exact sR<|a1.out));(case aS=>exact(kG (by exact sW HB.out)));(case aL=>have:=dN.out;omega);intro fS w43 ho hb hg hat;rw[← dE.out]at ho;replace a0:=am (Kd.YP (ok:=(fun _=>True)) (by exact sS<|Kd.YA a0.out (fun _ hk=>⟨trivial,hk⟩)) hg hat);replace a4:=oV a4 a1 hg;replace HB:=am hb;have dT:=am ho;clear a1;clear ho hb hg hat))
     go_roundg k4
     case measure=>have:=a8.out;have:=a7.out;have:=aH.out;have:=aG.out;omega
     case rel=>exact⟨eA,(wrap64 (a9+1)),rfl,H,⟨by have:=a8.out;have:=a7.out;have:=aH.out;have:=aG.out;omega⟩,⟨by exact sS<|Kd.YA a0.out (fun _ hk=>hk.2)⟩,⟨sR<|dT.out⟩,⟨sW HB.out⟩⟩
def vL:Nat→List Int→List Bool→Int→Option (List Int)
 | 0,_,_,_=>none
 | k+1,x3,x4,x5=>if x5<8 then(if 0≤x5 then(if x5<(x4.length:Int)then(if wH false x4 x5=true then(if x3.length<17592186044416 then(vL k (x3++[x5]) x4 (wrap64 (x5+1)))else(none))else(vL k x3 x4 (wrap64 (x5+1))))else(none))else(none))else(some x3)
def zN(k:Nat)(l0:List (S31)):Option (List Int):=(some (([]:List Int):List Int)).bind fun a0=>((tN k l0).bind fun a2=>(if a2=true then((zR k l0).bind fun a1=>(vL k a0 a1 0))else(some a0)))
theorem XJi{k:Nat}{A0:Option Addr}{c0:Nat}{l0:List (S31)}{r:List Int}{w:World}(hr0:Kd.C k31 w A0 l0.length l0)(hc0:l0.length≤c0)(h:zN k l0=some r) :
  Calls Tryz.prog 107 #[.slice A0 l0.length c0] w fun e w' =>∃aT:Value,e= .returned (aT)∧Kd.R (Kd.int .i64) 3 w' w.heap.size (fun _=>True) aT r∧Below w.heap.size w w':=by
 have aI:=am hr0
 have aJ:=am hc0
 clear hr0 hc0
 have HB:=am (Below.refl w.heap.size w)
 have H:=h
 clear h
 unfold zN at H
 replace H:=oS H;obtain⟨aX,aD,H⟩:=H
 replace H:=oA H;obtain⟨b3,A2,H⟩:=H
 replace H:=iB H;rcases H with⟨rfl,H⟩|⟨rfl,H⟩
 rotate_left
 ·obtain rfl:=oI H
  go_enter Tryz.func107,Tryz.ntmps107
  go_wp2_with (((with_reducible refine gW ?_);first|(refine lE (Kd.int .i64) 3 6 ?_;intro aZ w18 a9 hb;(rw[← aD.out]at a9);have a1:=rL a9 HB;replace HB:=hB HB hb;clear hb a9)|(refine gF 19 (some 8) rfl ?_;refine gS Tryz.func19 (JPi (sC (Kd.JE aI.out HB.out)) aJ.out A2.out) ?_;rintro w20 hb;replace a1:=rB a1 hb;replace HB:=hB HB hb;(try clear hb))))
  go_ret
  exact⟨_,rfl,sR<|a1.out,sW HB.out⟩
 replace H:=oA H;obtain⟨a7,A4,H⟩:=H
 replace H:=am H
 go_enter Tryz.func107,Tryz.ntmps107
 go_wp2_with (((with_reducible refine gW ?_);first|(refine lE (Kd.int .i64) 3 6 ?_;intro aZ w5 aH hb;(rw[← aD.out]at aH);have a1:=rL aH HB;replace HB:=hB HB hb;clear hb aH)|(refine gF 19 (some 8) rfl ?_;refine gS Tryz.func19 (JPi (sC (Kd.JE aI.out HB.out)) aJ.out A2.out) ?_;rintro w7 hb;replace a1:=rB a1 hb;replace HB:=hB HB hb;(try clear hb))|(refine gF 112 (some 12) rfl ?_;refine gT Tryz.func112 (XXi (sC (Kd.JE aI.out HB.out)) aJ.out A4.out) ?_;rintro aY w8 ⟨aU,hb⟩;replace a1:=rB a1 hb;have aR:=rL aU HB;replace HB:=hB HB hb;(try clear hb);(try clear aU))))
 go_loopg [3,5] k (fun kq v3 v5 w' =>∃(a5:List Int) (a0:Int),v5= .int .i64 a0∧Aside0 (vL kq a5 a7 a0=some r)∧Aside0 (kq≤k)∧Aside0 (Kd.R (Kd.int .i64) 3 w' w.heap.size (fun _=>True) v3 a5)∧Aside0 (Kd.R Kd.bool 4 w' w.heap.size (fun _=>True) aY a7)∧Aside0 (Below w.heap.size w w'))
 case atStart=>exact⟨aX,0,rfl,H,⟨Nat.le_refl _⟩,⟨sR<|a1.out⟩,⟨sR<|aR.out⟩,⟨sW HB.out⟩⟩
 clear H
 obtain⟨a5,a0,rfl,HA,aG,a8,a2,HB⟩:=hrel
 cases gk with
 | zero=>cases HA.out
 | succ k1 =>
  obtain⟨H⟩:=HA
  simp only[vL]at H
  replace H:=iD H;rcases H with⟨a_,H⟩|⟨a_,H⟩
  rotate_left
  ·obtain rfl:=oI H
   go_wp2
   go_ret
   exact⟨_,rfl,sR<|a8.out,sW HB.out⟩
  replace H:=iN H;obtain⟨b1,H⟩:=H
  replace H:=iN H;obtain⟨b0,H⟩:=H
  generalize hbq12:wH false a7 a0=b6 at H
  have aE:=am hbq12.symm;clear hbq12
  replace H:=iB H;rcases H with⟨rfl,H⟩|⟨rfl,H⟩
  ·replace H:=iP H;obtain⟨aV,H⟩:=H
   have aN:=am aV
   clear aV
   generalize aC:a5++[a0]=aW at H
   have aM:=am aC.symm;clear aC
   replace H:=am H
   obtain⟨b8,b5,rfl⟩:=Kd.JB a2.out
   have a4:0≤(a0:Int):=oD (by assumption)
   have a3:a0<(a7.length:Int):=oD (by assumption)
   obtain⟨aK,aA,a6⟩:=Kd.JJ (Kd.JA a2.out).2.2 a0 a4 a3
   (try rw[← aE.out]at a6)
   cases aA
   replace a4:=eq_true a4
   replace a3:=eq_true a3
   go_wp2_with (((with_reducible refine kZ (b:= .append) (xs:= #[.tmp 21,.tmp 23]) rfl ?_);at_builtin;refine Kd.JQ (Kd.int .i64) (w0:=w) w.heap.size rfl (.tmp 21) (.tmp 23) 25 3 (.int .i64 0) 8 rfl Tryz.underlying25 a4h rfl (by decide) oM u3 a5 a0 [.int .i64 a0] (fun _=>True) (fun _=>False) rfl rfl ?aP (fun _ hk=>hk.elim) ?aF ?aO ?aB ?aS ?aL ?_;(case aP=>exact rfl);(case aB=>exact(by exact sW HB.out));(case aF=>exact(fun _ _=>trivial));(case aO=>exact(by exact sR<|a8.out));(case aS=>exact(kG (by exact sW HB.out)));(case aL=>have:=aN.out;omega);intro b2 w16 ho hb hg hat;rw[← aM.out]at ho;replace a2:=oV a2 a8 hg;replace HB:=am hb;have aQ:=am ho;clear a8;clear ho hb hg hat))
   go_roundg k1
   case measure=>have:=aG.out;omega
   case rel=>exact⟨aW,(wrap64 (a0+1)),rfl,H,⟨by have:=aG.out;omega⟩,⟨sR<|aQ.out⟩,⟨sR<|a2.out⟩,⟨sW HB.out⟩⟩
  replace H:=am H
  obtain⟨b7,b4,rfl⟩:=Kd.JB a2.out
  have a4:0≤(a0:Int):=oD (by assumption)
  have a3:a0<(a7.length:Int):=oD (by assumption)
  obtain⟨aK,aA,a6⟩:=Kd.JJ (Kd.JA a2.out).2.2 a0 a4 a3
  (try rw[← aE.out]at a6)
  cases aA
  replace a4:=eq_true a4
  replace a3:=eq_true a3
  go_wp2
  go_roundg k1
  case measure=>have:=aG.out;omega
  case rel=>exact⟨a5,(wrap64 (a0+1)),rfl,H,⟨by have:=aG.out;omega⟩,⟨sR<|a8.out⟩,⟨sR<|a2.out⟩,⟨sW HB.out⟩⟩
mutual
def sD:Nat→List (S31)→List Bool→Int→Option (List Bool)
 | 0,_,_,_=>none
 | k+1,x0,x3,x4=>if x4<(x0.length:Int)then(if 0≤x4 then((rH ((kA x0 x4).f0)).bind fun a1=>((sZ k ((kA x0 x4).f0) ((kA x0 x4).f1) ((kA x0 x4).f2) ((kA x0 x4).f3) ((kA x0 x4).f4) ((kA x0 x4).f5)).bind fun a0=>(sA k x0 x3 x4 a1 a0 0)))else(none))else(some x3)
def sA:Nat→List (S31)→List Bool→Int→Bool→List Int→Int→Option (List Bool)
 | 0,_,_,_,_,_,_=>none
 | k+1,x0,x3,x4,x5,x6,x7=>if x7<(x6.length:Int)then(if x5=true then(sA k x0 x3 x4 true x6 (wrap64 (x7+1)))else(if 0≤x7 then(if 0≤(rd x6 x7)then(if(rd x6 x7)<(x3.length:Int)then(sA k x0 x3 x4 (wH false x3 (rd x6 x7)) x6 (wrap64 (x7+1)))else(none))else(none))else(none)))else(if x3.length<140737488355328 then(sD k x0 (x3++[x5]) (wrap64 (x4+1)))else(none))
end
def a0g(k:Nat)(l0:List (S31)):Option (List Bool):=sD k l0 (([]:List Bool)) 0
theorem XOi{k:Nat}{A0:Option Addr}{c0:Nat}{l0:List (S31)}{r:List Bool}{w:World}(hr0:Kd.C k31 w A0 l0.length l0)(hc0:l0.length≤c0)(h:a0g k l0=some r) :
  Calls Tryz.prog 108 #[.slice A0 l0.length c0] w fun e w' =>∃b2:Value,e= .returned (b2)∧Kd.R Kd.bool 4 w' w.heap.size (fun _=>True) b2 r∧Below w.heap.size w w':=by
 have hu31:=Tryz.underlying33
 have b5:=am hr0
 have cF:=am hc0
 clear hr0 hc0
 have HB:=am (Below.refl w.heap.size w)
 have H:=h
 clear h
 unfold a0g at H
 generalize aI:([]:List Bool)=b7 at H
 have aY:=am aI.symm;clear aI
 replace H:=am H
 go_enter Tryz.func108,Tryz.ntmps108
 go_wp2_with (((with_reducible refine pU (N:=8) rfl ?_);refine Kd.YC Kd.bool _ 4 ?hg (N:=8) ?hd (xs:=([]:List Bool)) (inner:=[]) (ok:=fun _=>True) (okp:=fun _=>True) ?hr ?hp (fun _ hk=>hk) trivial (Below.refl _ _) (Nat.le_refl _) (by simp) ?_;(case hd=>rfl);(case hg=>rfl);(case hr=>(go_simp;done));(case hp=>exact(Reps.none _ _));intro bP w2 aT hb hg_ hnew_;clear hg_ hnew_;(rw[← aY.out]at aT);have b1:=rL aT HB;replace HB:=hB HB hb;clear hb aT))
 go_loopg [3,4] k (fun kq v3 v4 w' =>∃(a2:List Bool) (a4:Int),v4= .int .i64 a4∧Aside0 (sD kq l0 a2 a4=some r)∧Aside0 (kq≤k)∧Aside0 (Kd.R Kd.bool 4 w' w.heap.size (fun _=>True) v3 a2)∧Aside0 (Below w.heap.size w w'))
 case atStart=>exact⟨b7,0,rfl,H,⟨Nat.le_refl _⟩,⟨sR<|b1.out⟩,⟨sW HB.out⟩⟩
 clear H
 obtain⟨a2,a4,rfl,HA,aE,a0,HB⟩:=hrel
 cases gk with
 | zero=>cases HA.out
 | succ k1 =>
  obtain⟨H⟩:=HA
  simp only[sD]at H
  replace H:=iD H;rcases H with⟨aU,H⟩|⟨aU,H⟩
  rotate_left
  ·obtain rfl:=oI H
   go_wp2
   go_ret
   exact⟨_,rfl,sR<|a0.out,sW HB.out⟩
  replace H:=iN H;obtain⟨bG,H⟩:=H
  replace H:=oA H;obtain⟨b9,A6,H⟩:=H
  replace H:=oA H;obtain⟨aG,A7,H⟩:=H
  replace H:=am H
  obtain⟨bD,bB,aW,rfl,aR,aQ,aN,aM,aK,aJ⟩:=ix (pE (Kd.JE b5.out HB.out) a4)
  go_wp2_with (((with_reducible refine gW ?_);first|(refine gD (some 20) Tryz.func21 rfl (JOi A6.out) fun nd=>?_;obtain⟨bC,bA,aV,bE,aC,aA,a9,a8,a7,a6⟩:=ix (pE b5.out a4);obtain rfl:aW=aV:=(by injection bE);replace aC:=kC HB.out aC;replace aA:=kC HB.out aA;replace a9:=kC HB.out a9;replace a8:=kC HB.out a8;replace a7:=kC HB.out a7;replace a6:=kC HB.out a6)|(refine gF 45 (some 25) rfl ?_;refine gT Tryz.func45 (JRi A7.out) ?_;rintro b8 w8 ⟨b3,hb⟩;replace a0:=rB a0 hb;have b0:=rL b3 HB;replace HB:=hB HB hb;(try clear hb);(try clear b3))))
  go_loopg [5,7] k1 (fun kq v5 v7 w' =>∃(a5:Bool) (a1:Int),v5= .bool a5∧v7= .int .i64 a1∧Aside0 (sA kq l0 a2 a4 a5 aG a1=some r)∧Aside0 (kq≤k1)∧Aside0 (Kd.R Kd.bool 4 w' w.heap.size (fun _=>True) u3 a2)∧Aside0 (Kd.R (Kd.int .i64) 3 w' w.heap.size (fun _=>True) b8 aG)∧Aside0 (Below w.heap.size w w'))
  case atStart=>exact⟨b9,0,rfl,rfl,H,⟨Nat.le_refl _⟩,⟨sR<|a0.out⟩,⟨sR<|b0.out⟩,⟨sW HB.out⟩⟩
  clear H
  clear aU bG aR aQ aN aM aK aJ aC aA a9 a8 a7 a6 bD bC bB bA
  obtain⟨a5,a1,rfl,rfl,HA,aD,a0,a3,HB⟩:=hrel
  cases gk with
  | zero=>cases HA.out
  | succ k2 =>
   obtain⟨H⟩:=HA
   simp only[sA]at H
   replace H:=iD H;rcases H with⟨bF,H⟩|⟨bF,H⟩
   ·replace H:=iB H;rcases H with⟨rfl,H⟩|⟨rfl,H⟩
    ·replace H:=am H
     obtain⟨cE,b_,rfl⟩:=Kd.JB a3.out
     go_wp2
     go_roundg k2
     case measure=>have:=aE.out;have:=aD.out;omega
     case rel=>exact⟨true,(wrap64 (a1+1)),rfl,rfl,H,⟨by have:=aE.out;have:=aD.out;omega⟩,⟨sR<|a0.out⟩,⟨sR<|a3.out⟩,⟨sW HB.out⟩⟩
    replace H:=iN H;obtain⟨bL,H⟩:=H
    replace H:=iN H;obtain⟨bK,H⟩:=H
    replace H:=iN H;obtain⟨bJ,H⟩:=H
    replace H:=am H
    obtain⟨cC,bZ,rfl⟩:=Kd.JB a3.out
    obtain⟨bT,bR,bN,rfl,bI⟩:=ix (Kd.JD (Kd.JA a3.out).2.2 a1)
    obtain⟨cB,bV,rfl⟩:=Kd.JB a0.out
    obtain⟨bS,bQ,bM,rfl,bH⟩:=ix (Kd.JJ (Kd.JA a0.out).2.2 (rd aG a1))
    go_wp2
    go_roundg k2
    case measure=>have:=aE.out;have:=aD.out;omega
    case rel=>exact⟨(wH false a2 (rd aG a1)),(wrap64 (a1+1)),rfl,rfl,H,⟨by have:=aE.out;have:=aD.out;omega⟩,⟨sR<|a0.out⟩,⟨sR<|a3.out⟩,⟨sW HB.out⟩⟩
   replace H:=iP H;obtain⟨b4,H⟩:=H
   have aZ:=am b4
   clear b4
   generalize aH:a2++[a5]=b6 at H
   have aX:=am aH.symm;clear aH
   replace H:=am H
   obtain⟨c1,bU,rfl⟩:=Kd.JB a3.out
   go_wp2_with (((with_reducible refine kZ (b:= .append) (xs:= #[.tmp 42,.tmp 44]) rfl ?_);at_builtin;refine Kd.JQ Kd.bool (w0:=w) w.heap.size rfl (.tmp 42) (.tmp 44) 50 4 (.bool false) 1 rfl Tryz.underlying50 b1g rfl (by decide) oM u3 a2 a5 [.bool a5] (fun _=>True) (fun _=>False) rfl rfl ?aP (fun _ hk=>hk.elim) ?aF ?aO ?aB ?aS ?aL ?_;(case aP=>exact rfl);(case aB=>exact(by exact sW HB.out));(case aF=>exact(fun _ _=>trivial));(case aO=>exact(by exact sR<|a0.out));(case aS=>exact(kG (by exact sW HB.out)));(case aL=>have:=aZ.out;omega);intro bO w19 ho hb hg hat;rw[← aX.out]at ho;replace a3:=oV a3 a0 hg;replace HB:=am hb;have a_:=am ho;clear a0;clear ho hb hg hat))
   go_roundg k2
   case measure=>have:=aE.out;have:=aD.out;omega
   case rel=>exact⟨b6,(wrap64 (a4+1)),rfl,H,⟨by have:=aE.out;have:=aD.out;omega⟩,⟨sR<|a_.out⟩,⟨sW HB.out⟩⟩
def uW(a0:Int):Option (Bool):=if a0=2 then(some true)else(if a0=3 then(some true)else(if a0=4 then(some true)else((rH a0).bind fun a1=>(some a1))))
theorem KNi{a0:Int}{r:Bool}{w:World}(h:uW a0=some r) :
  Calls Tryz.prog 109 #[.int .i64 a0] w fun e w'=>e= .returned (.bool r)∧Drawn0 w w':=by
 have H:=h
 clear h
 unfold uW at H
 replace H:=iE H;rcases H with⟨a6,a5,H⟩|⟨a6,a5,H⟩
 ·obtain rfl:=oI H
  go_enter Tryz.func109,Tryz.ntmps109
  go_wp2
  go_ret
  exact⟨rfl,dR⟩
 replace H:=iE H;rcases H with⟨a4,a3,H⟩|⟨a4,a3,H⟩
 ·obtain rfl:=oI H
  go_enter Tryz.func109,Tryz.ntmps109
  go_wp2
  go_ret
  exact⟨rfl,dR⟩
 replace H:=iE H;rcases H with⟨a2,a1,H⟩|⟨a2,a1,H⟩
 ·obtain rfl:=oI H
  go_enter Tryz.func109,Tryz.ntmps109
  go_wp2
  go_ret
  exact⟨rfl,dR⟩
 replace H:=oA H;obtain⟨a7,A5,H⟩:=H
 obtain rfl:=oI H
 go_enter Tryz.func109,Tryz.ntmps109
 go_wp2_with ((go_at_call 21;refine cD (JOi A5.out) fun nd=>?_))
 go_ret
 exact⟨rfl,dR⟩
end Go.Proofs.YtkpipmojkhikaaaGreat.PAll
