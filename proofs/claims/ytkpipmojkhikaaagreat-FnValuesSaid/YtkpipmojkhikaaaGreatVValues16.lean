/- Go functions as Lean functions: a call comes to what they say. -/
import Derived.Test.YtkpipmojkhikaaaGreatVValues3
namespace Go.Proofs.YtkpipmojkhikaaaGreat.PAll
open Go.RowKit Go.A_ Go.B_ Go.C_ Go.D_
attribute [local go_sem] rF rC tE tD qK qJ rD rA
set_option linter.unusedVariables false
set_option maxHeartbeats 8000000
set_option maxRecDepth 100000
set_option linter.unusedSimpArgs false
mutual
def sN:Nat→List (S31)→List (S31)→List Bool→List Int→Int→Option ((List (S31)))
 | 0,_,_,_,_,_=>none
 | k+1,x0,x3,x4,x5,x6=>if x6<(x0.length:Int)then(if x5.length<17592186044416 then((some (x5++[(x3.length:Int)]:List Int)).bind fun a6=>(if 0≤x6 then(if x6<(x4.length:Int)then(if wH false x4 x6=true then((sZ k ((kA x0 x6).f0) ((kA x0 x6).f1) ((kA x0 x6).f2) ((kA x0 x6).f3) ((kA x0 x6).f4) ((kA x0 x6).f5)).bind fun a7=>(if(a7.length:Int)>0 then(if 0≤((kA x0 x6).f3)then(if((kA x0 x6).f3)<(a6.length:Int)then(xV k x0 x3 x4 a6 x6 a7 ((kA x0 x6).f0) ((kA x0 x6).f1) ((kA x0 x6).f2) (rd a6 ((kA x0 x6).f3)) ((kA x0 x6).f4) ((kA x0 x6).f5))else(none))else(none))else(xV k x0 x3 x4 a6 x6 a7 ((kA x0 x6).f0) ((kA x0 x6).f1) ((kA x0 x6).f2) ((kA x0 x6).f3) ((kA x0 x6).f4) ((kA x0 x6).f5))))else(sN k x0 x3 x4 a6 (wrap64 (x6+1))))else(none))else(none)))else(none))else(some x3)
def xV:Nat→List (S31)→List (S31)→List Bool→List Int→Int→List Int→Int→Int→Int→Int→Int→Int→Option ((List (S31)))
 | 0,_,_,_,_,_,_,_,_,_,_,_,_=>none
 | k+1,x0,x3,x4,x5,x6,x8,a5,a4,a3,a2,a1,a0=>if(x8.length:Int)>1 then(if 0≤a1 then(if a1<(x5.length:Int)then(if(x8.length:Int)>2 then(if 0≤a0 then(if a0<(x5.length:Int)then(if x3.length<2932031007402 then(sN k x0 (x3++[(⟨a5,a4,a3,a2,rd x5 a1,rd x5 a0⟩:S31)]) x4 x5 (wrap64 (x6+1)))else(none))else(none))else(none))else(if x3.length<2932031007402 then(sN k x0 (x3++[(⟨a5,a4,a3,a2,rd x5 a1,a0⟩:S31)]) x4 x5 (wrap64 (x6+1)))else(none)))else(none))else(none))else(if(x8.length:Int)>2 then(if 0≤a0 then(if a0<(x5.length:Int)then(if x3.length<2932031007402 then(sN k x0 (x3++[(⟨a5,a4,a3,a2,a1,rd x5 a0⟩:S31)]) x4 x5 (wrap64 (x6+1)))else(none))else(none))else(none))else(if x3.length<2932031007402 then(sN k x0 (x3++[(⟨a5,a4,a3,a2,a1,a0⟩:S31)]) x4 x5 (wrap64 (x6+1)))else(none)))
end
def zW(k:Nat)(l0:List (S31)):Option ((List (S31))):=(some (([]:List (S31)):List (S31))).bind fun a0=>((tN k l0).bind fun a2=>(if a2=true then((vU k l0).bind fun a1=>(sN k l0 a0 a1 (([]:List Int)) 0))else(some a0)))
theorem XUi{k:Nat}{A0:Option Addr}{c0:Nat}{l0 r:List (S31)}{w:World}(hr0:Kd.C k31 w A0 l0.length l0)(hc0:l0.length≤c0)(h:zW k l0=some r) :
  Calls Tryz.prog 20 #[.slice A0 l0.length c0] w fun e w' =>∃cX:Value,e= .returned (cX)∧Kd.R k31 33 w' w.heap.size (fun _=>True) cX r∧Below w.heap.size w w':=by
 have hu31:=Tryz.underlying33
 have bM:=am hr0
 have bT:=am hc0
 clear hr0 hc0
 have HB:=am (Below.refl w.heap.size w)
 have H:=h
 clear h
 unfold zW at H
 replace H:=oS H;obtain⟨d7,bJ,H⟩:=H
 replace H:=oA H;obtain⟨e8,A2,H⟩:=H
 replace H:=iB H;rcases H with⟨rfl,H⟩|⟨rfl,H⟩
 rotate_left
 ·obtain rfl:=oI H
  go_enter Tryz.func20,Tryz.ntmps20
  go_wp2_with (((with_reducible refine gW ?_);first|(refine lE k31 33 9 ?_;intro d9 w58 b8 hb;(rw[← bJ.out]at b8);have aC:=rL b8 HB;replace HB:=hB HB hb;clear hb b8)|(refine gF 19 (some 11) rfl ?_;refine gS Tryz.func19 (JPi (sC (Kd.JE bM.out HB.out)) bT.out A2.out) ?_;rintro w60 hb;replace aC:=rB aC hb;replace HB:=hB HB hb;(try clear hb))))
  go_ret
  exact⟨_,rfl,sR<|aC.out,sW HB.out⟩
 replace H:=oA H;obtain⟨aI,A4,H⟩:=H
 generalize bF:([]:List Int)=d6 at H
 have cN:=am bF.symm;clear bF
 replace H:=am H
 go_enter Tryz.func20,Tryz.ntmps20
 go_wp2_with (((with_reducible refine gW ?_);first|(refine lE k31 33 9 ?_;intro d9 w5 bR hb;(rw[← bJ.out]at bR);have aC:=rL bR HB;replace HB:=hB HB hb;clear hb bR)|(refine gF 19 (some 11) rfl ?_;refine gS Tryz.func19 (JPi (sC (Kd.JE bM.out HB.out)) bT.out A2.out) ?_;rintro w7 hb;replace aC:=rB aC hb;replace HB:=hB HB hb;(try clear hb))|(refine gF 44 (some 15) rfl ?_;refine gT Tryz.func44 (KYi (sC (Kd.JE bM.out HB.out)) bT.out A4.out) ?_;rintro d8 w8 ⟨aX,hb⟩;replace aC:=rB aC hb;have b4:=rL aX HB;replace HB:=hB HB hb;(try clear hb);(try clear aX))|(refine lE (Kd.int .i64) 3 16 ?_;intro e7 w9 b9 hb;(rw[← cN.out]at b9);replace aC:=rB aC hb;replace b4:=rB b4 hb;have cW:=rL b9 HB;replace HB:=hB HB hb;clear hb b9)))
 go_loopg [3,5,6] k (fun kq v3 v5 v6 w' =>∃(a9:List (S31)) (aT:List Int) (a0:Int),v6= .int .i64 a0∧Aside0 (sN kq l0 a9 aI aT a0=some r)∧Aside0 (kq≤k)∧Aside0 (Kd.R k31 33 w' w.heap.size (fun _=>True) v3 a9)∧Aside0 (Kd.R Kd.bool 4 w' w.heap.size (fun _=>True) d8 aI)∧Aside0 (Kd.R (Kd.int .i64) 3 w' w.heap.size (fun _=>True) v5 aT)∧Aside0 (Below w.heap.size w w'))
 case atStart=>exact⟨d7,d6,0,rfl,H,⟨Nat.le_refl _⟩,⟨sR<|aC.out⟩,⟨sR<|b4.out⟩,⟨sR<|cW.out⟩,⟨sW HB.out⟩⟩
 clear H
 obtain⟨a9,aT,a0,rfl,HA,aD,a4,a7,a6,HB⟩:=hrel
 cases gk with
 | zero=>cases HA.out
 | succ k1 =>
  obtain⟨H⟩:=HA
  simp only[sN]at H
  replace H:=iD H;rcases H with⟨bG,H⟩|⟨bG,H⟩
  rotate_left
  ·obtain rfl:=oI H
   go_wp2
   go_ret
   exact⟨_,rfl,sR<|a4.out,sW HB.out⟩
  replace H:=iP H;obtain⟨d1,H⟩:=H
  have bL:=am d1
  clear d1
  replace H:=oS H;obtain⟨a3,bI,H⟩:=H
  replace H:=iN H;obtain⟨cH,H⟩:=H
  replace H:=iN H;obtain⟨cG,H⟩:=H
  generalize hbq15:wH false aI a0=eJ at H
  have bK:=am hbq15.symm;clear hbq15
  replace H:=iB H;rcases H with⟨rfl,H⟩|⟨rfl,H⟩
  rotate_left
  ·replace H:=am H
   obtain⟨eL,eE,rfl⟩:=Kd.JB a4.out
   go_wp2_with (((with_reducible refine kZ (b:= .append) (xs:= #[.tmp 23,.tmp 26]) rfl ?_);at_builtin;refine Kd.JQ (Kd.int .i64) (w0:=w) w.heap.size rfl (.tmp 23) (.tmp 26) 25 3 (.int .i64 0) 8 rfl Tryz.underlying25 a4h rfl (by decide) oM u5 aT (a9.length:Int) [.int .i64 (a9.length:Int)] (fun _=>True) (fun _=>False) rfl rfl ?aP (fun _ hk=>hk.elim) ?aF ?aO ?aB ?aS ?aL ?_;(case aP=>exact rfl);(case aB=>exact(by exact sW HB.out));(case aF=>exact(fun _ _=>trivial));(case aO=>exact(by exact sR<|a6.out));(case aS=>exact(kG (by exact sW HB.out)));(case aL=>have:=bL.out;omega);intro b5 w56 ho hb hg hat;rw[← bI.out]at ho;replace a4:=oV a4 a6 hg;replace a7:=oV a7 a6 hg;replace HB:=am hb;have aA:=am ho;clear a6;clear ho hb hg hat;obtain⟨eK,eD,rfl⟩:=Kd.JB a7.out;obtain⟨bQ,bP,bH,rfl,aH⟩:=ix (Kd.JJ (Kd.JA a7.out).2.2 a0);(try rw[← bK.out]at aH)))
   go_roundg k1
   case measure=>have:=aD.out;omega
   case rel=>exact⟨a9,a3,(wrap64 (a0+1)),rfl,H,⟨by have:=aD.out;omega⟩,⟨sR<|a4.out⟩,⟨sR<|a7.out⟩,⟨sR<|aA.out⟩,⟨sW HB.out⟩⟩
  replace H:=oA H;obtain⟨a8,dO,H⟩:=H
  have bA:=am H;clear H
  obtain⟨aV,aU,rfl⟩:=Kd.JB a4.out
  go_upto_if 41 with(((with_reducible refine gW ?_);first|((with_reducible refine kZ (b:= .append) (xs:= #[.tmp 23,.tmp 26]) rfl ?_);at_builtin;refine Kd.JQ (Kd.int .i64) (w0:=w) w.heap.size rfl (.tmp 23) (.tmp 26) 25 3 (.int .i64 0) 8 rfl Tryz.underlying25 a4h rfl (by decide) oM u5 aT (a9.length:Int) [.int .i64 (a9.length:Int)] (fun _=>True) (fun _=>False) rfl rfl ?aP (fun _ hk=>hk.elim) ?aF ?aO ?aB ?aS ?aL ?_;(case aP=>exact rfl);(case aB=>exact(by exact sW HB.out));(case aF=>exact(fun _ _=>trivial));(case aO=>exact(by exact sR<|a6.out));(case aS=>exact(kG (by exact sW HB.out)));(case aL=>have:=bL.out;omega);intro b5 w20 ho hb hg hat;rw[← bI.out]at ho;replace a4:=oV a4 a6 hg;replace a7:=oV a7 a6 hg;replace HB:=am hb;have aA:=am ho;clear a6;clear ho hb hg hat;obtain⟨eQ,dF,rfl⟩:=Kd.JB a7.out;obtain⟨bQ,bP,bH,rfl,aH⟩:=ix (Kd.JJ (Kd.JA a7.out).2.2 a0);(try rw[← bK.out]at aH);obtain⟨dD,dB,d_,rfl,aR,aQ,aN,aM,aK,aJ⟩:=ix (pE bM.out a0);replace aR:=kC HB.out aR;replace aQ:=kC HB.out aQ;replace aN:=kC HB.out aN;replace aM:=kC HB.out aM;replace aK:=kC HB.out aK;replace aJ:=kC HB.out aJ)|((with_reducible refine pU (N:=7) rfl ?_);refine wG ?hg (N:=7) ?hd (cs:= #[.int .i64 0,.int .i64 0,.int .i64 0,.int .i64 0,.int .i64 0,.int .i64 0]) (t:=33) ?hr ?_;(case hd=>rfl);(case hg=>rfl);(case hr=>first|(go_simp;done)|(go_simp;rfl));intro a5 hg w22 hbox hb;replace a4:=am (Kd.JK (Kd.XE (by exact sR<|a4.out) a5 (Nat.le_of_eq hg.symm)) hb);replace a7:=rB a7 hb;replace aA:=rB aA hb;have a2:=am hbox;have e0:=gw hg;have e1:=gw hg;replace HB:=hB HB hb;clear hb hbox hg;have bO:=cf6 a2.out)|(refine gF 45 (some 38) rfl ?_;refine gT Tryz.func45 (JRi dO.out) ?_;rintro e6 w24 ⟨aX,hb⟩;replace a4:=am (Kd.JK (by exact sR<|(rm (rf 5 (rf 4 (rf 3 (rf 2 (rf 1 (rf 0 (rp a4))))))))) hb);replace a7:=am (Kd.JK (by exact sR<|(rm (rf 5 (rf 4 (rf 3 (rf 2 (rf 1 (rf 0 (ry a7 a2))))))))) hb);have b3:=am (Kd.JF (Kd.JN aX (Kd.JM (by exact sR<|(rm (rf 5 (rf 4 (rf 3 (rf 2 (rf 1 (rf 0 (ry aA a2))))))))))) (kG (by exact bW)));replace aA:=am (Kd.JS (by exact sR<|(rm (rf 5 (rf 4 (rf 3 (rf 2 (rf 1 (rf 0 (ry aA a2))))))))) (Kd.JX aX) hb);replace a2:=am (kJ (by exact sB<|pn (by exact sB<|a2.out)) hb);replace HB:=hX hb;obtain⟨bU,bS,rfl⟩:=Kd.JB b3.out)));clear hb aX
  (try simp only[Act.put,List.setIfInBounds_toArray,List.set_cons_zero,List.set_cons_succ])
  go_cut [] (fun wc =>∃(kq:Nat) (a1:Int),Aside0 (xV kq l0 a9 aI a3 a0 a8 ((kA l0 a0).f0) ((kA l0 a0).f1) ((kA l0 a0).f2) a1 ((kA l0 a0).f4) ((kA l0 a0).f5)=some r)∧Aside0 (kq≤k1)∧Aside0 (Kd.R k31 33 wc w.heap.size (fun k_=>k_≠a5) (.slice aV a9.length aU) a9)∧Aside0 (Kd.R Kd.bool 4 wc w.heap.size (fun _=>True) (.slice (some bH) aI.length dF) aI)∧Aside0 (Kd.R (Kd.int .i64) 3 wc w.heap.size (fun k_=>some k_≠((.slice bU a8.length bS):Value).ownBlock) b5 a3)∧Aside0 (Kd.R (Kd.int .i64) 3 wc w.heap.size (fun k_=>some k_≠(b5:Value).ownBlock) (.slice bU a8.length bS) a8)∧Aside0 (wc.heap[a5]? = some (.cells #[.int .i64 ((kA l0 a0).f0),.int .i64 ((kA l0 a0).f1),.int .i64 ((kA l0 a0).f2),.int .i64 a1,.int .i64 ((kA l0 a0).f4),.int .i64 ((kA l0 a0).f5)] 33 (0,0)))∧Aside0 (Below w.heap.size w wc))
  case first =>
   have H:=bA.out
   clear bA
   by_cases b0:(a8.length:Int)>0
   ·rw[if_pos b0]at H
    have cF:decide (0<(a8.length:Int))=true:=decide_eq_true b0
    have cE:decide (0<a8.length)=true:=decide_eq_true oM
    have dG:0<a8.length:=by omega
    clear b0
    replace H:=iN H;obtain⟨dX,H⟩:=H
    replace H:=iN H;obtain⟨dW,H⟩:=H
    replace H:=am H
    have dN:=cf6 a2.out
    obtain⟨eP,eI,rfl⟩:=Kd.JB aA.out
    obtain⟨eC,eA,dZ,rfl,dI⟩:=ix (Kd.JD (Kd.JA aA.out).2.2 ((kA l0 a0).f3))
    go_wp2
    go_meet
    case rel=>exact⟨_,(rd a3 ((kA l0 a0).f3)),H,⟨by have:=aD.out;omega⟩,⟨sR<|Kd.JC (Kd.JT (p:=⟨a5,3,none⟩) (Kd.JC a4.out (fun k_ hk=>(⟨hk,hk.2⟩:_∧k_≠a5))) (fun _ hk=>hk.2) (.int .i64 (rd a3 ((kA l0 a0).f3)))) (fun _ hk=>hk.1.2)⟩,⟨sR<|Kd.JC (Kd.JT (p:=⟨a5,3,none⟩) (Kd.YJ a7.out a2.out (by decide)) (fun _ hk=>hk.2) (.int .i64 (rd a3 ((kA l0 a0).f3)))) (fun _ hk=>trivial)⟩,⟨sR<|Kd.JC (Kd.JT (p:=⟨a5,3,none⟩) (Kd.YJ aA.out a2.out (by decide)) (fun _ hk=>hk.2) (.int .i64 (rd a3 ((kA l0 a0).f3)))) (fun _ hk=>hk.1.2)⟩,⟨sR<|Kd.JC (Kd.JT (p:=⟨a5,3,none⟩) (Kd.YJ b3.out a2.out (by decide)) (fun _ hk=>hk.2) (.int .i64 (rd a3 ((kA l0 a0).f3)))) (fun _ hk=>hk.1.2)⟩,⟨by(with_reducible repeat(first|refine pR ?_ _|refine kW ?_|refine oZ ?_ _));refine pB (cs:= #[.int .i64 ((kA l0 a0).f0),.int .i64 ((kA l0 a0).f1),.int .i64 ((kA l0 a0).f2),.int .i64 ((kA l0 a0).f3),.int .i64 ((kA l0 a0).f4),.int .i64 ((kA l0 a0).f5)]) ?_ 3 _ rfl;exact sB<|a2.out⟩,⟨bW⟩⟩
   rw[if_neg b0]at H
   have cF:decide (0<(a8.length:Int))=false:=decide_eq_false b0
   have cE:decide (0<a8.length)=false:=decide_eq_false oM
   have dG :¬0<a8.length:=by omega
   clear b0
   replace H:=am H
   go_wp2
   go_meet
   case rel=>exact⟨_,((kA l0 a0).f3),H,⟨by have:=aD.out;omega⟩,⟨sR<|Kd.JC a4.out (fun _ hk=>hk.2)⟩,⟨sR<|a7.out⟩,⟨sR<|Kd.JC aA.out (fun _ hk=>hk.2)⟩,⟨sR<|Kd.JC b3.out (fun _ hk=>hk.2)⟩,⟨sB<|a2.out⟩,⟨bW⟩⟩
  clear bA
  clear bG cH cG bO aH aR aQ aN aM aK aJ bQ dD bP dB
  obtain⟨kq,a1,HA,aG,a4,a7,a6,aE,a2,HB⟩:=hcut
  cases kq with
  | zero=>cases HA.out
  | succ b1 =>
   obtain⟨H⟩:=HA
   simp only[xV]at H
   by_cases a_:(a8.length:Int)>1
   ·rw[if_pos a_]at H
    have cC:decide (1<(a8.length:Int))=true:=decide_eq_true a_
    have cB:decide (1<a8.length)=true:=decide_eq_true oM
    clear a_
    replace H:=iN H;obtain⟨dV,H⟩:=H
    replace H:=iN H;obtain⟨dU,H⟩:=H
    by_cases aZ:(a8.length:Int)>2
    ·rw[if_pos aZ]at H
     have c1:decide (2<(a8.length:Int))=true:=decide_eq_true aZ
     have b_:decide (2<a8.length)=true:=decide_eq_true oM
     clear aZ
     replace H:=iN H;obtain⟨dT,H⟩:=H
     replace H:=iN H;obtain⟨dS,H⟩:=H
     replace H:=iP H;obtain⟨d0,H⟩:=H
     have cR:=am d0
     clear d0
     generalize bE:a9++[(⟨((kA l0 a0).f0),((kA l0 a0).f1),((kA l0 a0).f2),a1,rd a3 ((kA l0 a0).f4),rd a3 ((kA l0 a0).f5)⟩:S31)]=d5 at H
     have cM:=am bE.symm;clear bE
     replace H:=am H
     have dM:=cf6 a2.out
     obtain⟨eO,eH,rfl⟩:=Kd.JB a6.out
     obtain⟨dC,dA,b2,rfl,bN⟩:=ix (Kd.JD (Kd.JA a6.out).2.2 ((kA l0 a0).f4))
     have b7:0≤(((kA l0 a0).f5):Int):=oD (by assumption)
     have b6:((kA l0 a0).f5)<(a3.length:Int):=oD (by assumption)
     obtain⟨cI,dE,aW⟩:=Kd.JD (Kd.JA a6.out).2.2 ((kA l0 a0).f5) b7 b6
     obtain rfl:b2=cI:=(by injection dE)
     have hn804_0:b2.block≠a5:=Kd.YH (Kd.YM a6.out a2.out (by decide))
     replace aW:=(qC (p:=⟨a5,4,none⟩) (by(rw[tK];exact hn804_0)) (.int .i64 (rd a3 ((kA l0 a0).f4)))).trans aW
     clear hn804_0
     replace b7:=eq_true b7
     replace b6:=eq_true b6
     go_wp2_with (((with_reducible refine kZ (b:= .append) (xs:= #[.tmp 66,.tmp 68]) rfl ?_);at_builtin;refine Kd.JQ k31 (w0:=w) w.heap.size rfl (.tmp 66) (.tmp 68) 24 33 (.agg #[(.int .i64 0),(.int .i64 0),(.int .i64 0),(.int .i64 0),(.int .i64 0),(.int .i64 0)]) 48 rfl Tryz.underlying24 yT rfl (by decide) oM (.slice aV a9.length aU) a9 (⟨((kA l0 a0).f0),((kA l0 a0).f1),((kA l0 a0).f2),a1,rd a3 ((kA l0 a0).f4),rd a3 ((kA l0 a0).f5)⟩:S31) [.int .i64 ((kA l0 a0).f0),.int .i64 ((kA l0 a0).f1),.int .i64 ((kA l0 a0).f2),.int .i64 a1,.int .i64 (rd a3 ((kA l0 a0).f4)),.int .i64 (rd a3 ((kA l0 a0).f5))] (fun k_=>k_≠a5) (fun _=>False) rfl (by(go_simp;done)) ?aP (fun _ hk=>hk.elim) ?aF ?aO ?aB ?aS ?aL ?_;(case aP=>exact vE _ _ _ (⟨((kA l0 a0).f0),((kA l0 a0).f1),((kA l0 a0).f2),a1,rd a3 ((kA l0 a0).f4),rd a3 ((kA l0 a0).f5)⟩:S31));(case aB=>exact(by exact bW));(case aF=>exact(fun k_ hk=>Kd.YG (g:=a5) (o:= .cells #[.int .i64 ((kA l0 a0).f0),.int .i64 ((kA l0 a0).f1),.int .i64 ((kA l0 a0).f2),.int .i64 a1,.int .i64 (rd a3 ((kA l0 a0).f4)),.int .i64 (rd a3 ((kA l0 a0).f5))] 33 (0,0)) (by(with_reducible repeat(first|refine pR ?_ _|refine kW ?_|refine oZ ?_ _));refine pB (cs:= #[.int .i64 ((kA l0 a0).f0),.int .i64 ((kA l0 a0).f1),.int .i64 ((kA l0 a0).f2),.int .i64 a1,.int .i64 (rd a3 ((kA l0 a0).f4)),.int .i64 ((kA l0 a0).f5)]) ?_ 5 _ rfl;(with_reducible repeat(first|refine pR ?_ _|refine kW ?_|refine oZ ?_ _));refine pB (cs:= #[.int .i64 ((kA l0 a0).f0),.int .i64 ((kA l0 a0).f1),.int .i64 ((kA l0 a0).f2),.int .i64 a1,.int .i64 ((kA l0 a0).f4),.int .i64 ((kA l0 a0).f5)]) ?_ 4 _ rfl;exact sB<|a2.out) k_ hk));(case aO=>exact(by exact sR<|Kd.JC (Kd.JT (p:=⟨a5,5,none⟩) (Kd.JT (p:=⟨a5,4,none⟩) (Kd.JC a4.out (fun k_ hk=>(⟨hk,hk⟩:_∧k_≠a5))) (fun _ hk=>hk.2) (.int .i64 (rd a3 ((kA l0 a0).f4)))) (fun _ hk=>hk.2) (.int .i64 (rd a3 ((kA l0 a0).f5)))) (fun _ hk=>hk.1)));(case aS=>exact(kG (by exact bW)));(case aL=>have:=cR.out;omega);intro e5 w40 ho hb hg hat;rw[← cM.out]at ho;replace a7:=am (Kd.JI (by exact sR<|(rm (rf 5 (rf 4 (ry a7 a2))))) (Kd.JG (by exact sR<|(rm (rf 5 (rf 4 (rq a4)))))) (by decide) hg);replace a6:=am (Kd.JI (by exact sR<|(rm (rf 5 (rf 4 (ry a6 a2))))) (Kd.JG (by exact sR<|(rm (rf 5 (rf 4 (rq a4)))))) (by decide) hg);replace aE:=am (Kd.JI (by exact sR<|(rm (rf 5 (rf 4 (ry aE a2))))) (Kd.JG (by exact sR<|(rm (rf 5 (rf 4 (rq a4)))))) (by decide) hg);replace a2:=am (qT (g:=a5) (o:= .cells #[.int .i64 ((kA l0 a0).f0),.int .i64 ((kA l0 a0).f1),.int .i64 ((kA l0 a0).f2),.int .i64 a1,.int .i64 (rd a3 ((kA l0 a0).f4)),.int .i64 (rd a3 ((kA l0 a0).f5))] 33 (0,0)) (by(with_reducible repeat(first|refine pR ?_ _|refine kW ?_|refine oZ ?_ _));refine pB (cs:= #[.int .i64 ((kA l0 a0).f0),.int .i64 ((kA l0 a0).f1),.int .i64 ((kA l0 a0).f2),.int .i64 a1,.int .i64 (rd a3 ((kA l0 a0).f4)),.int .i64 ((kA l0 a0).f5)]) ?_ 5 _ rfl;(with_reducible repeat(first|refine pR ?_ _|refine kW ?_|refine oZ ?_ _));refine pB (cs:= #[.int .i64 ((kA l0 a0).f0),.int .i64 ((kA l0 a0).f1),.int .i64 ((kA l0 a0).f2),.int .i64 a1,.int .i64 ((kA l0 a0).f4),.int .i64 ((kA l0 a0).f5)]) ?_ 4 _ rfl;exact sB<|a2.out) hg (Kd.YD a4.out (fun _ hk=>hk)));replace HB:=am hb;have cV:=am ho;clear a4;clear ho hb hg hat))
     go_roundg b1
     case measure=>have:=aD.out;have:=aG.out;omega
     case rel=>exact⟨d5,a3,(wrap64 (a0+1)),rfl,H,⟨by have:=aD.out;have:=aG.out;omega⟩,⟨sR<|Kd.JC cV.out (fun _ hk=>trivial)⟩,⟨sR<|a7.out⟩,⟨sR<|Kd.JC a6.out (fun _ hk=>trivial)⟩,⟨bW⟩⟩
    rw[if_neg aZ]at H
    have c1:decide (2<(a8.length:Int))=false:=decide_eq_false aZ
    have b_:decide (2<a8.length)=false:=decide_eq_false oM
    clear aZ
    replace H:=iP H;obtain⟨c_,H⟩:=H
    have cQ:=am c_
    clear c_
    generalize bD:a9++[(⟨((kA l0 a0).f0),((kA l0 a0).f1),((kA l0 a0).f2),a1,rd a3 ((kA l0 a0).f4),((kA l0 a0).f5)⟩:S31)]=d4 at H
    have cL:=am bD.symm;clear bD
    replace H:=am H
    have dL:=cf6 a2.out
    obtain⟨eN,eG,rfl⟩:=Kd.JB a6.out
    obtain⟨dC,dA,b2,rfl,bN⟩:=ix (Kd.JD (Kd.JA a6.out).2.2 ((kA l0 a0).f4))
    go_wp2_with (((with_reducible refine kZ (b:= .append) (xs:= #[.tmp 66,.tmp 68]) rfl ?_);at_builtin;refine Kd.JQ k31 (w0:=w) w.heap.size rfl (.tmp 66) (.tmp 68) 24 33 (.agg #[(.int .i64 0),(.int .i64 0),(.int .i64 0),(.int .i64 0),(.int .i64 0),(.int .i64 0)]) 48 rfl Tryz.underlying24 yT rfl (by decide) oM (.slice aV a9.length aU) a9 (⟨((kA l0 a0).f0),((kA l0 a0).f1),((kA l0 a0).f2),a1,rd a3 ((kA l0 a0).f4),((kA l0 a0).f5)⟩:S31) [.int .i64 ((kA l0 a0).f0),.int .i64 ((kA l0 a0).f1),.int .i64 ((kA l0 a0).f2),.int .i64 a1,.int .i64 (rd a3 ((kA l0 a0).f4)),.int .i64 ((kA l0 a0).f5)] (fun k_=>k_≠a5) (fun _=>False) rfl (by(go_simp;done)) ?aP (fun _ hk=>hk.elim) ?aF ?aO ?aB ?aS ?aL ?_;(case aP=>exact vE _ _ _ (⟨((kA l0 a0).f0),((kA l0 a0).f1),((kA l0 a0).f2),a1,rd a3 ((kA l0 a0).f4),((kA l0 a0).f5)⟩:S31));(case aB=>exact(by exact bW));(case aF=>exact(fun k_ hk=>Kd.YG (g:=a5) (o:= .cells #[.int .i64 ((kA l0 a0).f0),.int .i64 ((kA l0 a0).f1),.int .i64 ((kA l0 a0).f2),.int .i64 a1,.int .i64 (rd a3 ((kA l0 a0).f4)),.int .i64 ((kA l0 a0).f5)] 33 (0,0)) (by(with_reducible repeat(first|refine pR ?_ _|refine kW ?_|refine oZ ?_ _));refine pB (cs:= #[.int .i64 ((kA l0 a0).f0),.int .i64 ((kA l0 a0).f1),.int .i64 ((kA l0 a0).f2),.int .i64 a1,.int .i64 ((kA l0 a0).f4),.int .i64 ((kA l0 a0).f5)]) ?_ 4 _ rfl;exact sB<|a2.out) k_ hk));(case aO=>exact(by exact sR<|Kd.JC (Kd.JT (p:=⟨a5,4,none⟩) (Kd.JC a4.out (fun k_ hk=>(⟨hk,hk⟩:_∧k_≠a5))) (fun _ hk=>hk.2) (.int .i64 (rd a3 ((kA l0 a0).f4)))) (fun _ hk=>hk.1)));(case aS=>exact(kG (by exact bW)));(case aL=>have:=cQ.out;omega);intro e4 w44 ho hb hg hat;rw[← cL.out]at ho;replace a7:=am (Kd.JI (by exact sR<|(rm (rf 4 (ry a7 a2)))) (Kd.JG (by exact sR<|(rm (rf 4 (rq a4))))) (by decide) hg);replace a6:=am (Kd.JI (by exact sR<|(rm (rf 4 (ry a6 a2)))) (Kd.JG (by exact sR<|(rm (rf 4 (rq a4))))) (by decide) hg);replace aE:=am (Kd.JI (by exact sR<|(rm (rf 4 (ry aE a2)))) (Kd.JG (by exact sR<|(rm (rf 4 (rq a4))))) (by decide) hg);replace a2:=am (qT (g:=a5) (o:= .cells #[.int .i64 ((kA l0 a0).f0),.int .i64 ((kA l0 a0).f1),.int .i64 ((kA l0 a0).f2),.int .i64 a1,.int .i64 (rd a3 ((kA l0 a0).f4)),.int .i64 ((kA l0 a0).f5)] 33 (0,0)) (by(with_reducible repeat(first|refine pR ?_ _|refine kW ?_|refine oZ ?_ _));refine pB (cs:= #[.int .i64 ((kA l0 a0).f0),.int .i64 ((kA l0 a0).f1),.int .i64 ((kA l0 a0).f2),.int .i64 a1,.int .i64 ((kA l0 a0).f4),.int .i64 ((kA l0 a0).f5)]) ?_ 4 _ rfl;exact sB<|a2.out) hg (Kd.YD a4.out (fun _ hk=>hk)));replace HB:=am hb;have cU:=am ho;clear a4;clear ho hb hg hat))
    go_roundg b1
    case measure=>have:=aD.out;have:=aG.out;omega
    case rel=>exact⟨d4,a3,(wrap64 (a0+1)),rfl,H,⟨by have:=aD.out;have:=aG.out;omega⟩,⟨sR<|Kd.JC cU.out (fun _ hk=>trivial)⟩,⟨sR<|a7.out⟩,⟨sR<|Kd.JC a6.out (fun _ hk=>trivial)⟩,⟨bW⟩⟩
   rw[if_neg a_]at H
   have cC:decide (1<(a8.length:Int))=false:=decide_eq_false a_
   have cB:decide (1<a8.length)=false:=decide_eq_false oM
   clear a_
   by_cases aY:(a8.length:Int)>2
   ·rw[if_pos aY]at H
    have bZ:decide (2<(a8.length:Int))=true:=decide_eq_true aY
    have bV:decide (2<a8.length)=true:=decide_eq_true oM
    clear aY
    replace H:=iN H;obtain⟨dQ,H⟩:=H
    replace H:=iN H;obtain⟨dP,H⟩:=H
    replace H:=iP H;obtain⟨cZ,H⟩:=H
    have cP:=am cZ
    clear cZ
    generalize bC:a9++[(⟨((kA l0 a0).f0),((kA l0 a0).f1),((kA l0 a0).f2),a1,((kA l0 a0).f4),rd a3 ((kA l0 a0).f5)⟩:S31)]=d3 at H
    have cK:=am bC.symm;clear bC
    replace H:=am H
    have dK:=cf6 a2.out
    obtain⟨eM,eF,rfl⟩:=Kd.JB a6.out
    obtain⟨eB,e9,dY,rfl,dH⟩:=ix (Kd.JD (Kd.JA a6.out).2.2 ((kA l0 a0).f5))
    go_wp2_with (((with_reducible refine kZ (b:= .append) (xs:= #[.tmp 66,.tmp 68]) rfl ?_);at_builtin;refine Kd.JQ k31 (w0:=w) w.heap.size rfl (.tmp 66) (.tmp 68) 24 33 (.agg #[(.int .i64 0),(.int .i64 0),(.int .i64 0),(.int .i64 0),(.int .i64 0),(.int .i64 0)]) 48 rfl Tryz.underlying24 yT rfl (by decide) oM (.slice aV a9.length aU) a9 (⟨((kA l0 a0).f0),((kA l0 a0).f1),((kA l0 a0).f2),a1,((kA l0 a0).f4),rd a3 ((kA l0 a0).f5)⟩:S31) [.int .i64 ((kA l0 a0).f0),.int .i64 ((kA l0 a0).f1),.int .i64 ((kA l0 a0).f2),.int .i64 a1,.int .i64 ((kA l0 a0).f4),.int .i64 (rd a3 ((kA l0 a0).f5))] (fun k_=>k_≠a5) (fun _=>False) rfl (by(go_simp;done)) ?aP (fun _ hk=>hk.elim) ?aF ?aO ?aB ?aS ?aL ?_;(case aP=>exact vE _ _ _ (⟨((kA l0 a0).f0),((kA l0 a0).f1),((kA l0 a0).f2),a1,((kA l0 a0).f4),rd a3 ((kA l0 a0).f5)⟩:S31));(case aB=>exact(by exact bW));(case aF=>exact(fun k_ hk=>Kd.YG (g:=a5) (o:= .cells #[.int .i64 ((kA l0 a0).f0),.int .i64 ((kA l0 a0).f1),.int .i64 ((kA l0 a0).f2),.int .i64 a1,.int .i64 ((kA l0 a0).f4),.int .i64 (rd a3 ((kA l0 a0).f5))] 33 (0,0)) (by(with_reducible repeat(first|refine pR ?_ _|refine kW ?_|refine oZ ?_ _));refine pB (cs:= #[.int .i64 ((kA l0 a0).f0),.int .i64 ((kA l0 a0).f1),.int .i64 ((kA l0 a0).f2),.int .i64 a1,.int .i64 ((kA l0 a0).f4),.int .i64 ((kA l0 a0).f5)]) ?_ 5 _ rfl;exact sB<|a2.out) k_ hk));(case aO=>exact(by exact sR<|Kd.JC (Kd.JT (p:=⟨a5,5,none⟩) (Kd.JC a4.out (fun k_ hk=>(⟨hk,hk⟩:_∧k_≠a5))) (fun _ hk=>hk.2) (.int .i64 (rd a3 ((kA l0 a0).f5)))) (fun _ hk=>hk.1)));(case aS=>exact(kG (by exact bW)));(case aL=>have:=cP.out;omega);intro e3 w51 ho hb hg hat;rw[← cK.out]at ho;replace a7:=am (Kd.JI (by exact sR<|(rm (rf 5 (ry a7 a2)))) (Kd.JG (by exact sR<|(rm (rf 5 (rq a4))))) (by decide) hg);replace a6:=am (Kd.JI (by exact sR<|(rm (rf 5 (ry a6 a2)))) (Kd.JG (by exact sR<|(rm (rf 5 (rq a4))))) (by decide) hg);replace aE:=am (Kd.JI (by exact sR<|(rm (rf 5 (ry aE a2)))) (Kd.JG (by exact sR<|(rm (rf 5 (rq a4))))) (by decide) hg);replace a2:=am (qT (g:=a5) (o:= .cells #[.int .i64 ((kA l0 a0).f0),.int .i64 ((kA l0 a0).f1),.int .i64 ((kA l0 a0).f2),.int .i64 a1,.int .i64 ((kA l0 a0).f4),.int .i64 (rd a3 ((kA l0 a0).f5))] 33 (0,0)) (by(with_reducible repeat(first|refine pR ?_ _|refine kW ?_|refine oZ ?_ _));refine pB (cs:= #[.int .i64 ((kA l0 a0).f0),.int .i64 ((kA l0 a0).f1),.int .i64 ((kA l0 a0).f2),.int .i64 a1,.int .i64 ((kA l0 a0).f4),.int .i64 ((kA l0 a0).f5)]) ?_ 5 _ rfl;exact sB<|a2.out) hg (Kd.YD a4.out (fun _ hk=>hk)));replace HB:=am hb;have cT:=am ho;clear a4;clear ho hb hg hat))
    go_roundg b1
    case measure=>have:=aD.out;have:=aG.out;omega
    case rel=>exact⟨d3,a3,(wrap64 (a0+1)),rfl,H,⟨by have:=aD.out;have:=aG.out;omega⟩,⟨sR<|Kd.JC cT.out (fun _ hk=>trivial)⟩,⟨sR<|a7.out⟩,⟨sR<|Kd.JC a6.out (fun _ hk=>trivial)⟩,⟨bW⟩⟩
   rw[if_neg aY]at H
   have bZ:decide (2<(a8.length:Int))=false:=decide_eq_false aY
   have bV:decide (2<a8.length)=false:=decide_eq_false oM
   clear aY
   replace H:=iP H;obtain⟨cY,H⟩:=H
   have cO:=am cY
   clear cY
   generalize bB:a9++[(⟨((kA l0 a0).f0),((kA l0 a0).f1),((kA l0 a0).f2),a1,((kA l0 a0).f4),((kA l0 a0).f5)⟩:S31)]=d2 at H
   have cJ:=am bB.symm;clear bB
   replace H:=am H
   have dJ:=cf6 a2.out
   go_wp2_with (((with_reducible refine kZ (b:= .append) (xs:= #[.tmp 66,.tmp 68]) rfl ?_);at_builtin;refine Kd.JQ k31 (w0:=w) w.heap.size rfl (.tmp 66) (.tmp 68) 24 33 (.agg #[(.int .i64 0),(.int .i64 0),(.int .i64 0),(.int .i64 0),(.int .i64 0),(.int .i64 0)]) 48 rfl Tryz.underlying24 yT rfl (by decide) oM (.slice aV a9.length aU) a9 (⟨((kA l0 a0).f0),((kA l0 a0).f1),((kA l0 a0).f2),a1,((kA l0 a0).f4),((kA l0 a0).f5)⟩:S31) [.int .i64 ((kA l0 a0).f0),.int .i64 ((kA l0 a0).f1),.int .i64 ((kA l0 a0).f2),.int .i64 a1,.int .i64 ((kA l0 a0).f4),.int .i64 ((kA l0 a0).f5)] (fun k_=>k_≠a5) (fun _=>False) rfl rfl ?aP (fun _ hk=>hk.elim) ?aF ?aO ?aB ?aS ?aL ?_;(case aP=>exact vE _ _ _ (⟨((kA l0 a0).f0),((kA l0 a0).f1),((kA l0 a0).f2),a1,((kA l0 a0).f4),((kA l0 a0).f5)⟩:S31));(case aB=>exact(by exact bW));(case aF=>exact(fun k_ hk=>Kd.YG (g:=a5) (o:= .cells #[.int .i64 ((kA l0 a0).f0),.int .i64 ((kA l0 a0).f1),.int .i64 ((kA l0 a0).f2),.int .i64 a1,.int .i64 ((kA l0 a0).f4),.int .i64 ((kA l0 a0).f5)] 33 (0,0)) (by exact sB<|a2.out) k_ hk));(case aO=>exact(by exact sR<|a4.out));(case aS=>exact(kG (by exact bW)));(case aL=>have:=cO.out;omega);intro e2 w54 ho hb hg hat;rw[← cJ.out]at ho;replace a7:=oV a7 a4 hg;replace a6:=oV a6 a4 hg;replace aE:=oV aE a4 hg;replace a2:=am (qT (g:=a5) (o:= .cells #[.int .i64 ((kA l0 a0).f0),.int .i64 ((kA l0 a0).f1),.int .i64 ((kA l0 a0).f2),.int .i64 a1,.int .i64 ((kA l0 a0).f4),.int .i64 ((kA l0 a0).f5)] 33 (0,0)) (by exact sB<|a2.out) hg (Kd.YD a4.out (fun _ hk=>hk)));replace HB:=am hb;have cS:=am ho;clear a4;clear ho hb hg hat))
   go_roundg b1
   case measure=>have:=aD.out;have:=aG.out;omega
   case rel=>exact⟨d2,a3,(wrap64 (a0+1)),rfl,H,⟨by have:=aD.out;have:=aG.out;omega⟩,⟨sR<|Kd.JC cS.out (fun _ hk=>trivial)⟩,⟨sR<|a7.out⟩,⟨sR<|Kd.JC a6.out (fun _ hk=>trivial)⟩,⟨bW⟩⟩
mutual
def tR:Nat→List (S31)→List Int→List (List Int)→Int→Option (Bool)
 | 0,_,_,_,_=>none
 | k+1,x0,x1,x5,x6=>if x6<(x0.length:Int)then(if 0≤x6 then((sZ k ((kA x0 x6).f0) ((kA x0 x6).f1) ((kA x0 x6).f2) ((kA x0 x6).f3) ((kA x0 x6).f4) ((kA x0 x6).f5)).bind fun aG=>(sJ k x0 x1 x5 x6 (([]:List Int)) aG 0 ((kA x0 x6).f0) ((kA x0 x6).f1) ((kA x0 x6).f2) ((kA x0 x6).f3) ((kA x0 x6).f4) ((kA x0 x6).f5)))else(none))else(tQ k x0 x1 x5 0)
def sJ:Nat→List (S31)→List Int→List (List Int)→Int→List Int→List Int→Int→Int→Int→Int→Int→Int→Int→Option (Bool)
 | 0,_,_,_,_,_,_,_,_,_,_,_,_,_=>none
 | k+1,x0,x1,x5,x6,x8,x9,a6,a1,a3,a0,a5,a2,a4=>if a6<8 then(if a1=1 then(uV k x0 x1 x5 x6 x8 x9 a6 0 (a0==a6) a1 a3 a0 a5 a2 a4)else(uV k x0 x1 x5 x6 x8 x9 a6 0 false a1 a3 a0 a5 a2 a4))else(if x5.length<5864062014805 then(tR k x0 x1 (x5++[x8]) (wrap64 (x6+1)))else(none))
def uV:Nat→List (S31)→List Int→List (List Int)→Int→List Int→List Int→Int→Int→Bool→Int→Int→Int→Int→Int→Int→Option (Bool)
 | 0,_,_,_,_,_,_,_,_,_,_,_,_,_,_,_=>none
 | k+1,x0,x1,x5,x6,x8,x9,a6,a8,aI,a1,a3,a0,a5,a2,a4=>if aI=true then((kY k a3).bind fun aF=>(uU k x0 x1 x5 x6 x8 x9 a6 aF a1 a3 a0 a5 a2 a4))else(uU k x0 x1 x5 x6 x8 x9 a6 a8 a1 a3 a0 a5 a2 a4)
def uU:Nat→List (S31)→List Int→List (List Int)→Int→List Int→List Int→Int→Int→Int→Int→Int→Int→Int→Int→Option (Bool)
 | 0,_,_,_,_,_,_,_,_,_,_,_,_,_,_=>none
 | k+1,x0,x1,x5,x6,x8,x9,a6,a8,a1,a3,a0,a5,a2,a4=>uT k x0 x1 x5 x6 x8 x9 a6 a8 0 a1 a3 a0 a5 a2 a4
def uT:Nat→List (S31)→List Int→List (List Int)→Int→List Int→List Int→Int→Int→Int→Int→Int→Int→Int→Int→Int→Option (Bool)
 | 0,_,_,_,_,_,_,_,_,_,_,_,_,_,_,_=>none
 | k+1,x0,x1,x5,x6,x8,x9,a6,a8,a9,a1,a3,a0,a5,a2,a4=>if a9<(x9.length:Int)then(if 0≤a9 then(if 0≤(rd x9 a9)then(if(rd x9 a9)<(x5.length:Int)then(if 0≤a6 then(if a6<((a2q x5 (rd x9 a9)).length:Int)then(uT k x0 x1 x5 x6 x8 x9 a6 (Go.bits .or .i64 a8 (rd (a2q x5 (rd x9 a9)) a6)) (wrap64 (a9+1)) a1 a3 a0 a5 a2 a4)else(none))else(none))else(none))else(none))else(none))else((rH a1).bind fun aE=>(if aE=true then(qN k x0 x1 x5 x6 x8 x9 a6 a8 (a0==a6) a1 a3 a0 a5 a2 a4)else(qN k x0 x1 x5 x6 x8 x9 a6 a8 false a1 a3 a0 a5 a2 a4)))
def qN:Nat→List (S31)→List Int→List (List Int)→Int→List Int→List Int→Int→Int→Bool→Int→Int→Int→Int→Int→Int→Option (Bool)
 | 0,_,_,_,_,_,_,_,_,_,_,_,_,_,_,_=>none
 | k+1,x0,x1,x5,x6,x8,x9,a6,a8,aH,a1,a3,a0,a5,a2,a4=>if aH=true then(if a8=0 then(if x8.length<17592186044416 then(sJ k x0 x1 x5 x6 (x8++[0]) x9 (wrap64 (a6+1)) a1 a3 a0 a5 a2 a4)else(none))else((kY k a2).bind fun aD=>(if a8=aD then(if x8.length<17592186044416 then(sJ k x0 x1 x5 x6 (x8++[0]) x9 (wrap64 (a6+1)) a1 a3 a0 a5 a2 a4)else(none))else(some false))))else(if x8.length<17592186044416 then(sJ k x0 x1 x5 x6 (x8++[a8]) x9 (wrap64 (a6+1)) a1 a3 a0 a5 a2 a4)else(none))
def tQ:Nat→List (S31)→List Int→List (List Int)→Int→Option (Bool)
 | 0,_,_,_,_=>none
 | k+1,x0,x1,x5,a7=>if a7<8 then(rG k x0 x1 x5 a7 1)else(some true)
def rG:Nat→List (S31)→List Int→List (List Int)→Int→Int→Option (Bool)
 | 0,_,_,_,_,_=>none
 | k+1,x0,x1,x5,a7,aA=>if aA≤8 then(if 0≤(wrap64 ((x0.length:Int)-1))then(if(wrap64 ((x0.length:Int)-1))<(x5.length:Int)then(if 0≤a7 then(if a7<((a2q x5 (wrap64 ((x0.length:Int)-1))).length:Int)then((kY k aA).bind fun aB=>(if aB=0 then(none)else(if(Int.tmod (wrap64 (Int.tdiv (rd (a2q x5 (wrap64 ((x0.length:Int)-1))) a7) aB)) 2)=1 then(if a7<(x1.length:Int)then((rV k aA (rd x1 a7)).bind fun aC=>(if aC=true then(rG k x0 x1 x5 a7 (wrap64 (aA+1)))else(some false)))else(none))else(rG k x0 x1 x5 a7 (wrap64 (aA+1))))))else(none))else(none))else(none))else(none))else(tQ k x0 x1 x5 (wrap64 (a7+1)))
end
def wV(k:Nat)(l0:List (S31))(l1:List Int):Option (Bool):=tR k l0 l1 (([]:List (List Int))) 0
theorem c5y{P:Prop}(h:P:=by
 go_roundg k3
 case measure=>have:=aJ.out;have:=aE.out;have:=cN.out;omega
 case rel=>exact⟨(wrap64 (b1+1)),rfl,H,⟨by have:=aJ.out;have:=aE.out;have:=cN.out;omega⟩,⟨by exact sS<|a1.out⟩,⟨sW HB.out⟩⟩):P:=h
theorem KKi{k:Nat}{A0:Option Addr}{c0:Nat}{l0:List (S31)}{A1:Option Addr}{c1:Nat}{l1:List Int}{r:Bool}{w:World}(hr0:Kd.C k31 w A0 l0.length l0)(hc0:l0.length≤c0)(hr1:Kd.C (Kd.int .i64) w A1 l1.length l1)(hc1:l1.length≤c1)(h:wV k l0 l1=some r) :
  Calls Tryz.prog 22 #[.slice A0 l0.length c0,.slice A1 l1.length c1] w fun e w'=>e= .returned (.bool r)∧Below w.heap.size w w':=by
 have hu31:=Tryz.underlying33
 have eV:=am hr0
 have g8:=am hc0
 clear hr0 hc0
 have bH:=am hr1
 have g7:=am hc1
 clear hr1 hc1
 have HB:=am (Below.refl w.heap.size w)
 have H:=h
 clear h
 unfold wV at H
 generalize cF:([]:List (List Int))=e2 at H
 have dG:=am cF.symm;clear cF
 replace H:=am H
 go_enter Tryz.func22,Tryz.ntmps22
 go_wp2_with (((with_reducible refine pU (N:=15) rfl ?_);refine Kd.S_lit (Kd.slice 3 (Kd.int .i64)) _ 25 ?hg (N:=15) ?hd (xs:=([]:List (List Int))) (inner:=[]) (ok:=fun _=>True) (okp:=fun _=>True) ?hr ?hp (fun _ hk=>hk) trivial (Below.refl _ _) (Nat.le_refl _) (by simp) ?_;(case hd=>rfl);(case hg=>rfl);(case hr=>(go_simp;done));(case hp=>exact(Reps.none _ _));intro fR w3 c_ hb hg_ hnew_;clear hg_ hnew_;(rw[← dG.out]at c_);have dQ:=am (Kd.S_lower c_ (kG (by exact sW HB.out)));replace HB:=hB HB hb;clear hb c_))
 go_loopg [5,6] k (fun kq v5 v6 w' =>∃(a3:List (List Int)) (a0:Int),v6= .int .i64 a0∧Aside0 (tR kq l0 l1 a3 a0=some r)∧Aside0 (kq≤k)∧Aside0 (Kd.S (Kd.slice 3 (Kd.int .i64)) 25 w' w.heap.size (fun _=>True) v5 a3)∧Aside0 (Below w.heap.size w w'))
 case atStart=>exact⟨e2,0,rfl,H,⟨Nat.le_refl _⟩,⟨by exact sS<|dQ.out⟩,⟨sW HB.out⟩⟩
 clear H
 obtain⟨a3,a0,rfl,HA,aJ,a1,HB⟩:=hrel
 cases gk with
 | zero=>cases HA.out
 | succ k1 =>
  obtain⟨H⟩:=HA
  simp only[tR]at H
  replace H:=iD H;rcases H with⟨bS,H⟩|⟨bS,H⟩
  rotate_left
  ·replace H:=am H
   go_wp2
   repeat(go_quiet (fail);try go_wp2)
   go_loopg [13] k1 (fun kq eQ w' =>∃(a8:Int),eQ= .int .i64 a8∧Aside0 (tQ kq l0 l1 a3 a8=some r)∧Aside0 (kq≤k1)∧Aside0 (Kd.S (Kd.slice 3 (Kd.int .i64)) 25 w' w.heap.size (fun _=>True) u5 a3)∧Aside0 (Below w.heap.size w w'))
   case atStart=>exact⟨0,rfl,H,⟨Nat.le_refl _⟩,⟨by exact sS<|a1.out⟩,⟨sW HB.out⟩⟩
   clear H
   clear bS
   obtain⟨a8,rfl,HA,aE,a1,HB⟩:=hrel
   cases gk with
   | zero=>cases HA.out
   | succ k2 =>
    obtain⟨H⟩:=HA
    simp only[tQ]at H
    replace H:=iD H;rcases H with⟨cI,H⟩|⟨cI,H⟩
    rotate_left
    ·obtain rfl:=oI H
     go_wp2
     repeat(go_quiet (fail);try go_wp2)
     go_ret
     exact⟨rfl,sW HB.out⟩
    replace H:=am H
    go_wp2
    repeat(go_quiet (fail);try go_wp2)
    go_loopg [14] k2 (fun kq eP w' =>∃(b1:Int),eP= .int .i64 b1∧Aside0 (rG kq l0 l1 a3 a8 b1=some r)∧Aside0 (kq≤k2)∧Aside0 (Kd.S (Kd.slice 3 (Kd.int .i64)) 25 w' w.heap.size (fun _=>True) u5 a3)∧Aside0 (Below w.heap.size w w'))
    case atStart=>exact⟨1,rfl,H,⟨Nat.le_refl _⟩,⟨by exact sS<|a1.out⟩,⟨sW HB.out⟩⟩
    clear H
    clear cI
    obtain⟨b1,rfl,HA,cN,a1,HB⟩:=hrel
    cases gk with
    | zero=>cases HA.out
    | succ k3 =>
     obtain⟨H⟩:=HA
     simp only[rG]at H
     replace H:=iD H;rcases H with⟨d4,H⟩|⟨d4,H⟩
     rotate_left
     ·replace H:=am H
      go_wp2
      repeat(go_quiet (fail);try go_wp2)
      go_roundg k3
      case measure=>have:=aJ.out;have:=aE.out;have:=cN.out;omega
      case rel=>exact⟨(wrap64 (a8+1)),rfl,H,⟨by have:=aJ.out;have:=aE.out;have:=cN.out;omega⟩,⟨by exact sS<|a1.out⟩,⟨sW HB.out⟩⟩
     generalize d3:wrap64 ((l0.length:Int)-1)=aC at H
     have eT:(IntKind.i64.wrap ((l0.length:Int)-1))=aC:=(vB _).trans d3
     replace H:=iN H;obtain⟨fA,H⟩:=H
     replace H:=iN H;obtain⟨f9,H⟩:=H
     replace H:=iN H;obtain⟨f8,H⟩:=H
     replace H:=iN H;obtain⟨f7,H⟩:=H
     replace H:=oA H;obtain⟨aW,a_,H⟩:=H
     by_cases cH:aW=0
     ·rw[if_pos cH]at H
      exact absurd H (by simp)
     rw[if_neg cH]at H
     have f6:(aW==0)=false:=beq_eq_false_iff_ne.mpr cH
     have eZ:(aW !=0)=true:=bne_iff_ne.mpr cH
     by_cases bB:(Int.tmod (wrap64 (Int.tdiv (rd (a2q a3 (aC)) a8) aW)) 2)=1
     rotate_left
     ·rw[if_neg bB]at H
      have bO:((Int.tmod (wrap64 (Int.tdiv (rd (a2q a3 (aC)) a8) aW)) 2)==1)=false:=beq_eq_false_iff_ne.mpr bB
      have bA:=bO
      simp only[← vB]at bA
      have bN:((Int.tmod (wrap64 (Int.tdiv (rd (a2q a3 (aC)) a8) aW)) 2)!=1)=true:=bne_iff_ne.mpr bB
      have b9:=bN
      simp only[← vB]at b9
      replace H:=am H
      obtain⟨g2,fY,e7⟩:=Kd.YX a1.out
      subst e7
      have aN:0≤((aC):Int):=oD (by assumption)
      have aM:(aC)<(a3.length:Int):=oD (by assumption)
      obtain⟨cM,bQ,bP,b8,aT,hl847_0,hi847_0⟩:=c4d (Kd.YS a1.out).2.2 (aC) aN aM
      cases b8
      obtain⟨ce847,hce847,hMe847,hcc847⟩:=Kd.XI a1.out [] (aC) aN (by exact aM)
      obtain⟨ve847_0,rfl,ge847_0⟩:=hMe847
      have hv847_0:=hcc847 0 _ rfl
      rw[Nat.add_zero,show((Kd.slice 3 (Kd.int .i64))).sz=1 from rfl,Nat.mul_one]at hv847_0
      replace hv847_0:=oI (hv847_0.symm.trans aT)
      rw[hv847_0]at ge847_0
      have HL847_0:=am (show Kd.R (Kd.int .i64) 3 _ _ _ _ (a2q a3 (aC))from ge847_0)
      clear hv847_0 ge847_0
      clear hcc847 hce847
      have aI:=am hi847_0
      have bI:=am hl847_0
      clear hi847_0 hl847_0
      replace aN:=eq_true aN
      replace aM:=eq_true aM
      obtain⟨cY,cX,cL,rfl,bF⟩:=ix (Kd.JD (by repeat(first|(with_reducible exact aI.out)|(with_reducible refine Kd.YU ?_ _)|(with_reducible refine Kd.XA ?_ _)|(with_reducible refine Kd.YY ?_)|exact aI.out)) a8)
      go_wp2_with ((go_at_call 46;refine cD (JCi a_.out) fun nd=>?_;(try exact dq)))
      repeat(go_quiet ((go_at_call 46;refine cD (JCi a_.out) fun nd=>?_;(try exact dq)));try go_wp2_with ((go_at_call 46;refine cD (JCi a_.out) fun nd=>?_;(try exact dq))))
      exact c5y
     rw[if_pos bB]at H
     have bO:((Int.tmod (wrap64 (Int.tdiv (rd (a2q a3 (aC)) a8) aW)) 2)==1)=true:=beq_iff_eq.mpr bB
     have bA:=bO
     simp only[← vB]at bA
     have bN:((Int.tmod (wrap64 (Int.tdiv (rd (a2q a3 (aC)) a8) aW)) 2)!=1)=false:=bne_eq_false_iff_eq.mpr bB
     have b9:=bN
     simp only[← vB]at b9
     clear bB
     replace H:=iN H;obtain⟨eY,H⟩:=H
     replace H:=oA H;obtain⟨fS,bJ,H⟩:=H
     replace H:=iB H;rcases H with⟨rfl,H⟩|⟨rfl,H⟩
     ·replace H:=am H
      obtain⟨g4,f_,e9⟩:=Kd.YX a1.out
      subst e9
      have aN:0≤((aC):Int):=oD (by assumption)
      have aM:(aC)<(a3.length:Int):=oD (by assumption)
      obtain⟨cM,bQ,bP,b8,aT,hl847_0,hi847_0⟩:=c4d (Kd.YS a1.out).2.2 (aC) aN aM
      cases b8
      obtain⟨ce847,hce847,hMe847,hcc847⟩:=Kd.XI a1.out [] (aC) aN (by exact aM)
      obtain⟨ve847_0,rfl,ge847_0⟩:=hMe847
      have hv847_0:=hcc847 0 _ rfl
      rw[Nat.add_zero,show((Kd.slice 3 (Kd.int .i64))).sz=1 from rfl,Nat.mul_one]at hv847_0
      replace hv847_0:=oI (hv847_0.symm.trans aT)
      rw[hv847_0]at ge847_0
      have HL847_0:=am (show Kd.R (Kd.int .i64) 3 _ _ _ _ (a2q a3 (aC))from ge847_0)
      clear hv847_0 ge847_0
      clear hcc847 hce847
      have aI:=am hi847_0
      have bI:=am hl847_0
      clear hi847_0 hl847_0
      replace aN:=eq_true aN
      replace aM:=eq_true aM
      obtain⟨cY,cX,cL,rfl,bF⟩:=ix (Kd.JD (by repeat(first|(with_reducible exact aI.out)|(with_reducible refine Kd.YU ?_ _)|(with_reducible refine Kd.XA ?_ _)|(with_reducible refine Kd.YY ?_)|exact aI.out)) a8)
      go_wp2_with (first|(go_at_call 46;refine cD (JCi a_.out) fun nd=>?_;(try exact dq);obtain⟨b7,b6,aZ,rfl,a4⟩:=ix (Kd.JD bH.out a8);replace a4:=kC HB.out a4)|(go_at_call 47;refine cD (JGi bJ.out) fun nd=>?_;(try exact dq)))
      repeat(go_quiet (first|(go_at_call 46;refine cD (JCi a_.out) fun nd=>?_;(try exact dq);obtain⟨b7,b6,aZ,rfl,a4⟩:=ix (Kd.JD bH.out a8);replace a4:=kC HB.out a4)|(go_at_call 47;refine cD (JGi bJ.out) fun nd=>?_;(try exact dq)));try go_wp2_with (first|(go_at_call 46;refine cD (JCi a_.out) fun nd=>?_;(try exact dq);obtain⟨b7,b6,aZ,rfl,a4⟩:=ix (Kd.JD bH.out a8);replace a4:=kC HB.out a4)|(go_at_call 47;refine cD (JGi bJ.out) fun nd=>?_;(try exact dq))))
      exact c5y
     obtain rfl:=oI H
     obtain⟨g3,fZ,e8⟩:=Kd.YX a1.out
     subst e8
     have aN:0≤((aC):Int):=oD (by assumption)
     have aM:(aC)<(a3.length:Int):=oD (by assumption)
     obtain⟨cM,bQ,bP,b8,aT,hl847_0,hi847_0⟩:=c4d (Kd.YS a1.out).2.2 (aC) aN aM
     cases b8
     obtain⟨ce847,hce847,hMe847,hcc847⟩:=Kd.XI a1.out [] (aC) aN (by exact aM)
     obtain⟨ve847_0,rfl,ge847_0⟩:=hMe847
     have hv847_0:=hcc847 0 _ rfl
     rw[Nat.add_zero,show((Kd.slice 3 (Kd.int .i64))).sz=1 from rfl,Nat.mul_one]at hv847_0
     replace hv847_0:=oI (hv847_0.symm.trans aT)
     rw[hv847_0]at ge847_0
     have HL847_0:=am (show Kd.R (Kd.int .i64) 3 _ _ _ _ (a2q a3 (aC))from ge847_0)
     clear hv847_0 ge847_0
     clear hcc847 hce847
     have aI:=am hi847_0
     have bI:=am hl847_0
     clear hi847_0 hl847_0
     replace aN:=eq_true aN
     replace aM:=eq_true aM
     obtain⟨cY,cX,cL,rfl,bF⟩:=ix (Kd.JD (by repeat(first|(with_reducible exact aI.out)|(with_reducible refine Kd.YU ?_ _)|(with_reducible refine Kd.XA ?_ _)|(with_reducible refine Kd.YY ?_)|exact aI.out)) a8)
     go_wp2_with (first|(go_at_call 46;refine cD (JCi a_.out) fun nd=>?_;(try exact dq);obtain⟨b7,b6,aZ,rfl,a4⟩:=ix (Kd.JD bH.out a8);replace a4:=kC HB.out a4)|(go_at_call 47;refine cD (JGi bJ.out) fun nd=>?_;(try exact dq)))
     repeat(go_quiet (first|(go_at_call 46;refine cD (JCi a_.out) fun nd=>?_;(try exact dq);obtain⟨b7,b6,aZ,rfl,a4⟩:=ix (Kd.JD bH.out a8);replace a4:=kC HB.out a4)|(go_at_call 47;refine cD (JGi bJ.out) fun nd=>?_;(try exact dq)));try go_wp2_with (first|(go_at_call 46;refine cD (JCi a_.out) fun nd=>?_;(try exact dq);obtain⟨b7,b6,aZ,rfl,a4⟩:=ix (Kd.JD bH.out a8);replace a4:=kC HB.out a4)|(go_at_call 47;refine cD (JGi bJ.out) fun nd=>?_;(try exact dq))))
     go_ret
     exact⟨rfl,sW HB.out⟩
  replace H:=iN H;obtain⟨eC,H⟩:=H
  generalize cE:([]:List Int)=e1 at H
  have dF:=am cE.symm;clear cE
  replace H:=oA H;obtain⟨a6,A7,H⟩:=H
  replace H:=am H
  obtain⟨e5,e4,fJ,rfl,cU,cT,cS,cR,cQ,cP⟩:=ix (pE (Kd.JE eV.out HB.out) a0)
  go_wp2_with (first|(go_at_call 45;refine(JRi A7.out).mono ?_;rintro e w13 ⟨aH,rfl,cG,hb⟩;replace a1:=am (Kd.XJ (by exact sS<|a1.out) (Kd.JX cG) hb);have dP:=am (Kd.JF (Kd.JN cG (Kd.JM (by exact sR<|b2.out))) (kG (by exact bW)));replace b2:=rE b2 cG hb;replace a2:=gB a2 hb;replace HB:=hX hb;(try clear hb);(try clear cG))|((with_reducible refine gW ?_);first|(refine bX 7 33 #[.int .i64 0,.int .i64 0,.int .i64 0,.int .i64 0,.int .i64 0,.int .i64 0] ?_;intro aG hg w8 hbox hb;replace a1:=am (Kd.XN (by exact sS<|a1.out) hb);have a2:=am hbox;have fK:=gw hg;have fL:=gw hg;replace HB:=hB HB hb;clear hb hbox hg;have d0:=cf6 a2.out)|(refine lE (Kd.int .i64) 3 26 ?_;intro fQ w10 bM hb;(rw[← dF.out]at bM);replace a1:=am (Kd.XJ (by exact sS<|(Kd.YA (Kd.XH (p:=⟨aG,5,none⟩) (Kd.XH (p:=⟨aG,4,none⟩) (Kd.XH (p:=⟨aG,3,none⟩) (Kd.XH (p:=⟨aG,2,none⟩) (Kd.XH (p:=⟨aG,1,none⟩) (Kd.XH (p:=⟨aG,0,none⟩) (Kd.S_types a1.out a2.out (by decide)) (fun _ hk=>hk.2) (.int .i64 ((kA l0 a0).f0))) (fun _ hk=>hk.2) (.int .i64 ((kA l0 a0).f1))) (fun _ hk=>hk.2) (.int .i64 ((kA l0 a0).f2))) (fun _ hk=>hk.2) (.int .i64 ((kA l0 a0).f3))) (fun _ hk=>hk.2) (.int .i64 ((kA l0 a0).f4))) (fun _ hk=>hk.2) (.int .i64 ((kA l0 a0).f5))) (fun _ h_=>h_.1))) (Kd.JX bM) hb);have b2:=am (Kd.JF bM (kG (by exact bW)));replace a2:=am (kJ (by exact sB<|pn (by exact sB<|a2.out)) hb);replace HB:=hX hb;clear hb bM;have cV:=cf6 a2.out)))
  go_loopg [8,10] k1 (fun kq v8 eS w' =>∃(aA:List Int) (aD:Int),eS= .int .i64 aD∧Aside0 (sJ kq l0 l1 a3 a0 aA a6 aD ((kA l0 a0).f0) ((kA l0 a0).f1) ((kA l0 a0).f2) ((kA l0 a0).f3) ((kA l0 a0).f4) ((kA l0 a0).f5)=some r)∧Aside0 (kq≤k1)∧Aside0 (Kd.S (Kd.slice 3 (Kd.int .i64)) 25 w' w.heap.size (fun k_=>some k_≠(v8:Value).ownBlock∧some k_≠(aH:Value).ownBlock) u5 a3)∧Aside0 (Kd.R (Kd.int .i64) 3 w' w.heap.size (fun k_=>some k_≠(aH:Value).ownBlock) v8 aA)∧Aside0 (Kd.R (Kd.int .i64) 3 w' w.heap.size (fun k_=>some k_≠(v8:Value).ownBlock) aH a6)∧Aside0 (w'.heap[aG]? = some (.cells #[.int .i64 ((kA l0 a0).f0),.int .i64 ((kA l0 a0).f1),.int .i64 ((kA l0 a0).f2),.int .i64 ((kA l0 a0).f3),.int .i64 ((kA l0 a0).f4),.int .i64 ((kA l0 a0).f5)] 33 (0,0)))∧Aside0 (Below w.heap.size w w'))
  case atStart=>exact⟨e1,0,rfl,H,⟨Nat.le_refl _⟩,⟨by exact sS<|Kd.YA a1.out (fun _ hk=>⟨hk.1.2,hk.2⟩)⟩,⟨sR<|Kd.JC b2.out (fun _ hk=>hk.2)⟩,⟨sR<|Kd.JC dP.out (fun _ hk=>hk.2)⟩,⟨sB<|a2.out⟩,⟨bW⟩⟩
  clear H
  clear bS eC cV d0 cU cT cS cR cQ cP e5 e4
  obtain⟨aA,aD,rfl,HA,aE,a1,a7,a5,a2,HB⟩:=hrel
  cases gk with
  | zero=>cases HA.out
  | succ k2 =>
   obtain⟨H⟩:=HA
   simp only[sJ]at H
   replace H:=iD H;rcases H with⟨cK,H⟩|⟨cK,H⟩
   rotate_left
   ·replace H:=iP H;obtain⟨dS,H⟩:=H
    have dH:=am dS
    clear dS
    generalize cC:a3++[aA]=e0 at H
    have dE:=am cC.symm;clear cC
    replace H:=am H
    obtain⟨d2,d1,rfl⟩:=Kd.JB a7.out
    go_wp2_with (((with_reducible refine kZ (b:= .append) (xs:= #[.tmp 85,.tmp 87]) rfl ?_);at_builtin;refine Kd.S_append (Kd.slice 3 (Kd.int .i64)) (w0:=w) w.heap.size rfl (.tmp 85) (.tmp 87) 72 25 (.slice none 0 0) 24 rfl Tryz.underlying72 d6h rfl (by decide) oM u5 a3 aA [.slice d2 aA.length d1] (fun k_=>some k_≠(aH:Value).ownBlock) (fun k_=>some k_=(.slice d2 aA.length d1:Value).ownBlock) rfl rfl ?aP (fun k_ hk_=>((Kd.JC (ok':=fun k_=>((fun k_=>some k_≠(aH:Value).ownBlock)) k_∧some k_≠(u5:Value).ownBlock) (Kd.YN (a7.out) (Kd.XB a1.out) (by decide)) (fun k_ hk=>⟨hk.1,hk.2⟩))).1 k_ hk_.symm) ?aF ?aO ?aB ?aS ?aL ?_;(case aP=>exact Kd.M_row (Kd.JC (Kd.JL rfl (Kd.JC (ok':=fun k_=>((fun k_=>some k_≠(aH:Value).ownBlock)) k_∧some k_≠(u5:Value).ownBlock) (Kd.YN (a7.out) (Kd.XB a1.out) (by decide)) (fun k_ hk=>⟨hk.1,hk.2⟩))) (fun _ h_=>h_)));(case aB=>exact(by exact bW));(case aF=>exact(fun k_ hk=>Kd.JV (Kd.JM (by exact sR<|a5.out)) k_ hk));(case aO=>exact(by exact sS<|Kd.YA a1.out (fun k_ hk=>⟨hk.2,fun e_=>hk.1 e_⟩)));(case aS=>exact(kG (by exact bW)));(case aL=>have:=dH.out;omega);intro fP w50 ho hb hg hat;rw[← dE.out]at ho;replace a5:=am (Kd.JI (by exact sR<|a5.out) (Kd.XB (by exact sS<|a1.out)) (by decide) hg);replace a2:=am (qT (g:=aG) (o:= .cells #[.int .i64 ((kA l0 a0).f0),.int .i64 ((kA l0 a0).f1),.int .i64 ((kA l0 a0).f2),.int .i64 ((kA l0 a0).f3),.int .i64 ((kA l0 a0).f4),.int .i64 ((kA l0 a0).f5)] 33 (0,0)) (by exact sB<|a2.out) hg (Kd.S_ne a1.out a2.out (by decide)));replace HB:=am hb;have dO:=am ho;clear a1 a7;clear ho hb hg hat))
    go_roundg k2
    case measure=>have:=aJ.out;have:=aE.out;omega
    case rel=>exact⟨e0,(wrap64 (a0+1)),rfl,H,⟨by have:=aJ.out;have:=aE.out;omega⟩,⟨by exact sS<|Kd.YA dO.out (fun _ hk=>trivial)⟩,⟨bW⟩⟩
   have bV:=am H;clear H
   go_upto_region 12 with(fail)
   repeat(go_quiet (fail);go_upto_region 12 with(fail))
   go_cut [41] (fun eO wc =>∃(kq:Nat) (b4:Bool),eO= .bool b4∧Aside0 (uV kq l0 l1 a3 a0 aA a6 aD 0 b4 ((kA l0 a0).f0) ((kA l0 a0).f1) ((kA l0 a0).f2) ((kA l0 a0).f3) ((kA l0 a0).f4) ((kA l0 a0).f5)=some r)∧Aside0 (kq≤k2)∧Aside0 (Kd.S (Kd.slice 3 (Kd.int .i64)) 25 wc w.heap.size (fun k_=>some k_≠(u8:Value).ownBlock∧some k_≠(aH:Value).ownBlock) u5 a3)∧Aside0 (Kd.R (Kd.int .i64) 3 wc w.heap.size (fun k_=>some k_≠(aH:Value).ownBlock) u8 aA)∧Aside0 (Kd.R (Kd.int .i64) 3 wc w.heap.size (fun k_=>some k_≠(u8:Value).ownBlock) aH a6)∧Aside0 (wc.heap[aG]? = some (.cells #[.int .i64 ((kA l0 a0).f0),.int .i64 ((kA l0 a0).f1),.int .i64 ((kA l0 a0).f2),.int .i64 ((kA l0 a0).f3),.int .i64 ((kA l0 a0).f4),.int .i64 ((kA l0 a0).f5)] 33 (0,0)))∧Aside0 (Below w.heap.size w wc))
   case first =>
    have H:=bV.out
    clear bV
    by_cases bE:((kA l0 a0).f0)=1
    ·rw[if_pos bE]at H
     have dA:(((kA l0 a0).f0)==1)=true:=beq_iff_eq.mpr bE
     have d9:(((kA l0 a0).f0)!=1)=false:=bne_eq_false_iff_eq.mpr bE
     clear bE
     replace H:=am H
     have eL:=cf6 a2.out
     go_wp2
     repeat(go_quiet (fail);try go_wp2)
     go_meet
     case rel=>exact⟨_,((((kA l0 a0).f2)==aD)),rfl,H,⟨by have:=aJ.out;have:=aE.out;omega⟩,⟨by exact sS<|a1.out⟩,⟨sR<|a7.out⟩,⟨sR<|a5.out⟩,⟨sB<|a2.out⟩,⟨bW⟩⟩
    rw[if_neg bE]at H
    have dA:(((kA l0 a0).f0)==1)=false:=beq_eq_false_iff_ne.mpr bE
    have d9:(((kA l0 a0).f0)!=1)=true:=bne_iff_ne.mpr bE
    replace H:=am H
    have eK:=cf6 a2.out
    go_wp2
    repeat(go_quiet (fail);try go_wp2)
    go_meet
    case rel=>exact⟨_,false,rfl,H,⟨by have:=aJ.out;have:=aE.out;omega⟩,⟨by exact sS<|a1.out⟩,⟨sR<|a7.out⟩,⟨sR<|a5.out⟩,⟨sB<|a2.out⟩,⟨bW⟩⟩
   clear bV
   clear cK
   obtain⟨kq,b4,rfl,HA,aQ,a1,a7,a5,a2,HB⟩:=hcut
   cases kq with
   | zero=>cases HA.out
   | succ e6 =>
    obtain⟨H⟩:=HA
    simp only[uV]at H
    have bU:=am H;clear H
    go_upto_if 41 with(fail)
    repeat(go_quiet (fail);go_upto_if 41 with(fail))
    go_cut [11] (fun cW wc =>∃(kq:Nat) (aY:Int),cW= .int .i64 aY∧Aside0 (uU kq l0 l1 a3 a0 aA a6 aD aY ((kA l0 a0).f0) ((kA l0 a0).f1) ((kA l0 a0).f2) ((kA l0 a0).f3) ((kA l0 a0).f4) ((kA l0 a0).f5)=some r)∧Aside0 (kq≤e6)∧Aside0 (Kd.S (Kd.slice 3 (Kd.int .i64)) 25 wc w.heap.size (fun k_=>some k_≠(u8:Value).ownBlock∧some k_≠(aH:Value).ownBlock) u5 a3)∧Aside0 (Kd.R (Kd.int .i64) 3 wc w.heap.size (fun k_=>some k_≠(aH:Value).ownBlock) u8 aA)∧Aside0 (Kd.R (Kd.int .i64) 3 wc w.heap.size (fun k_=>some k_≠(u8:Value).ownBlock) aH a6)∧Aside0 (wc.heap[aG]? = some (.cells #[.int .i64 ((kA l0 a0).f0),.int .i64 ((kA l0 a0).f1),.int .i64 ((kA l0 a0).f2),.int .i64 ((kA l0 a0).f3),.int .i64 ((kA l0 a0).f4),.int .i64 ((kA l0 a0).f5)] 33 (0,0)))∧Aside0 (Below w.heap.size w wc))
    case first =>
     have H:=bU.out
     clear bU
     replace H:=iB H;rcases H with⟨rfl,H⟩|⟨rfl,H⟩
     ·replace H:=oA H;obtain⟨e3,eX,H⟩:=H
      replace H:=am H
      have eJ:=cf6 a2.out
      go_wp2_with ((go_at_call 46;refine cD (JCi eX.out) fun nd=>?_;(try exact dq)))
      go_meet
      case rel=>exact⟨_,e3,rfl,H,⟨by have:=aJ.out;have:=aE.out;have:=aQ.out;omega⟩,⟨by exact sS<|a1.out⟩,⟨sR<|a7.out⟩,⟨sR<|a5.out⟩,⟨sB<|a2.out⟩,⟨bW⟩⟩
     replace H:=am H
     go_wp2
     repeat(go_quiet (fail);try go_wp2)
     go_meet
     case rel=>exact⟨_,0,rfl,H,⟨by have:=aJ.out;have:=aE.out;have:=aQ.out;omega⟩,⟨by exact sS<|a1.out⟩,⟨sR<|a7.out⟩,⟨sR<|a5.out⟩,⟨sB<|a2.out⟩,⟨bW⟩⟩
    clear bU
    obtain⟨kq,aY,rfl,HA,aR,a1,a7,a5,a2,HB⟩:=hcut
    cases kq with
    | zero=>cases HA.out
    | succ cZ =>
     obtain⟨H⟩:=HA
     simp only[uU]at H
     replace H:=am H
     go_wp2
     repeat(go_quiet (fail);try go_wp2)
     go_loopg [11,12] cZ (fun kq cW eR w' =>∃(a9:Int) (aK:Int),cW= .int .i64 a9∧eR= .int .i64 aK∧Aside0 (uT kq l0 l1 a3 a0 aA a6 aD a9 aK ((kA l0 a0).f0) ((kA l0 a0).f1) ((kA l0 a0).f2) ((kA l0 a0).f3) ((kA l0 a0).f4) ((kA l0 a0).f5)=some r)∧Aside0 (kq≤cZ)∧Aside0 (Kd.S (Kd.slice 3 (Kd.int .i64)) 25 w' w.heap.size (fun k_=>some k_≠(u8:Value).ownBlock∧some k_≠(aH:Value).ownBlock) u5 a3)∧Aside0 (Kd.R (Kd.int .i64) 3 w' w.heap.size (fun k_=>some k_≠(aH:Value).ownBlock) u8 aA)∧Aside0 (Kd.R (Kd.int .i64) 3 w' w.heap.size (fun k_=>some k_≠(u8:Value).ownBlock) aH a6)∧Aside0 (w'.heap[aG]? = some (.cells #[.int .i64 ((kA l0 a0).f0),.int .i64 ((kA l0 a0).f1),.int .i64 ((kA l0 a0).f2),.int .i64 ((kA l0 a0).f3),.int .i64 ((kA l0 a0).f4),.int .i64 ((kA l0 a0).f5)] 33 (0,0)))∧Aside0 (Below w.heap.size w w'))
     case atStart=>exact⟨aY,0,rfl,rfl,H,⟨Nat.le_refl _⟩,⟨by exact sS<|a1.out⟩,⟨sR<|a7.out⟩,⟨sR<|a5.out⟩,⟨sB<|a2.out⟩,⟨bW⟩⟩
     clear H
     obtain⟨a9,aK,rfl,rfl,HA,aX,a1,a7,a5,a2,HB⟩:=hrel
     cases gk with
     | zero=>cases HA.out
     | succ k5 =>
      obtain⟨H⟩:=HA
      simp only[uT]at H
      replace H:=iD H;rcases H with⟨cJ,H⟩|⟨cJ,H⟩
      ·replace H:=iN H;obtain⟨fF,H⟩:=H
       replace H:=iN H;obtain⟨fE,H⟩:=H
       replace H:=iN H;obtain⟨fD,H⟩:=H
       replace H:=iN H;obtain⟨fC,H⟩:=H
       replace H:=iN H;obtain⟨fB,H⟩:=H
       replace H:=am H
       obtain⟨g6,g1,rfl⟩:=Kd.JB a5.out
       obtain⟨fX,fV,fI,rfl,eE⟩:=ix (Kd.JD (Kd.JA a5.out).2.2 aK)
       obtain⟨g5,g0,eA⟩:=Kd.YX a1.out
       subst eA
       have bL:0≤((rd a6 aK):Int):=oD (by assumption)
       have bK:(rd a6 aK)<(a3.length:Int):=oD (by assumption)
       obtain⟨fH,eW,eU,eB,cO,hl834_0,hi834_0⟩:=c4d (Kd.YS a1.out).2.2 (rd a6 aK) bL bK
       cases eB
       obtain⟨ce834,hce834,hMe834,hcc834⟩:=Kd.XI a1.out [] (rd a6 aK) bL (by exact bK)
       obtain⟨ve834_0,rfl,ge834_0⟩:=hMe834
       have hv834_0:=hcc834 0 _ rfl
       rw[Nat.add_zero,show((Kd.slice 3 (Kd.int .i64))).sz=1 from rfl,Nat.mul_one]at hv834_0
       replace hv834_0:=oI (hv834_0.symm.trans cO)
       rw[hv834_0]at ge834_0
       have HL834_0:=am (show Kd.R (Kd.int .i64) 3 _ _ _ _ (a2q a3 (rd a6 aK))from ge834_0)
       clear hv834_0 ge834_0
       clear hcc834 hce834
       have bG:=am hi834_0
       have eM:=am hl834_0
       clear hi834_0 hl834_0
       replace bL:=eq_true bL
       replace bK:=eq_true bK
       obtain⟨fW,fU,fG,rfl,eD⟩:=ix (Kd.JD (by repeat(first|(with_reducible exact bG.out)|(with_reducible refine Kd.YU ?_ _)|(with_reducible refine Kd.XA ?_ _)|(with_reducible refine Kd.YY ?_)|exact bG.out)) aD)
       go_wp2
       repeat(go_quiet (fail);try go_wp2)
       go_roundg k5
       case measure=>have:=aJ.out;have:=aE.out;have:=aQ.out;have:=aR.out;have:=aX.out;omega
       case rel=>exact⟨(Go.bits .or .i64 a9 (rd (a2q a3 (rd a6 aK)) aD)),(wrap64 (aK+1)),rfl,rfl,H,⟨by have:=aJ.out;have:=aE.out;have:=aQ.out;have:=aR.out;have:=aX.out;omega⟩,⟨by exact sS<|a1.out⟩,⟨sR<|a7.out⟩,⟨sR<|a5.out⟩,⟨sB<|a2.out⟩,⟨bW⟩⟩
      have bT:=am H;clear H
      obtain⟨aV,aU,rfl⟩:=Kd.JB a5.out
      go_upto_region 18 with(fail)
      repeat(go_quiet (fail);go_upto_region 18 with(fail))
      go_cut [71] (fun eN wc =>∃(kq:Nat) (b3:Bool),eN= .bool b3∧Aside0 (qN kq l0 l1 a3 a0 aA a6 aD a9 b3 ((kA l0 a0).f0) ((kA l0 a0).f1) ((kA l0 a0).f2) ((kA l0 a0).f3) ((kA l0 a0).f4) ((kA l0 a0).f5)=some r)∧Aside0 (kq≤k5)∧Aside0 (Kd.S (Kd.slice 3 (Kd.int .i64)) 25 wc w.heap.size (fun k_=>some k_≠(u8:Value).ownBlock∧some k_≠((.slice aV a6.length aU):Value).ownBlock) u5 a3)∧Aside0 (Kd.R (Kd.int .i64) 3 wc w.heap.size (fun k_=>some k_≠((.slice aV a6.length aU):Value).ownBlock) u8 aA)∧Aside0 (Kd.R (Kd.int .i64) 3 wc w.heap.size (fun k_=>some k_≠(u8:Value).ownBlock) (.slice aV a6.length aU) a6)∧Aside0 (wc.heap[aG]? = some (.cells #[.int .i64 ((kA l0 a0).f0),.int .i64 ((kA l0 a0).f1),.int .i64 ((kA l0 a0).f2),.int .i64 ((kA l0 a0).f3),.int .i64 ((kA l0 a0).f4),.int .i64 ((kA l0 a0).f5)] 33 (0,0)))∧Aside0 (Below w.heap.size w wc))
      case first =>
       have H:=bT.out
       clear bT
       replace H:=oA H;obtain⟨fT,dX,H⟩:=H
       replace H:=iB H;rcases H with⟨rfl,H⟩|⟨rfl,H⟩
       ·replace H:=am H
        have eI:=cf6 a2.out
        go_wp2_with ((go_at_call 21;refine cD (JOi dX.out) fun nd=>?_;(try exact dq)))
        go_meet
        case rel=>exact⟨_,((((kA l0 a0).f2)==aD)),rfl,H,⟨by have:=aJ.out;have:=aE.out;have:=aQ.out;have:=aR.out;have:=aX.out;omega⟩,⟨by exact sS<|a1.out⟩,⟨sR<|a7.out⟩,⟨sR<|a5.out⟩,⟨sB<|a2.out⟩,⟨bW⟩⟩
       replace H:=am H
       have eH:=cf6 a2.out
       go_wp2_with ((go_at_call 21;refine cD (JOi dX.out) fun nd=>?_;(try exact dq)))
       go_meet
       case rel=>exact⟨_,false,rfl,H,⟨by have:=aJ.out;have:=aE.out;have:=aQ.out;have:=aR.out;have:=aX.out;omega⟩,⟨by exact sS<|a1.out⟩,⟨sR<|a7.out⟩,⟨sR<|a5.out⟩,⟨sB<|a2.out⟩,⟨bW⟩⟩
      clear bT
      clear cJ
      obtain⟨kq,b3,rfl,HA,b0,a1,a7,a5,a2,HB⟩:=hcut
      cases kq with
      | zero=>cases HA.out
      | succ bR =>
       obtain⟨H⟩:=HA
       simp only[qN]at H
       replace H:=iB H;rcases H with⟨rfl,H⟩|⟨rfl,H⟩
       rotate_left
       ·replace H:=iP H;obtain⟨dT,H⟩:=H
        have dI:=am dT
        clear dT
        generalize bZ:aA++[a9]=dY at H
        have dB:=am bZ.symm;clear bZ
        replace H:=am H
        go_wp2_with (((with_reducible refine kZ (b:= .append) (xs:= #[.tmp 81,.tmp 83]) rfl ?_);at_builtin;refine Kd.JQ (Kd.int .i64) (w0:=w) w.heap.size rfl (.tmp 81) (.tmp 83) 25 3 (.int .i64 0) 8 rfl Tryz.underlying25 a4h rfl (by decide) oM u8 aA a9 [.int .i64 a9] (fun k_=>some k_≠(.slice aV a6.length aU:Value).ownBlock) (fun _=>False) rfl rfl ?aP (fun _ hk=>hk.elim) ?aF ?aO ?aB ?aS ?aL ?_;(case aP=>exact rfl);(case aB=>exact(by exact bW));(case aF=>exact(fun k_ hk=>Kd.JV (Kd.JM (by exact sR<|a5.out)) k_ hk));(case aO=>exact(by exact sR<|a7.out));(case aS=>exact(kG (by exact bW)));(case aL=>have:=dI.out;omega);intro fM w48 ho hb hg hat;rw[← dB.out]at ho;replace a1:=am (Kd.YP (ok:=(fun k_=>some k_≠(.slice aV a6.length aU:Value).ownBlock)) (by exact sS<|Kd.YA a1.out (fun _ hk=>⟨hk.2,hk.1⟩)) hg hat);replace a5:=am (Kd.JW (ok:=(fun _=>True)) (by exact sR<|Kd.JC a5.out (fun _ hk=>⟨trivial,hk⟩)) hg hat);replace a2:=gG a2 hg a7;replace HB:=am hb;have dL:=am ho;clear a7;clear ho hb hg hat))
        go_roundg bR
        case measure=>have:=aJ.out;have:=aE.out;have:=aQ.out;have:=aR.out;have:=aX.out;have:=b0.out;omega
        case rel=>exact⟨dY,(wrap64 (aD+1)),rfl,H,⟨by have:=aJ.out;have:=aE.out;have:=aQ.out;have:=aR.out;have:=aX.out;have:=b0.out;omega⟩,⟨by exact sS<|Kd.YA a1.out (fun _ hk=>⟨hk.2,hk.1⟩)⟩,⟨sR<|dL.out⟩,⟨sR<|Kd.JC a5.out (fun _ hk=>hk.2)⟩,⟨sB<|a2.out⟩,⟨bW⟩⟩
       by_cases bD:a9=0
       ·rw[if_pos bD]at H
        have d8:(a9==0)=true:=beq_iff_eq.mpr bD
        have d7:(a9 !=0)=false:=bne_eq_false_iff_eq.mpr bD
        clear bD
        replace H:=iP H;obtain⟨dV,H⟩:=H
        have dK:=am dV
        clear dV
        generalize cB:aA++[0]=d_ at H
        have dD:=am cB.symm;clear cB
        replace H:=am H
        go_wp2_with (((with_reducible refine kZ (b:= .append) (xs:= #[.tmp 81,.tmp 83]) rfl ?_);at_builtin;refine Kd.JQ (Kd.int .i64) (w0:=w) w.heap.size rfl (.tmp 81) (.tmp 83) 25 3 (.int .i64 0) 8 rfl Tryz.underlying25 a4h rfl (by decide) oM u8 aA 0 [.int .i64 0] (fun k_=>some k_≠(.slice aV a6.length aU:Value).ownBlock) (fun _=>False) rfl rfl ?aP (fun _ hk=>hk.elim) ?aF ?aO ?aB ?aS ?aL ?_;(case aP=>exact rfl);(case aB=>exact(by exact bW));(case aF=>exact(fun k_ hk=>Kd.JV (Kd.JM (by exact sR<|a5.out)) k_ hk));(case aO=>exact(by exact sR<|a7.out));(case aS=>exact(kG (by exact bW)));(case aL=>have:=dK.out;omega);intro fO w40 ho hb hg hat;rw[← dD.out]at ho;replace a1:=am (Kd.YP (ok:=(fun k_=>some k_≠(.slice aV a6.length aU:Value).ownBlock)) (by exact sS<|Kd.YA a1.out (fun _ hk=>⟨hk.2,hk.1⟩)) hg hat);replace a5:=am (Kd.JW (ok:=(fun _=>True)) (by exact sR<|Kd.JC a5.out (fun _ hk=>⟨trivial,hk⟩)) hg hat);replace a2:=gG a2 hg a7;replace HB:=am hb;have dN:=am ho;clear a7;clear ho hb hg hat))
        go_roundg bR
        case measure=>have:=aJ.out;have:=aE.out;have:=aQ.out;have:=aR.out;have:=aX.out;have:=b0.out;omega
        case rel=>exact⟨d_,(wrap64 (aD+1)),rfl,H,⟨by have:=aJ.out;have:=aE.out;have:=aQ.out;have:=aR.out;have:=aX.out;have:=b0.out;omega⟩,⟨by exact sS<|Kd.YA a1.out (fun _ hk=>⟨hk.2,hk.1⟩)⟩,⟨sR<|dN.out⟩,⟨sR<|Kd.JC a5.out (fun _ hk=>hk.2)⟩,⟨sB<|a2.out⟩,⟨bW⟩⟩
       rw[if_neg bD]at H
       have d8:(a9==0)=false:=beq_eq_false_iff_ne.mpr bD
       have d7:(a9 !=0)=true:=bne_iff_ne.mpr bD
       replace H:=oA H;obtain⟨b5,dW,H⟩:=H
       by_cases bC:a9=b5
       ·rw[if_pos bC]at H
        have d6:(a9==b5)=true:=beq_iff_eq.mpr bC
        have d5:(a9 !=b5)=false:=bne_eq_false_iff_eq.mpr bC
        clear bC
        replace H:=iP H;obtain⟨dU,H⟩:=H
        have dJ:=am dU
        clear dU
        generalize b_:aA++[0]=dZ at H
        have dC:=am b_.symm;clear b_
        replace H:=am H
        have eG:=cf6 a2.out
        go_wp2_with (first|(go_at_call 46;refine cD (JCi dW.out) fun nd=>?_;(try exact dq))|((with_reducible refine kZ (b:= .append) (xs:= #[.tmp 81,.tmp 83]) rfl ?_);at_builtin;refine Kd.JQ (Kd.int .i64) (w0:=w) w.heap.size rfl (.tmp 81) (.tmp 83) 25 3 (.int .i64 0) 8 rfl Tryz.underlying25 a4h rfl (by decide) oM u8 aA 0 [.int .i64 0] (fun k_=>some k_≠(.slice aV a6.length aU:Value).ownBlock) (fun _=>False) rfl rfl ?aP (fun _ hk=>hk.elim) ?aF ?aO ?aB ?aS ?aL ?_;(case aP=>exact rfl);(case aB=>exact(by exact bW));(case aF=>exact(fun k_ hk=>Kd.JV (Kd.JM (by exact sR<|a5.out)) k_ hk));(case aO=>exact(by exact sR<|a7.out));(case aS=>exact(kG (by exact bW)));(case aL=>have:=dJ.out;omega);intro fN w45 ho hb hg hat;rw[← dC.out]at ho;replace a1:=am (Kd.YP (ok:=(fun k_=>some k_≠(.slice aV a6.length aU:Value).ownBlock)) (by exact sS<|Kd.YA a1.out (fun _ hk=>⟨hk.2,hk.1⟩)) hg hat);replace a5:=am (Kd.JW (ok:=(fun _=>True)) (by exact sR<|Kd.JC a5.out (fun _ hk=>⟨trivial,hk⟩)) hg hat);replace a2:=gG a2 hg a7;replace HB:=am hb;have dM:=am ho;clear a7;clear ho hb hg hat))
        go_roundg bR
        case measure=>have:=aJ.out;have:=aE.out;have:=aQ.out;have:=aR.out;have:=aX.out;have:=b0.out;omega
        case rel=>exact⟨dZ,(wrap64 (aD+1)),rfl,H,⟨by have:=aJ.out;have:=aE.out;have:=aQ.out;have:=aR.out;have:=aX.out;have:=b0.out;omega⟩,⟨by exact sS<|Kd.YA a1.out (fun _ hk=>⟨hk.2,hk.1⟩)⟩,⟨sR<|dM.out⟩,⟨sR<|Kd.JC a5.out (fun _ hk=>hk.2)⟩,⟨sB<|a2.out⟩,⟨bW⟩⟩
       rw[if_neg bC]at H
       have d6:(a9==b5)=false:=beq_eq_false_iff_ne.mpr bC
       have d5:(a9 !=b5)=true:=bne_iff_ne.mpr bC
       obtain rfl:=oI H
       have eF:=cf6 a2.out
       go_wp2_with ((go_at_call 46;refine cD (JCi dW.out) fun nd=>?_;(try exact dq)))
       go_ret
       exact⟨rfl,bW⟩
def a0y(k:Nat)(a0:Int)(a1:Int):Option (Int):=(rV k a0 a1).bind fun a3=>(if a3=true then((kY k a0).bind fun a2=>(some (wrap64 ((wrap64 (a2-1))-a1))))else(some 0))
theorem ZJi{k:Nat}{a0 a1 r:Int}{w:World}(h:a0y k a0 a1=some r) :
  Calls Tryz.prog 90 #[.int .i64 a0,.int .i64 a1] w fun e w'=>e= .returned (.int .i64 r)∧Drawn0 w w':=by
 have H:=h
 clear h
 unfold a0y at H
 replace H:=oA H;obtain⟨a3,A3,H⟩:=H
 replace H:=iB H;rcases H with⟨rfl,H⟩|⟨rfl,H⟩
 ·replace H:=oA H;obtain⟨a2,A5,H⟩:=H
  obtain rfl:=oI H
  go_enter Tryz.func90,Tryz.ntmps90
  go_wp2_with (((with_reducible refine gW ?_);first|(refine gD (some 7) Tryz.func47 rfl (JGi A3.out) fun nd=>?_)|(refine gD (some 10) Tryz.func46 rfl (JCi A5.out) fun nd=>?_)))
  go_ret
  exact⟨rfl,dR⟩
 obtain rfl:=oI H
 go_enter Tryz.func90,Tryz.ntmps90
 go_wp2_with (((with_reducible refine gW ?_);refine gD (some 7) Tryz.func47 rfl (JGi A3.out) fun nd=>?_))
 go_ret
 exact⟨rfl,dR⟩
def rN(k:Nat)(a0:Int)(a1:Int)(a2:Int):Option (Bool):=(rV k a0 a1).bind fun a4=>(if a4=true then((rV k a0 a2).bind fun a3=>(some a3))else(some false))
theorem JHi{k:Nat}{a0 a1 a2:Int}{r:Bool}{w:World}(h:rN k a0 a1 a2=some r) :
  Calls Tryz.prog 110 #[.int .i64 a0,.int .i64 a1,.int .i64 a2] w fun e w'=>e= .returned (.bool r)∧Drawn0 w w':=by
 have H:=h
 clear h
 unfold rN at H
 replace H:=oA H;obtain⟨a4,A4,H⟩:=H
 replace H:=iB H;rcases H with⟨rfl,H⟩|⟨rfl,H⟩
 ·replace H:=oA H;obtain⟨a3,A6,H⟩:=H
  obtain rfl:=oI H
  go_enter Tryz.func110,Tryz.ntmps110
  go_wp2_with (first|(go_at_call 47;refine cD (JGi A6.out) fun nd=>?_)|((with_reducible refine gW ?_);refine gD (some 9) Tryz.func47 rfl (JGi A4.out) fun nd=>?_))
  go_ret
  exact⟨rfl,dR⟩
 obtain rfl:=oI H
 go_enter Tryz.func110,Tryz.ntmps110
 go_wp2_with (((with_reducible refine gW ?_);refine gD (some 9) Tryz.func47 rfl (JGi A4.out) fun nd=>?_))
 go_ret
 exact⟨rfl,dR⟩
def a2e(k:Nat)(a0:Int)(a1:Int)(a2:Int):Option (Int):=(rN k a0 a1 a2).bind fun a4=>(if a4=true then((kY k a0).bind fun a3=>(if a3=0 then(none)else(some (Int.tmod (wrap64 (a1+a2)) a3))))else(some 0))
theorem XFi{k:Nat}{a0 a1 a2 r:Int}{w:World}(h:a2e k a0 a1 a2=some r) :
  Calls Tryz.prog 91 #[.int .i64 a0,.int .i64 a1,.int .i64 a2] w fun e w'=>e= .returned (.int .i64 r)∧Drawn0 w w':=by
 have H:=h
 clear h
 unfold a2e at H
 replace H:=oA H;obtain⟨a4,A4,H⟩:=H
 replace H:=iB H;rcases H with⟨rfl,H⟩|⟨rfl,H⟩
 ·replace H:=oA H;obtain⟨a3,A6,H⟩:=H
  by_cases c7:a3=0
  ·rw[if_pos c7]at H
   exact absurd H (by simp)
  rw[if_neg c7]at H
  have a6:(a3==0)=false:=beq_eq_false_iff_ne.mpr c7
  have a5:(a3 !=0)=true:=bne_iff_ne.mpr c7
  obtain rfl:=oI H
  go_enter Tryz.func91,Tryz.ntmps91
  go_wp2_with (((with_reducible refine gW ?_);first|(refine gD (some 10) Tryz.func110 rfl (JHi A4.out) fun nd=>?_)|(refine gD (some 16) Tryz.func46 rfl (JCi A6.out) fun nd=>?_)))
  go_ret
  exact⟨rfl,dR⟩
 obtain rfl:=oI H
 go_enter Tryz.func91,Tryz.ntmps91
 go_wp2_with (((with_reducible refine gW ?_);refine gD (some 10) Tryz.func110 rfl (JHi A4.out) fun nd=>?_))
 go_ret
 exact⟨rfl,dR⟩
def a1v(k:Nat)(a0:Int)(a1:Int)(a2:Int):Option (Int):=(rN k a0 a1 a2).bind fun a5=>(if a5=true then((kY k a0).bind fun a4=>((kY k a0).bind fun a3=>(if a3=0 then(none)else(some (Int.tmod (wrap64 ((wrap64 (a1+a4))-a2)) a3)))))else(some 0))
theorem ZHi{k:Nat}{a0 a1 a2 r:Int}{w:World}(h:a1v k a0 a1 a2=some r) :
  Calls Tryz.prog 92 #[.int .i64 a0,.int .i64 a1,.int .i64 a2] w fun e w'=>e= .returned (.int .i64 r)∧Drawn0 w w':=by
 have H:=h
 clear h
 unfold a1v at H
 replace H:=oA H;obtain⟨a5,A4,H⟩:=H
 replace H:=iB H;rcases H with⟨rfl,H⟩|⟨rfl,H⟩
 ·replace H:=oA H;obtain⟨a4,A6,H⟩:=H
  replace H:=oA H;obtain⟨a3,A7,H⟩:=H
  by_cases c8:a3=0
  ·rw[if_pos c8]at H
   exact absurd H (by simp)
  rw[if_neg c8]at H
  have a7:(a3==0)=false:=beq_eq_false_iff_ne.mpr c8
  have a6:(a3 !=0)=true:=bne_iff_ne.mpr c8
  obtain rfl:=oI H
  go_enter Tryz.func92,Tryz.ntmps92
  go_wp2_with (((with_reducible refine gW ?_);first|(refine gD (some 10) Tryz.func110 rfl (JHi A4.out) fun nd=>?_)|(refine gD (some 14) Tryz.func46 rfl (JCi A6.out) fun nd=>?_)|(refine gD (some 19) Tryz.func46 rfl (JCi A7.out) fun nd=>?_)))
  go_ret
  exact⟨rfl,dR⟩
 obtain rfl:=oI H
 go_enter Tryz.func92,Tryz.ntmps92
 go_wp2_with (((with_reducible refine gW ?_);refine gD (some 10) Tryz.func110 rfl (JHi A4.out) fun nd=>?_))
 go_ret
 exact⟨rfl,dR⟩
def a2c(k:Nat)(a0:Int)(a1:Int)(a2:Int):Option (Int):=(rN k a0 a1 a2).bind fun a4=>(if a4=true then((kY k a0).bind fun a3=>(if a3=0 then(none)else(some (Int.tmod (wrap64 (a1*a2)) a3))))else(some 0))
theorem YZi{k:Nat}{a0 a1 a2 r:Int}{w:World}(h:a2c k a0 a1 a2=some r) :
  Calls Tryz.prog 93 #[.int .i64 a0,.int .i64 a1,.int .i64 a2] w fun e w'=>e= .returned (.int .i64 r)∧Drawn0 w w':=by
 have H:=h
 clear h
 unfold a2c at H
 replace H:=oA H;obtain⟨a4,A4,H⟩:=H
 replace H:=iB H;rcases H with⟨rfl,H⟩|⟨rfl,H⟩
 ·replace H:=oA H;obtain⟨a3,A6,H⟩:=H
  by_cases c7:a3=0
  ·rw[if_pos c7]at H
   exact absurd H (by simp)
  rw[if_neg c7]at H
  have a6:(a3==0)=false:=beq_eq_false_iff_ne.mpr c7
  have a5:(a3 !=0)=true:=bne_iff_ne.mpr c7
  obtain rfl:=oI H
  go_enter Tryz.func93,Tryz.ntmps93
  go_wp2_with (((with_reducible refine gW ?_);first|(refine gD (some 10) Tryz.func110 rfl (JHi A4.out) fun nd=>?_)|(refine gD (some 16) Tryz.func46 rfl (JCi A6.out) fun nd=>?_)))
  go_ret
  exact⟨rfl,dR⟩
 obtain rfl:=oI H
 go_enter Tryz.func93,Tryz.ntmps93
 go_wp2_with (((with_reducible refine gW ?_);refine gD (some 10) Tryz.func110 rfl (JHi A4.out) fun nd=>?_))
 go_ret
 exact⟨rfl,dR⟩
def a2d(k:Nat)(a0:Int)(a1:Int)(a2:Int):Option (Int):=(rN k a0 a1 a2).bind fun a4=>(if a4=true then(if a2=0 then((kY k a0).bind fun a3=>(some (wrap64 (a3-1))))else(some (wrap64 (Int.tdiv a1 a2))))else(some 0))
theorem c5x{P:Prop}(h:P:=by
 obtain rfl:=oI H
 go_enter Tryz.func94,Tryz.ntmps94
 go_wp2_with (((with_reducible refine gW ?_);refine gD (some 10) Tryz.func110 rfl (JHi A4.out) fun nd=>?_))
 go_ret
 exact⟨rfl,dR⟩):P:=h
theorem XWi{k:Nat}{a0 a1 a2 r:Int}{w:World}(h:a2d k a0 a1 a2=some r) :
  Calls Tryz.prog 94 #[.int .i64 a0,.int .i64 a1,.int .i64 a2] w fun e w'=>e= .returned (.int .i64 r)∧Drawn0 w w':=by
 have H:=h
 clear h
 unfold a2d at H
 replace H:=oA H;obtain⟨a6,A4,H⟩:=H
 replace H:=iB H;rcases H with⟨rfl,H⟩|⟨rfl,H⟩
 ·by_cases c6:a2=0
  ·rw[if_pos c6]at H
   have a4:(a2==0)=true:=beq_iff_eq.mpr c6
   have a3:(a2 !=0)=false:=bne_eq_false_iff_eq.mpr c6
   clear c6
   replace H:=oA H;obtain⟨a5,A7,H⟩:=H
   obtain rfl:=oI H
   go_enter Tryz.func94,Tryz.ntmps94
   go_wp2_with (((with_reducible refine gW ?_);first|(refine gD (some 10) Tryz.func110 rfl (JHi A4.out) fun nd=>?_)|(refine gD (some 15) Tryz.func46 rfl (JCi A7.out) fun nd=>?_)))
   go_ret
   exact⟨rfl,dR⟩
  rw[if_neg c6]at H
  have a4:(a2==0)=false:=beq_eq_false_iff_ne.mpr c6
  have a3:(a2 !=0)=true:=bne_iff_ne.mpr c6
  exact c5x
 exact c5x
def a2b(k:Nat)(a0:Int)(a1:Int)(a2:Int):Option (Int):=(rN k a0 a1 a2).bind fun a3=>(if a3=true then(if a2=0 then(some a1)else(some (Int.tmod a1 a2)))else(some 0))
theorem b8g{P:Prop}(h:P:=by
 obtain rfl:=oI H
 go_enter Tryz.func95,Tryz.ntmps95
 go_wp2_with (((with_reducible refine gW ?_);refine gD (some 10) Tryz.func110 rfl (JHi A4.out) fun nd=>?_))
 go_ret
 exact⟨rfl,dR⟩):P:=h
theorem YJi{k:Nat}{a0 a1 a2 r:Int}{w:World}(h:a2b k a0 a1 a2=some r) :
  Calls Tryz.prog 95 #[.int .i64 a0,.int .i64 a1,.int .i64 a2] w fun e w'=>e= .returned (.int .i64 r)∧Drawn0 w w':=by
 have H:=h
 clear h
 unfold a2b at H
 replace H:=oA H;obtain⟨a5,A4,H⟩:=H
 replace H:=iB H;rcases H with⟨rfl,H⟩|⟨rfl,H⟩
 ·by_cases c6:a2=0
  ·rw[if_pos c6]at H
   have a4:(a2==0)=true:=beq_iff_eq.mpr c6
   have a3:(a2 !=0)=false:=bne_eq_false_iff_eq.mpr c6
   clear c6
   exact b8g
  rw[if_neg c6]at H
  have a4:(a2==0)=false:=beq_eq_false_iff_ne.mpr c6
  have a3:(a2 !=0)=true:=bne_iff_ne.mpr c6
  exact b8g
 exact b8g
def a0w:Nat→Int→Int→Int→Bool→Option (Int)
 | 0,_,_,_,_=>none
 | k+1,x0,x1,x2,a2=>if a2=true then(some 0)else((kY k x2).bind fun a1=>((kY k x0).bind fun a0=>(if a0=0 then(none)else(some (Int.tmod (wrap64 (x1*a1)) a0)))))
def a1x(k:Nat)(a0:Int)(a1:Int)(a2:Int):Option (Int):=(rN k a0 a1 a2).bind fun a3=>(if a3=true then(a0w k a0 a1 a2 (decide (a2≥a0)))else(a0w k a0 a1 a2 true))
theorem YHi{k:Nat}{a0 a1 a2 r:Int}{w:World}(h:a1x k a0 a1 a2=some r) :
  Calls Tryz.prog 96 #[.int .i64 a0,.int .i64 a1,.int .i64 a2] w fun e w'=>e= .returned (.int .i64 r)∧Drawn0 w w':=by
 have H:=h
 clear h
 unfold a1x at H
 have a5:=am H;clear H
 go_enter Tryz.func96,Tryz.ntmps96
 go_upto_region 1 with(fail)
 go_cut [16] (fun a6 wc =>∃(kq:Nat) (a3:Bool),a6= .bool a3∧Aside0 (a0w kq a0 a1 a2 a3=some r)∧Aside0 (kq≤k)∧Drawn0 w wc)
 case first =>
  have H:=a5.out
  clear a5
  replace H:=oA H;obtain⟨aA,A5,H⟩:=H
  replace H:=iB H;rcases H with⟨rfl,H⟩|⟨rfl,H⟩
  ·replace H:=am H
   go_wp2_with (((with_reducible refine gW ?_);refine gD (some 10) Tryz.func110 rfl (JHi A5.out) fun nd=>?_))
   go_meet
   case rel=>exact⟨_,(decide (a2≥a0)),rfl,H,⟨oM⟩,dR⟩
  replace H:=am H
  go_wp2_with (((with_reducible refine gW ?_);refine gD (some 10) Tryz.func110 rfl (JHi A5.out) fun nd=>?_))
  go_meet
  case rel=>exact⟨_,true,rfl,H,⟨oM⟩,dR⟩
 clear a5
 obtain⟨kq,a3,rfl,HA,aD,⟨aB,rfl⟩⟩:=hcut
 cases kq with
 | zero=>cases HA.out
 | succ aC =>
  obtain⟨H⟩:=HA
  simp only[a0w]at H
  replace H:=iB H;rcases H with⟨rfl,H⟩|⟨rfl,H⟩
  ·obtain rfl:=oI H
   go_wp2
   go_ret
   exact⟨rfl,dR⟩
  replace H:=oA H;obtain⟨a9,A8,H⟩:=H
  replace H:=oA H;obtain⟨a4,A9,H⟩:=H
  by_cases c10:a4=0
  ·rw[if_pos c10]at H
   exact absurd H (by simp)
  rw[if_neg c10]at H
  have a8:(a4==0)=false:=beq_eq_false_iff_ne.mpr c10
  have a7:(a4 !=0)=true:=bne_iff_ne.mpr c10
  obtain rfl:=oI H
  go_wp2_with (((with_reducible refine gW ?_);first|(refine gD (some 19) Tryz.func46 rfl (JCi A8.out) fun nd=>?_)|(refine gD (some 22) Tryz.func46 rfl (JCi A9.out) fun nd=>?_)))
  go_ret
  exact⟨rfl,dR⟩
def a1w(k:Nat)(a0:Int)(a1:Int)(a2:Int):Option (Int):=(rN k a0 a1 a2).bind fun a4=>(if a4=true then(if a2≥a0 then(some 0)else((kY k a2).bind fun a3=>(if a3=0 then(none)else(some (wrap64 (Int.tdiv a1 a3))))))else(some 0))
theorem c5e{P:Prop}(h:P:=by
 obtain rfl:=oI H
 go_enter Tryz.func97,Tryz.ntmps97
 go_wp2_with (((with_reducible refine gW ?_);refine gD (some 10) Tryz.func110 rfl (JHi A4.out) fun nd=>?_))
 go_ret
 exact⟨rfl,dR⟩):P:=h
theorem YRi{k:Nat}{a0 a1 a2 r:Int}{w:World}(h:a1w k a0 a1 a2=some r) :
  Calls Tryz.prog 97 #[.int .i64 a0,.int .i64 a1,.int .i64 a2] w fun e w'=>e= .returned (.int .i64 r)∧Drawn0 w w':=by
 have H:=h
 clear h
 unfold a1w at H
 replace H:=oA H;obtain⟨a5,A4,H⟩:=H
 replace H:=iB H;rcases H with⟨rfl,H⟩|⟨rfl,H⟩
 rotate_left
 ·exact c5e
 by_cases c6:a2≥a0
 ·rw[if_pos c6]at H
  have a4:decide (a0≤a2)=true:=decide_eq_true c6
  clear c6
  exact c5e
 rw[if_neg c6]at H
 have a4:decide (a0≤a2)=false:=decide_eq_false c6
 clear c6
 replace H:=oA H;obtain⟨a3,A7,H⟩:=H
 by_cases c8:a3=0
 ·rw[if_pos c8]at H
  exact absurd H (by simp)
 rw[if_neg c8]at H
 have a7:(a3==0)=false:=beq_eq_false_iff_ne.mpr c8
 have a6:(a3 !=0)=true:=bne_iff_ne.mpr c8
 obtain rfl:=oI H
 go_enter Tryz.func97,Tryz.ntmps97
 go_wp2_with (((with_reducible refine gW ?_);first|(refine gD (some 10) Tryz.func110 rfl (JHi A4.out) fun nd=>?_)|(refine gD (some 19) Tryz.func46 rfl (JCi A7.out) fun nd=>?_)))
 go_ret
 exact⟨rfl,dR⟩
def tM(a0:Bool):Option (Int):=if a0=true then(some 1)else(some 0)
theorem JZi{a0:Bool}{r:Int}{w:World}(h:tM a0=some r) :
  Calls Tryz.prog 98 #[.bool a0] w fun e w'=>e= .returned (.int .i64 r)∧Drawn0 w w':=by
 have H:=h
 clear h
 unfold tM at H
 replace H:=iB H;rcases H with⟨rfl,H⟩|⟨rfl,H⟩
 ·obtain rfl:=oI H
  go_enter Tryz.func98,Tryz.ntmps98
  go_wp2
  go_ret
  exact⟨rfl,dR⟩
 obtain rfl:=oI H
 go_enter Tryz.func98,Tryz.ntmps98
 go_wp2
 go_ret
 exact⟨rfl,dR⟩
def a0x(k:Nat)(a0:Int)(a1:Int)(a2:Int):Option (Int):=(rN k a0 a1 a2).bind fun a5=>(if a5=true then((tM (decide (a1<a2))).bind fun a4=>(some a4))else((tM false).bind fun a3=>(some a3)))
theorem c4x{P:Prop}(h:P:=by
 replace H:=oA H;obtain⟨a5,a3,H⟩:=H
 obtain rfl:=oI H
 go_enter Tryz.func99,Tryz.ntmps99
 go_wp2_with (((with_reducible refine gW ?_);first|(refine gD (some 10) Tryz.func110 rfl (JHi A4.out) fun nd=>?_)|(refine gD (some 16) Tryz.func98 rfl (JZi a3.out) fun nd=>?_)))
 go_ret
 exact⟨rfl,dR⟩):P:=h
theorem XGi{k:Nat}{a0 a1 a2 r:Int}{w:World}(h:a0x k a0 a1 a2=some r) :
  Calls Tryz.prog 99 #[.int .i64 a0,.int .i64 a1,.int .i64 a2] w fun e w'=>e= .returned (.int .i64 r)∧Drawn0 w w':=by
 have H:=h
 clear h
 unfold a0x at H
 replace H:=oA H;obtain⟨a4,A4,H⟩:=H
 replace H:=iB H;rcases H with⟨rfl,H⟩|⟨rfl,H⟩
 ·exact c4x
 exact c4x
def xU(k:Nat)(a0:Int)(a1:Int):Option (Int):=(rV k a0 a1).bind fun a4=>(if a4=true then((kY k (wrap64 (a0-1))).bind fun a3=>(if a1≥a3 then((kY k a0).bind fun a2=>(some (wrap64 (a1-a2))))else(some a1)))else(some 0))
theorem KXi{k:Nat}{a0 a1 r:Int}{w:World}(h:xU k a0 a1=some r) :
  Calls Tryz.prog 111 #[.int .i64 a0,.int .i64 a1] w fun e w'=>e= .returned (.int .i64 r)∧Drawn0 w w':=by
 have H:=h
 clear h
 unfold xU at H
 replace H:=oA H;obtain⟨a5,A3,H⟩:=H
 replace H:=iB H;rcases H with⟨rfl,H⟩|⟨rfl,H⟩
 ·replace H:=oA H;obtain⟨a2,A5,H⟩:=H
  by_cases c6:a1≥a2
  ·rw[if_pos c6]at H
   have a3:decide (a2≤a1)=true:=decide_eq_true c6
   clear c6
   replace H:=oA H;obtain⟨a4,A7,H⟩:=H
   obtain rfl:=oI H
   go_enter Tryz.func111,Tryz.ntmps111
   go_wp2_with (((with_reducible refine gW ?_);first|(refine gD (some 7) Tryz.func47 rfl (JGi A3.out) fun nd=>?_)|(refine gD (some 12) Tryz.func46 rfl (JCi A5.out) fun nd=>?_)|(refine gD (some 16) Tryz.func46 rfl (JCi A7.out) fun nd=>?_)))
   go_ret
   exact⟨rfl,dR⟩
  rw[if_neg c6]at H
  have a3:decide (a2≤a1)=false:=decide_eq_false c6
  clear c6
  obtain rfl:=oI H
  go_enter Tryz.func111,Tryz.ntmps111
  go_wp2_with (((with_reducible refine gW ?_);first|(refine gD (some 7) Tryz.func47 rfl (JGi A3.out) fun nd=>?_)|(refine gD (some 12) Tryz.func46 rfl (JCi A5.out) fun nd=>?_)))
  go_ret
  exact⟨rfl,dR⟩
 obtain rfl:=oI H
 go_enter Tryz.func111,Tryz.ntmps111
 go_wp2_with (((with_reducible refine gW ?_);refine gD (some 7) Tryz.func47 rfl (JGi A3.out) fun nd=>?_))
 go_ret
 exact⟨rfl,dR⟩
def vY(k:Nat)(a0:Int)(a1:Int)(a2:Int):Option (Int):=(rN k a0 a1 a2).bind fun a7=>(if a7=true then((xU k a0 a1).bind fun a6=>((xU k a0 a2).bind fun a5=>((tM (decide (a6<a5))).bind fun a4=>(some a4))))else((tM false).bind fun a3=>(some a3)))
theorem YMi{k:Nat}{a0 a1 a2 r:Int}{w:World}(h:vY k a0 a1 a2=some r) :
  Calls Tryz.prog 100 #[.int .i64 a0,.int .i64 a1,.int .i64 a2] w fun e w'=>e= .returned (.int .i64 r)∧Drawn0 w w':=by
 have H:=h
 clear h
 unfold vY at H
 replace H:=oA H;obtain⟨a7,A4,H⟩:=H
 replace H:=iB H;rcases H with⟨rfl,H⟩|⟨rfl,H⟩
 ·replace H:=oA H;obtain⟨a6,A6,H⟩:=H
  replace H:=oA H;obtain⟨a5,A7,H⟩:=H
  replace H:=oA H;obtain⟨a4,A8,H⟩:=H
  obtain rfl:=oI H
  go_enter Tryz.func100,Tryz.ntmps100
  go_wp2_with (first|(go_at_call 111;refine cD (KXi A6.out) fun nd=>?_)|(go_at_call 111;refine cD (KXi A7.out) fun nd=>?_)|((with_reducible refine gW ?_);first|(refine gD (some 10) Tryz.func110 rfl (JHi A4.out) fun nd=>?_)|(refine gD (some 20) Tryz.func98 rfl (JZi A8.out) fun nd=>?_)))
  go_ret
  exact⟨rfl,dR⟩
 replace H:=oA H;obtain⟨a3,A9,H⟩:=H
 obtain rfl:=oI H
 go_enter Tryz.func100,Tryz.ntmps100
 go_wp2_with (((with_reducible refine gW ?_);first|(refine gD (some 10) Tryz.func110 rfl (JHi A4.out) fun nd=>?_)|(refine gD (some 20) Tryz.func98 rfl (JZi A9.out) fun nd=>?_)))
 go_ret
 exact⟨rfl,dR⟩
def xT:Nat→Int→Int→Int→Bool→Option (Int)
 | 0,_,_,_,_=>none
 | k+1,x1,x2,x3,a2=>if a2=true then(some 0)else((kY k x2).bind fun a1=>(if a1=0 then(none)else((kY k x3).bind fun a0=>(if a0=0 then(none)else(some (Int.tmod (wrap64 (Int.tdiv x1 a1)) a0))))))
def zV(k:Nat)(a0:Int)(a1:Int)(a2:Int)(a3:Int):Option (Int):=(rV k a0 a1).bind fun a5=>(if a5=true then(if a2<0 then(xT k a1 a2 a3 true)else((pX a3 1 (wrap64 (a0-a2))).bind fun a4=>(xT k a1 a2 a3 (!a4))))else(xT k a1 a2 a3 true))
theorem c4t{P:Prop}(h:P:=by
 replace H:=am H
 go_wp2_with ((go_at_call 47;refine cD (JGi A6.out) fun nd=>?_;(try exact dq)))
 go_meet
 case rel=>exact⟨_,true,rfl,H,⟨oM⟩,dR⟩):P:=h
theorem ZAi{k:Nat}{a0 a1 a2 a3 r:Int}{w:World}(h:zV k a0 a1 a2 a3=some r) :
  Calls Tryz.prog 101 #[.int .i64 a0,.int .i64 a1,.int .i64 a2,.int .i64 a3] w fun e w'=>e= .returned (.int .i64 r)∧Drawn0 w w':=by
 have H:=h
 clear h
 unfold zV at H
 have a9:=am H;clear H
 go_enter Tryz.func101,Tryz.ntmps101
 go_upto_region 1 with(fail)
 repeat(go_quiet (fail);go_upto_region 1 with(fail))
 go_cut [24] (fun aE wc =>∃(kq:Nat) (a4:Bool),aE= .bool a4∧Aside0 (xT kq a1 a2 a3 a4=some r)∧Aside0 (kq≤k)∧Drawn0 w wc)
 case first =>
  have H:=a9.out
  clear a9
  replace H:=oA H;obtain⟨aJ,A6,H⟩:=H
  replace H:=iB H;rcases H with⟨rfl,H⟩|⟨rfl,H⟩
  ·replace H:=iD H;rcases H with⟨aD,H⟩|⟨aD,H⟩
   ·exact c4t
   replace H:=oA H;obtain⟨aC,A9,H⟩:=H
   replace H:=am H
   go_wp2_with (first|(go_at_call 47;refine cD (JGi A6.out) fun nd=>?_;(try exact dq))|(go_at_call 42;refine cD (JAi A9.out) fun nd=>?_;(try exact dq)))
   go_meet
   case rel=>exact⟨_,(!aC),rfl,H,⟨oM⟩,dR⟩
  exact c4t
 clear a9
 obtain⟨kq,a4,rfl,HA,aM,⟨aK,rfl⟩⟩:=hcut
 cases kq with
 | zero=>cases HA.out
 | succ aL =>
  obtain⟨H⟩:=HA
  simp only[xT]at H
  replace H:=iB H;rcases H with⟨rfl,H⟩|⟨rfl,H⟩
  ·obtain rfl:=oI H
   go_wp2
   repeat(go_quiet (fail);try go_wp2)
   go_ret
   exact⟨rfl,dR⟩
  replace H:=oA H;obtain⟨a6,aB,H⟩:=H
  by_cases a8:a6=0
  ·rw[if_pos a8]at H
   exact absurd H (by simp)
  rw[if_neg a8]at H
  have aI:(a6==0)=false:=beq_eq_false_iff_ne.mpr a8
  have aH:(a6 !=0)=true:=bne_iff_ne.mpr a8
  replace H:=oA H;obtain⟨a5,aA,H⟩:=H
  by_cases a7:a5=0
  ·rw[if_pos a7]at H
   exact absurd H (by simp)
  rw[if_neg a7]at H
  have aG:(a5==0)=false:=beq_eq_false_iff_ne.mpr a7
  have aF:(a5 !=0)=true:=bne_iff_ne.mpr a7
  obtain rfl:=oI H
  go_wp2_with (first|(go_at_call 46;refine cD (JCi aB.out) fun nd=>?_;(try exact dq))|(go_at_call 46;refine cD (JCi aA.out) fun nd=>?_;(try exact dq)))
  repeat(go_quiet (first|(go_at_call 46;refine cD (JCi aB.out) fun nd=>?_;(try exact dq))|(go_at_call 46;refine cD (JCi aA.out) fun nd=>?_;(try exact dq)));try go_wp2_with (first|(go_at_call 46;refine cD (JCi aB.out) fun nd=>?_;(try exact dq))|(go_at_call 46;refine cD (JCi aA.out) fun nd=>?_;(try exact dq))))
  go_ret
  exact⟨rfl,dR⟩
def sO:Nat→Int→Int→Int→Int→Bool→Int→Int→Int→Int→Int→Int→Option (Int)
 | 0,_,_,_,_,_,_,_,_,_,_,_=>none
 | k+1,x1,x2,x3,x4,aJ,a0,a1,a2,aI,aH,aG=>if aJ=true then(some 0)else(if a0=0 then(some a2)else(if a0=2 then((a0y k a1 x2).bind fun aF=>(some aF))else(if a0=3 then(some (Go.bits .and .i64 x2 x3))else(if a0=4 then(some (Go.bits .or .i64 x2 x3))else(if a0=5 then(some (Go.bits .xor .i64 x2 x3))else(if a0=6 then((a2e k a1 x2 x3).bind fun aE=>(some aE))else(if a0=7 then((a1v k a1 x2 x3).bind fun aD=>(some aD))else(if a0=8 then((a2c k a1 x2 x3).bind fun aC=>(some aC))else(if a0=9 then((a2d k a1 x2 x3).bind fun aB=>(some aB))else(if a0=10 then((a2b k a1 x2 x3).bind fun aA=>(some aA))else(if a0=11 then((a1x k a1 x2 x3).bind fun a9=>(some a9))else(if a0=12 then((a1w k a1 x2 x3).bind fun a8=>(some a8))else(if a0=13 then((tM (x2==x3)).bind fun a7=>(some a7))else(if a0=14 then((a0x k x1 x2 x3).bind fun a6=>(some a6))else(if a0=15 then((vY k x1 x2 x3).bind fun a5=>(some a5))else(if a0=16 then(if a1<x1 then(some x3)else((kY k (wrap64 (a1-x1))).bind fun a4=>(some (wrap64 ((wrap64 (x2*a4))+x3)))))else(if a0=17 then((zV k x1 x2 a2 a1).bind fun a3=>(some a3))else(if a0=18 then(if x2=1 then(some x3)else(some x4))else(some 0)))))))))))))))))))
def zX(k:Nat)(a9:Int)(a0:Int)(a8:Int)(a7:Int)(a6:Int)(a5:Int)(a1:Int)(a2:Int)(a3:Int)(a4:Int):Option (Int):=(pX a0 1 8).bind fun aE=>(if aE=true then((pX a1 1 8).bind fun aD=>(if aD=true then((pX a2 0 255).bind fun aC=>(if aC=true then((pX a3 0 255).bind fun aB=>(if aB=true then((pX a4 0 255).bind fun aA=>(sO k a1 a2 a3 a4 (!aA) a9 a0 a8 a7 a6 a5))else(sO k a1 a2 a3 a4 true a9 a0 a8 a7 a6 a5)))else(sO k a1 a2 a3 a4 true a9 a0 a8 a7 a6 a5)))else(sO k a1 a2 a3 a4 true a9 a0 a8 a7 a6 a5)))else(sO k a1 a2 a3 a4 true a9 a0 a8 a7 a6 a5))
theorem YOi{k:Nat}{aA a9 a8 a7 a6 a5 a1 a2 a3 a4 r:Int}{w:World}(h:zX k aA a9 a8 a7 a6 a5 a1 a2 a3 a4=some r) :
  Calls Tryz.prog 67 #[.agg #[.int .i64 aA,.int .i64 a9,.int .i64 a8,.int .i64 a7,.int .i64 a6,.int .i64 a5],.int .i64 a1,.int .i64 a2,.int .i64 a3,.int .i64 a4] w fun e w'=>e= .returned (.int .i64 r)∧Below w.heap.size w w':=by
 have hu31:=Tryz.underlying33
 have HB:=am (Below.refl w.heap.size w)
 have H:=h
 clear h
 unfold zX at H
 have aD:=am H;clear H
 go_enter Tryz.func67,Tryz.ntmps67
 go_upto_region 1 with(((with_reducible refine pU (N:=5) rfl ?_);refine wG ?hg (N:=5) ?hd (cs:= #[.int .i64 aA,.int .i64 a9,.int .i64 a8,.int .i64 a7,.int .i64 a6,.int .i64 a5]) (t:=33) ?hr ?_;(case hd=>rfl);(case hg=>rfl);(case hr=>(go_simp;done));intro aF hg w7 hbox hb;have bM:=am (zP (by exact sW HB.out) hb);have bL:=am (hbox);have bK:=gw hg;have bJ:=gw hg;clear HB;have HB:=bM;have a0:=bL;have d5:=bK;have d6:=bJ;clear bM bL bK bJ;clear hb hbox hg))
 (try simp only[Act.put,List.setIfInBounds_toArray,List.set_cons_zero,List.set_cons_succ])
 go_cut [34] (fun cR wc =>∃(kq:Nat) (aB:Bool),cR= .bool aB∧Aside0 (sO kq a1 a2 a3 a4 aB aA a9 a8 a7 a6 a5=some r)∧Aside0 (kq≤k)∧Aside0 (wc.heap[aF]? = some (.cells #[.int .i64 aA,.int .i64 a9,.int .i64 a8,.int .i64 a7,.int .i64 a6,.int .i64 a5] 33 (0,0)))∧Aside0 (Below w.heap.size w wc))
 case first =>
  have H:=aD.out
  clear aD
  replace H:=oA H;obtain⟨dN,A8,H⟩:=H
  replace H:=iB H;rcases H with⟨rfl,H⟩|⟨rfl,H⟩
  rotate_left
  ·replace H:=am H
   have cM:=cf6 a0.out
   go_wp2_with (((with_reducible refine gW ?_);refine gD (some 13) Tryz.func42 rfl (JAi A8.out) fun nd=>?_))
   go_meet
   case rel=>exact⟨_,true,rfl,H,⟨oM⟩,⟨sB<|a0.out⟩,⟨bW⟩⟩
  replace H:=oA H;obtain⟨dM,aC,H⟩:=H
  replace H:=iB H;rcases H with⟨rfl,H⟩|⟨rfl,H⟩
  rotate_left
  ·replace H:=am H
   have cN:=cf6 a0.out
   go_wp2_with (first|(go_at_call 42;refine cD (JAi aC.out) fun nd=>?_)|((with_reducible refine gW ?_);refine gD (some 13) Tryz.func42 rfl (JAi A8.out) fun nd=>?_))
   go_meet
   case rel=>exact⟨_,true,rfl,H,⟨oM⟩,⟨sB<|a0.out⟩,⟨bW⟩⟩
  replace H:=oA H;obtain⟨dL,aE,H⟩:=H
  replace H:=iB H;rcases H with⟨rfl,H⟩|⟨rfl,H⟩
  ·replace H:=oA H;obtain⟨dK,bN,H⟩:=H
   replace H:=iB H;rcases H with⟨rfl,H⟩|⟨rfl,H⟩
   ·replace H:=oA H;obtain⟨bO,d4,H⟩:=H
    replace H:=am H
    have cQ:=cf6 a0.out
    go_wp2_with (first|(go_at_call 42;refine cD (JAi aC.out) fun nd=>?_)|(go_at_call 42;refine cD (JAi aE.out) fun nd=>?_)|(go_at_call 42;refine cD (JAi bN.out) fun nd=>?_)|(go_at_call 42;refine cD (JAi d4.out) fun nd=>?_)|((with_reducible refine gW ?_);refine gD (some 13) Tryz.func42 rfl (JAi A8.out) fun nd=>?_))
    go_meet
    case rel=>exact⟨_,(!bO),rfl,H,⟨oM⟩,⟨sB<|a0.out⟩,⟨bW⟩⟩
   replace H:=am H
   have cP:=cf6 a0.out
   go_wp2_with (first|(go_at_call 42;refine cD (JAi aC.out) fun nd=>?_)|(go_at_call 42;refine cD (JAi aE.out) fun nd=>?_)|(go_at_call 42;refine cD (JAi bN.out) fun nd=>?_)|((with_reducible refine gW ?_);refine gD (some 13) Tryz.func42 rfl (JAi A8.out) fun nd=>?_))
   go_meet
   case rel=>exact⟨_,true,rfl,H,⟨oM⟩,⟨sB<|a0.out⟩,⟨bW⟩⟩
  replace H:=am H
  have cO:=cf6 a0.out
  go_wp2_with (first|(go_at_call 42;refine cD (JAi aC.out) fun nd=>?_)|(go_at_call 42;refine cD (JAi aE.out) fun nd=>?_)|((with_reducible refine gW ?_);refine gD (some 13) Tryz.func42 rfl (JAi A8.out) fun nd=>?_))
  go_meet
  case rel=>exact⟨_,true,rfl,H,⟨oM⟩,⟨sB<|a0.out⟩,⟨bW⟩⟩
 clear aD
 obtain⟨kq,aB,rfl,HA,dP,a0,HB⟩:=hcut
 cases kq with
 | zero=>cases HA.out
 | succ dO =>
  obtain⟨H⟩:=HA
  simp only[sO]at H
  replace H:=iB H;rcases H with⟨rfl,H⟩|⟨rfl,H⟩
  ·obtain rfl:=oI H
   go_wp2
   go_ret
   exact⟨rfl,bW⟩
  replace H:=iE H;rcases H with⟨bI,bH,H⟩|⟨bI,bH,H⟩
  ·obtain rfl:=oI H
   have cL:=cf6 a0.out
   go_wp2
   go_ret
   exact⟨rfl,bW⟩
  replace H:=iE H;rcases H with⟨bG,bF,H⟩|⟨bG,bF,H⟩
  ·replace H:=oA H;obtain⟨dJ,d3,H⟩:=H
   obtain rfl:=oI H
   have cK:=cf6 a0.out
   go_wp2_with (((with_reducible refine gW ?_);refine gD (some 46) Tryz.func90 rfl (ZJi d3.out) fun nd=>?_))
   go_ret
   exact⟨rfl,bW⟩
  replace H:=iE H;rcases H with⟨bE,bD,H⟩|⟨bE,bD,H⟩
  ·obtain rfl:=oI H
   have cJ:=cf6 a0.out
   go_wp2
   go_ret
   exact⟨rfl,bW⟩
  replace H:=iE H;rcases H with⟨bC,bB,H⟩|⟨bC,bB,H⟩
  ·obtain rfl:=oI H
   have cI:=cf6 a0.out
   go_wp2
   go_ret
   exact⟨rfl,bW⟩
  replace H:=iE H;rcases H with⟨bA,b9,H⟩|⟨bA,b9,H⟩
  ·obtain rfl:=oI H
   have cH:=cf6 a0.out
   go_wp2
   go_ret
   exact⟨rfl,bW⟩
  replace H:=iE H;rcases H with⟨b8,b7,H⟩|⟨b8,b7,H⟩
  ·replace H:=oA H;obtain⟨dI,d2,H⟩:=H
   obtain rfl:=oI H
   have cG:=cf6 a0.out
   go_wp2_with (((with_reducible refine gW ?_);refine gD (some 68) Tryz.func91 rfl (XFi d2.out) fun nd=>?_))
   go_ret
   exact⟨rfl,bW⟩
  replace H:=iE H;rcases H with⟨b6,b5,H⟩|⟨b6,b5,H⟩
  ·replace H:=oA H;obtain⟨dH,d1,H⟩:=H
   obtain rfl:=oI H
   have cF:=cf6 a0.out
   go_wp2_with (((with_reducible refine gW ?_);refine gD (some 75) Tryz.func92 rfl (ZHi d1.out) fun nd=>?_))
   go_ret
   exact⟨rfl,bW⟩
  replace H:=iE H;rcases H with⟨b4,b3,H⟩|⟨b4,b3,H⟩
  ·replace H:=oA H;obtain⟨dG,d0,H⟩:=H
   obtain rfl:=oI H
   have cE:=cf6 a0.out
   go_wp2_with (((with_reducible refine gW ?_);refine gD (some 82) Tryz.func93 rfl (YZi d0.out) fun nd=>?_))
   go_ret
   exact⟨rfl,bW⟩
  replace H:=iE H;rcases H with⟨b2,b1,H⟩|⟨b2,b1,H⟩
  ·replace H:=oA H;obtain⟨dF,c_,H⟩:=H
   obtain rfl:=oI H
   have cC:=cf6 a0.out
   go_wp2_with (((with_reducible refine gW ?_);refine gD (some 89) Tryz.func94 rfl (XWi c_.out) fun nd=>?_))
   go_ret
   exact⟨rfl,bW⟩
  replace H:=iE H;rcases H with⟨b0,a_,H⟩|⟨b0,a_,H⟩
  ·replace H:=oA H;obtain⟨dE,cZ,H⟩:=H
   obtain rfl:=oI H
   have cB:=cf6 a0.out
   go_wp2_with (((with_reducible refine gW ?_);refine gD (some 96) Tryz.func95 rfl (YJi cZ.out) fun nd=>?_))
   go_ret
   exact⟨rfl,bW⟩
  replace H:=iE H;rcases H with⟨aZ,aY,H⟩|⟨aZ,aY,H⟩
  ·replace H:=oA H;obtain⟨dD,cY,H⟩:=H
   obtain rfl:=oI H
   have c1:=cf6 a0.out
   go_wp2_with (((with_reducible refine gW ?_);refine gD (some 103) Tryz.func96 rfl (YHi cY.out) fun nd=>?_))
   go_ret
   exact⟨rfl,bW⟩
  replace H:=iE H;rcases H with⟨aX,aW,H⟩|⟨aX,aW,H⟩
  ·replace H:=oA H;obtain⟨dC,cX,H⟩:=H
   obtain rfl:=oI H
   have c0:=cf6 a0.out
   go_wp2_with (((with_reducible refine gW ?_);refine gD (some 110) Tryz.func97 rfl (YRi cX.out) fun nd=>?_))
   go_ret
   exact⟨rfl,bW⟩
  replace H:=iE H;rcases H with⟨aV,aU,H⟩|⟨aV,aU,H⟩
  ·replace H:=oA H;obtain⟨dB,cW,H⟩:=H
   obtain rfl:=oI H
   have b_:=cf6 a0.out
   go_wp2_with (((with_reducible refine gW ?_);refine gD (some 116) Tryz.func98 rfl (JZi cW.out) fun nd=>?_))
   go_ret
   exact⟨rfl,bW⟩
  replace H:=iE H;rcases H with⟨aT,aS,H⟩|⟨aT,aS,H⟩
  ·replace H:=oA H;obtain⟨dA,cV,H⟩:=H
   obtain rfl:=oI H
   have bZ:=cf6 a0.out
   go_wp2_with (((with_reducible refine gW ?_);refine gD (some 122) Tryz.func99 rfl (XGi cV.out) fun nd=>?_))
   go_ret
   exact⟨rfl,bW⟩
  replace H:=iE H;rcases H with⟨aR,aQ,H⟩|⟨aR,aQ,H⟩
  ·replace H:=oA H;obtain⟨d9,cU,H⟩:=H
   obtain rfl:=oI H
   have bV:=cf6 a0.out
   go_wp2_with (((with_reducible refine gW ?_);refine gD (some 128) Tryz.func100 rfl (YMi cU.out) fun nd=>?_))
   go_ret
   exact⟨rfl,bW⟩
  replace H:=iE H;rcases H with⟨aO,aN,H⟩|⟨aO,aN,H⟩
  ·replace H:=iD H;rcases H with⟨aM,H⟩|⟨aM,H⟩
   ·obtain rfl:=oI H
    have bU:=cf6 a0.out
    go_wp2
    go_ret
    exact⟨rfl,bW⟩
   replace H:=oA H;obtain⟨d8,cT,H⟩:=H
   obtain rfl:=oI H
   have bT:=cf6 a0.out
   go_wp2_with (((with_reducible refine gW ?_);refine gD (some 141) Tryz.func46 rfl (JCi cT.out) fun nd=>?_))
   go_ret
   exact⟨rfl,bW⟩
  replace H:=iE H;rcases H with⟨aL,aK,H⟩|⟨aL,aK,H⟩
  ·replace H:=oA H;obtain⟨d7,cS,H⟩:=H
   obtain rfl:=oI H
   have bS:=cf6 a0.out
   go_wp2_with (((with_reducible refine gW ?_);refine gD (some 153) Tryz.func101 rfl (ZAi cS.out) fun nd=>?_))
   go_ret
   exact⟨rfl,bW⟩
  replace H:=iE H;rcases H with⟨aJ,aI,H⟩|⟨aJ,aI,H⟩
  ·replace H:=iE H;rcases H with⟨aH,aG,H⟩|⟨aH,aG,H⟩
   ·obtain rfl:=oI H
    have bR:=cf6 a0.out
    go_wp2
    go_ret
    exact⟨rfl,bW⟩
   obtain rfl:=oI H
   have bQ:=cf6 a0.out
   go_wp2
   go_ret
   exact⟨rfl,bW⟩
  obtain rfl:=oI H
  have bP:=cf6 a0.out
  go_wp2
  go_ret
  exact⟨rfl,bW⟩
end Go.Proofs.YtkpipmojkhikaaaGreat.PAll
