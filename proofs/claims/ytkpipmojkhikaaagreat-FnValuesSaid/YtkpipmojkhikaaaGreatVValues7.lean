/- Go functions as Lean functions: a call comes to what they say. -/
import Derived.Test.YtkpipmojkhikaaaGreatVValues6
namespace Go.Proofs.YtkpipmojkhikaaaGreat.PAll
open Go.RowKit Go.A_ Go.B_ Go.C_ Go.D_
attribute [local go_sem] rF rC tE tD qK qJ rD rA
set_option linter.unusedVariables false
set_option maxHeartbeats 8000000
set_option maxRecDepth 100000
set_option linter.unusedSimpArgs false
mutual
def tT:Nat→List (S31)→List (S31)→Int→Int→Int→Bool→List Int→Int→Int→Option ((List (S31))×Int×Int×Int×Int×Int)
 | 0,_,_,_,_,_,_,_,_,_=>none
 | k+1,x1,x2,x3,x4,x5,aZ,a0,a7,a6=>if aZ=true then((kV a0 a7 a6 3).bind fun a2=>(if(wrap64 (1+a2.1))>x4 then((kV a0 a2.2.1 a2.2.2 2).bind fun aL=>((some (([]:List (S31)):List (S31))).bind fun aX=>(if aX.length+x2.length<2932031007402 then((some (aX++x2:List (S31))).bind fun aW=>((some (([(⟨1,x4,x3,0,0,0⟩:S31)]:List (S31)):List (S31))).bind fun aV=>(if aW.length+aV.length<2932031007402 then((qI k a0 aL.2.1 aL.2.2 x1 (aW++aV) (wrap64 (x3+1)) (wrap64 (x4-x4)) (wrap64 (x5-1))).bind fun aC=>((qB aC.1 (wrap64 (19+aL.1)) 1 x3 aC.2.1 x4 0).bind fun aR=>(some (aR.1,aR.2,aC.2.2.1,aC.2.2.2.1,aC.2.2.2.2.1,aC.2.2.2.2.2))))else(none))))else(none))))else((kV a0 a2.2.1 a2.2.2 2).bind fun aK=>((some (([]:List (S31)):List (S31))).bind fun aU=>(if aU.length+x2.length<2932031007402 then((some (aU++x2:List (S31))).bind fun aT=>((some (([(⟨1,wrap64 (1+a2.1),x3,0,0,0⟩:S31)]:List (S31)):List (S31))).bind fun aS=>(if aT.length+aS.length<2932031007402 then((qI k a0 aK.2.1 aK.2.2 x1 (aT++aS) (wrap64 (x3+1)) (wrap64 (x4-(wrap64 (1+a2.1)))) (wrap64 (x5-1))).bind fun aB=>((qB aB.1 (wrap64 (19+aK.1)) 1 x3 aB.2.1 (wrap64 (1+a2.1)) 0).bind fun aQ=>(some (aQ.1,aQ.2,aB.2.2.1,aB.2.2.2.1,aB.2.2.2.2.1,aB.2.2.2.2.2))))else(none))))else(none))))))else((kV a0 a7 a6 5).bind fun a1=>(if a1.1=0 then(if x5>0 then((qI k a0 a1.2.1 a1.2.2 x1 x2 x3 x4 (wrap64 (x5-1))).bind fun aA=>((qB aA.1 2 1 0 aA.2.1 0 0).bind fun aO=>(some (aO.1,aO.2,aA.2.2.1,aA.2.2.2.1,aA.2.2.2.2.1,aA.2.2.2.2.2))))else((pD k a0 a1.2.1 a1.2.2 x1 x2 1 3).bind fun aF=>(some (aF.1,aF.2.1,x3,x4,aF.2.2.1,aF.2.2.2))))else(if a1.1=1 then(vV k x1 x2 x3 x4 x5 (a1.1==1) a0 a1.2.1 a1.2.2)else(vV k x1 x2 x3 x4 x5 (a1.1==2) a0 a1.2.1 a1.2.2))))
def vV:Nat→List (S31)→List (S31)→Int→Int→Int→Bool→List Int→Int→Int→Option ((List (S31))×Int×Int×Int×Int×Int)
 | 0,_,_,_,_,_,_,_,_,_=>none
 | k+1,x1,x2,x3,x4,x5,aY,a0,a7,a6=>if aY=true then(if x5>0 then((qI k a0 a7 a6 x1 x2 x3 x4 (wrap64 (x5-1))).bind fun a9=>((qI k a0 a9.2.2.2.2.1 a9.2.2.2.2.2 a9.1 x2 a9.2.2.1 a9.2.2.2.1 (wrap64 (x5-1))).bind fun a8=>((kV a0 a8.2.2.2.2.1 a8.2.2.2.2.2 2).bind fun aJ=>((qB a8.1 (wrap64 (3+aJ.1)) 1 0 a9.2.1 a8.2.1 0).bind fun aN=>(some (aN.1,aN.2,a8.2.2.1,a8.2.2.2.1,aJ.2.1,aJ.2.2))))))else((pD k a0 a7 a6 x1 x2 1 3).bind fun aE=>(some (aE.1,aE.2.1,x3,x4,aE.2.2.1,aE.2.2.2))))else((pD k a0 a7 a6 x1 x2 1 3).bind fun aD=>(some (aD.1,aD.2.1,x3,x4,aD.2.2.1,aD.2.2.2)))
def qI:Nat→List Int→Int→Int→List (S31)→List (S31)→Int→Int→Int→Option ((List (S31))×Int×Int×Int×Int×Int)
 | 0,_,_,_,_,_,_,_,_=>none
 | k+1,aG,aI,aH,l1,l2,a3,a4,a5=>if a5>0 then(if a3<8 then(if a4>0 then((rT aG aI aH 5).bind fun aM=>(tT k l1 l2 a3 a4 a5 (!aM.1) aG aM.2.1 aM.2.2))else(tT k l1 l2 a3 a4 a5 false aG aI aH))else(tT k l1 l2 a3 a4 a5 false aG aI aH))else(tT k l1 l2 a3 a4 a5 false aG aI aH)
end
theorem zL{P:Prop}(h:P:=by
 simp only[Act.put,List.setIfInBounds_toArray,List.set_cons_zero,List.set_cons_succ,vB,a3w]
 rfl):P:=h
theorem c5q{P:Prop}(h:P:=by
 replace H:=oA H;obtain⟨⟨gV,gU,gR,gQ⟩,gP,H⟩:=H
 try dsimp only at H
 simp only[Option.some.injEq,Prod.mk.injEq]at H
 obtain⟨rfl,rfl,rfl,rfl,rfl,rfl⟩:=H
 obtain⟨f5,f4,rfl⟩:=Kd.JB a0.out
 go_wp2_with (((with_reducible refine gW ?_);refine gF 106 (some 184) rfl ?_;refine gT Tryz.func106 (KWi dE g aK bJ bI (fun k_=>some k_=(.slice f5 l1.length f4:Value).ownBlock) (.slice f5 l1.length f4) l1 _ _ l2 1 3 gV gU gR gQ w0 _ kI kH (Kd.JL rfl a0.out) (cA b9 a0) d7.out gP.out) ?_;rintro hS hR ⟨aJ,hi,hb,hkp⟩;replace HI0:=am hi;have gO:=mA aJ a0;replace HK:=tA a0 hkp;replace HB:=am hb;clear a0;(try clear hb);(try clear hkp);(try clear aJ)))
 refine bodyPost_ret (pN (rs:=[.tmp 12,.tmp 13,.tmp 14,.tmp 15]) rfl (by simp) (.tmp (.tmp (.tmp (.tmp .nil))))) rfl ?_
 exact⟨_,rfl,sR<|gO.out,kI,kH,sK HK.out⟩):P:=h
theorem c5h{P:Prop}(h:P:=by
 replace HB:=am hb
 replace HK:=am (qM (S:=(fun k_=>(P1_ k_)∨k_=g)) hg (by exact sK HK.out) (fun k_ e_=>Or.imp_left Or.inl ((aN.out.1 k_ e_).1.1.1.1)))
 have aU:=am ho
 clear aN
 clear ho hb hg hat
 refine hK.out _ _ (cz6 a7.out) (fun hHeld=>?_)
 clear hK K
 refine vA (a':=?_) ?_ ?_
 rotate_left
 ·show Act.put _ (some 69) _=_
  exact zL
 exact vA (by simp only[a4w,Act.put,List.setIfInBounds_toArray,List.set_cons_zero,List.set_cons_succ]) (hCont (bD,b6,aY) _ ⟨hHeld,(by exact sR<|Kd.JC aU.out (fun _ hk=>⟨hk.1,⟨hk.2.2.1,⟨hk.2.1,hk.2.2.2⟩⟩⟩)),(by exact sR<|Kd.JC aA.out (fun _ hk=>⟨hk.1.1,⟨hk.2,⟨hk.1.2.1,hk.1.2.2⟩⟩⟩)),(by exact sR<|Kd.JC a0.out (fun _ hk=>⟨hk.1.1,⟨hk.2,⟨hk.1.2.1,hk.1.2.2⟩⟩⟩)),(by exact sB<|a7.out),(by exact kI),(by exact sK HK.out),(by exact kH)⟩)):P:=h
theorem c5a{P:Prop}(h:P:=by
 replace HB:=am hb
 replace HK:=am (qM (S:=(fun k_=>(P1_ k_)∨k_=g)) hg (by exact sK HK.out) (fun k_ e_=>Or.imp_left Or.inl ((aM.out.1 k_ e_).1.1.1.1)))
 have aT:=am ho
 clear aM
 clear ho hb hg hat
 refine hK.out _ _ (cz6 a6.out) (fun hHeld=>?_)
 clear hK K
 refine vA (a':=?_) ?_ ?_
 rotate_left
 ·show Act.put _ (some 69) _=_
  exact zL
 exact vA (by simp only[a4w,Act.put,List.setIfInBounds_toArray,List.set_cons_zero,List.set_cons_succ]) (hCont (bC,b5,aX) _ ⟨hHeld,(by exact sR<|Kd.JC aT.out (fun _ hk=>⟨hk.1,⟨hk.2.2.1,⟨hk.2.1,hk.2.2.2⟩⟩⟩)),(by exact sR<|Kd.JC a9.out (fun _ hk=>⟨hk.1.1,⟨hk.2,⟨hk.1.2.1,hk.1.2.2⟩⟩⟩)),(by exact sR<|Kd.JC a0.out (fun _ hk=>⟨hk.1.1,⟨hk.2,⟨hk.1.2.1,hk.1.2.2⟩⟩⟩)),(by exact sB<|a6.out),(by exact kI),(by exact sK HK.out),(by exact kH)⟩)):P:=h
theorem b8a{P:Prop}(h:P:=by
 replace H:=am H
 go_wp2
 go_meet
 case rel=>exact⟨_,false,cM,cL,rfl,H,⟨oM⟩,⟨sR<|dM.out⟩,⟨kI⟩,⟨sK HK.out⟩,⟨kH⟩⟩):P:=h
theorem XYi(k:Nat) :∀(g:Nat) (aK:List Int) (cM cL:Int) (P1_:Nat→Prop) (u9000_:Value) (l1:List (S31)) (A2:Option Addr) (c2:Nat) (l2:List (S31)) (a3 a4 a5:Int) (r1:List (S31)) (r2 r3 r4 r5 r6:Int) (w0 w:World) (hI:IsS93 w0 w g aK cM cL) (hB:Below w0.heap.size w0 w) (f7:Kd.R k31 33 w w0.heap.size P1_ u9000_ l1) (hr2 :∀W_,Kept w W_ (fun k_=>(P1_ k_)∨k_=g)→Kd.C k31 W_ A2 l2.length l2) (hc2:l2.length≤c2) (h:qI k aK cM cL l1 l2 a3 a4 a5=some (r1,r2,r3,r4,r5,r6)),
  Calls Tryz.prog 78 #[.pointer (some ⟨g,0,none⟩),u9000_,.slice A2 l2.length c2,.int .i64 a3,.int .i64 a4,.int .i64 a5] w fun e w' =>∃f6:Value,e= .returned (.tuple #[f6,.int .i64 r2,.int .i64 r3,.int .i64 r4])∧Kd.R k31 33 w' w0.heap.size (fun k_=>(P1_ k_∨w.heap.size≤k_)) f6 r1∧IsS93 w0 w' g aK r5 r6∧Below w0.heap.size w0 w'∧Kept w w' (fun k_=>(P1_ k_)∨k_=g):=by
 induction k using Nat.strongRecOn with
 | _ k ih =>
 intro g aK cM cL P1_ u9000_ l1 A2 c2 l2 a3 a4 a5 r1 r2 r3 r4 r5 r6 w0 w hI hB f7 hr2 hc2 h
 cases k with
 | zero=>exact absurd h (by simp[qI])
 | succ k =>
 simp only[qI]at h
 have hu31:=Tryz.underlying33
 have dM:=am (show Kd.R k31 33 w w0.heap.size (fun k_=>(P1_ k_∨w.heap.size≤k_)) u9000_ l1 from Kd.JC f7 (fun k_ hk=>(.inl hk)))
 have b9:=am hr2
 have d7:=am hc2
 clear hr2 hc2
 have HI0:=am hI
 have HL:=am hB.size
 clear hI
 have HK:=am (Kept.refl w (fun k_=>(P1_ k_)∨k_=g))
 have HW0:=am hB.size
 have HB:=am hB
 clear hB
 have H:=h
 clear h
 unfold qI at H
 have eD:=am H;clear H
 go_enter Tryz.func78,Tryz.ntmps78
 go_upto_region 1 with(fail)
 go_cut [53] (fun gX wc =>∃(kq:Nat) (cF:Bool) (bH:Int) (bG:Int),gX= .bool cF∧Aside0 (tT kq l1 l2 a3 a4 a5 cF aK bH bG=some (r1,r2,r3,r4,r5,r6))∧Aside0 (kq≤k)∧Aside0 (Kd.R k31 33 wc w0.heap.size (fun k_=>(P1_ k_∨w.heap.size≤k_)) u9000_ l1)∧Aside0 (IsS93 w0 wc g aK bH bG)∧Aside0 (Kept w wc (fun k_=>(P1_ k_)∨k_=g))∧Aside0 (Below w0.heap.size w0 wc))
 case first =>
  have H:=eD.out
  clear eD
  by_cases c8:a5>0
  rotate_left
  ·rw[if_neg c8]at H
   have gJ:decide (0<a5)=false:=decide_eq_false c8
   clear c8
   exact b8a
  rw[if_pos c8]at H
  have gJ:decide (0<a5)=true:=decide_eq_true c8
  clear c8
  replace H:=iD H;rcases H with⟨gI,H⟩|⟨gI,H⟩
  ·by_cases c10:a4>0
   ·rw[if_pos c10]at H
    have eU:decide (0<a4)=true:=decide_eq_true c10
    clear c10
    replace H:=oA H;obtain⟨⟨gA,g9,g8⟩,h9,H⟩:=H
    try dsimp only at H
    replace H:=am H
    go_wp2_with ((go_at_call 32;refine(JTi w0 _ kI kH h9.out).mono ?_;rintro e w12 ⟨rfl,hi,hb,hk⟩;replace dM:=tI dM hk;replace HK:=kK HK hk;replace HB:=am hb;replace HI0:=am hi;(try clear hb);(try clear hk);(try clear hi)))
    go_meet
    case rel=>exact⟨_,(!gA),g9,g8,rfl,H,⟨oM⟩,⟨sR<|dM.out⟩,⟨kI⟩,⟨sK HK.out⟩,⟨kH⟩⟩
   rw[if_neg c10]at H
   have eU:decide (0<a4)=false:=decide_eq_false c10
   clear c10
   exact b8a
  exact b8a
 clear eD
 obtain⟨kq,cF,bH,bG,rfl,HA,b_,a0,HI0,HK,HB⟩:=hcut
 cases kq with
 | zero=>cases HA.out
 | succ c_ =>
  obtain⟨H⟩:=HA
  simp only[tT]at H
  replace H:=iB H;rcases H with⟨rfl,H⟩|⟨rfl,H⟩
  rotate_left
  ·replace H:=oA H;obtain⟨⟨bE,bJ,bI⟩,eO,H⟩:=H
   try dsimp only at H
   by_cases bS:bE=0
   ·rw[if_pos bS]at H
    have dJ:(bE==0)=true:=beq_iff_eq.mpr bS
    have dI:(bE !=0)=false:=bne_eq_false_iff_eq.mpr bS
    clear bS
    by_cases c1:a5>0
    ·rw[if_pos c1]at H
     have eS:decide (0<a5)=true:=decide_eq_true c1
     clear c1
     replace H:=oA H;obtain⟨⟨cI,d_,fU,fT,fS,fR⟩,h3,H⟩:=H
     try dsimp only at H
     replace H:=oA H;obtain⟨⟨fQ,fP⟩,h2,H⟩:=H
     try dsimp only at H
     simp only[Option.some.injEq,Prod.mk.injEq]at H
     obtain⟨rfl,rfl,rfl,rfl,rfl,rfl⟩:=H
     go_wp2_with (((with_reducible refine gW ?_);first|(refine gF 33 (some 105) rfl ?_;refine gS Tryz.func33 (JEi _ _ _ _ _ _ _ _ w0 _ kI kH eO.out) ?_;rintro w71 ⟨hi,hb,hk⟩;replace a0:=tI a0 hk;replace HK:=kK HK hk;replace HB:=am hb;replace HI0:=am hi;(try clear hb);(try clear hk);(try clear hi);obtain⟨eJ,e7,rfl⟩:=Kd.JB a0.out)|(refine gF 78 (some 118) rfl ?_;refine gT Tryz.func78 (ih c_ (by have:=b_.out;omega) g aK bJ bI (fun k_=>some k_=(.slice eJ l1.length e7:Value).ownBlock) (.slice eJ l1.length e7) l1 _ _ l2 a3 a4 (wrap64 (a5-1)) cI d_ fU fT fS fR w0 _ kI kH (Kd.JL rfl a0.out) (cA b9 a0) d7.out h3.out) ?_;rintro hM w73 ⟨aJ,hi,hb,hkp⟩;replace HI0:=am hi;have bB:=mA aJ a0;replace HK:=tA a0 hkp;replace HB:=am hb;clear a0;(try clear hb);(try clear hkp);(try clear aJ);obtain⟨eI,e6,rfl⟩:=Kd.JB bB.out)|(refine gF 105 (some 127) rfl ?_;refine gT Tryz.func105 (JMi (fun k_=>some k_=(.slice eI cI.length e6:Value).ownBlock) (.slice eI cI.length e6) cI 2 1 0 d_ 0 0 fQ fP w0 _ kH (Kd.JL rfl bB.out) h2.out) ?_;rintro hL w75 ⟨aJ,hb,hkp⟩;replace HI0:=am (IsS93.kept (by exact kI) hkp (fun hs_=>(fun e_=>(pA HI0.out bB.out (by decide)) e_) hs_));have f1:=mA aJ bB;replace HK:=tB bB hkp;replace HB:=am hb;clear bB;(try clear hb);(try clear hkp);(try clear aJ))))
     refine bodyPost_ret (pN (rs:=[.tmp 12,.tmp 13,.tmp 14,.tmp 15]) rfl (by simp) (.tmp (.tmp (.tmp (.tmp .nil))))) rfl ?_
     exact⟨_,rfl,sR<|f1.out,kI,kH,sK HK.out⟩
    rw[if_neg c1]at H
    have eS:decide (0<a5)=false:=decide_eq_false c1
    clear c1
    replace H:=oA H;obtain⟨⟨fO,fN,fM,fL⟩,h1,H⟩:=H
    try dsimp only at H
    simp only[Option.some.injEq,Prod.mk.injEq]at H
    obtain⟨rfl,rfl,rfl,rfl,rfl,rfl⟩:=H
    go_wp2_with (((with_reducible refine gW ?_);first|(refine gF 33 (some 105) rfl ?_;refine gS Tryz.func33 (JEi _ _ _ _ _ _ _ _ w0 _ kI kH eO.out) ?_;rintro w77 ⟨hi,hb,hk⟩;replace a0:=tI a0 hk;replace HK:=kK HK hk;replace HB:=am hb;replace HI0:=am hi;(try clear hb);(try clear hk);(try clear hi);obtain⟨eH,e5,rfl⟩:=Kd.JB a0.out)|(refine gF 106 (some 184) rfl ?_;refine gT Tryz.func106 (KWi c_ g aK bJ bI (fun k_=>some k_=(.slice eH l1.length e5:Value).ownBlock) (.slice eH l1.length e5) l1 _ _ l2 1 3 fO fN fM fL w0 _ kI kH (Kd.JL rfl a0.out) (cA b9 a0) d7.out h1.out) ?_;rintro hJ w79 ⟨aJ,hi,hb,hkp⟩;replace HI0:=am hi;have f0:=mA aJ a0;replace HK:=tA a0 hkp;replace HB:=am hb;clear a0;(try clear hb);(try clear hkp);(try clear aJ))))
    refine bodyPost_ret (pN (rs:=[.tmp 12,.tmp 13,.tmp 14,.tmp 15]) rfl (by simp) (.tmp (.tmp (.tmp (.tmp .nil))))) rfl ?_
    exact⟨_,rfl,sR<|f0.out,kI,kH,sK HK.out⟩
   rw[if_neg bS]at H
   have dJ:(bE==0)=false:=beq_eq_false_iff_ne.mpr bS
   have dI:(bE !=0)=true:=bne_iff_ne.mpr bS
   have dF:=am H;clear H
   go_upto_if 134 with(((with_reducible refine gW ?_);refine gF 33 (some 105) rfl ?_;refine gS Tryz.func33 (JEi _ _ _ _ _ _ _ _ w0 _ kI kH eO.out) ?_;rintro w81 ⟨hi,hb,hk⟩;replace a0:=tI a0 hk;replace HK:=kK HK hk;replace HB:=am hb;replace HI0:=am hi;(try clear hi)));clear hb hk
   (try simp only[Act.put,List.setIfInBounds_toArray,List.set_cons_zero,List.set_cons_succ])
   go_cut [134] (fun fD wc =>∃(kq:Nat) (bF:Bool),fD= .bool bF∧Aside0 (vV kq l1 l2 a3 a4 a5 bF aK bJ bI=some (r1,r2,r3,r4,r5,r6))∧Aside0 (kq≤c_)∧Aside0 (Kd.R k31 33 wc w0.heap.size (fun k_=>(P1_ k_∨w.heap.size≤k_)) u9000_ l1)∧Aside0 (IsS93 w0 wc g aK bJ bI)∧Aside0 (Kept w wc (fun k_=>(P1_ k_)∨k_=g))∧Aside0 (Below w0.heap.size w0 wc))
   case first =>
    have H:=dF.out
    clear dF
    replace H:=iE H;rcases H with⟨cP,eR,H⟩|⟨cP,eR,H⟩
    ·(rw[cP])
     replace H:=am H
     go_wp2
     go_meet
     case rel=>exact⟨_,((bE==1)),(by(simp[*];done)),H,⟨by have:=b_.out;omega⟩,⟨sR<|a0.out⟩,⟨kI⟩,⟨sK HK.out⟩,⟨kH⟩⟩
    (rw[cP])
    replace H:=am H
    go_wp2
    go_meet
    case rel=>exact⟨_,((bE==2)),rfl,H,⟨by have:=b_.out;omega⟩,⟨sR<|a0.out⟩,⟨kI⟩,⟨sK HK.out⟩,⟨kH⟩⟩
   clear dF
   clear bS dJ dI
   obtain⟨kq,bF,rfl,HA,eC,a0,HI0,HK,HB⟩:=hcut
   cases kq with
   | zero=>cases HA.out
   | succ dE =>
    obtain⟨H⟩:=HA
    simp only[vV]at H
    replace H:=iB H;rcases H with⟨rfl,H⟩|⟨rfl,H⟩
    rotate_left
    ·exact c5q
    by_cases c0:a5>0
    ·rw[if_pos c0]at H
     have eQ:decide (0<a5)=true:=decide_eq_true c0
     clear c0
     replace H:=oA H;obtain⟨⟨cH,dZ,dY,dX,dW,dV⟩,h0,H⟩:=H
     try dsimp only at H
     replace H:=oA H;obtain⟨⟨cG,dU,fK,fJ,fI,fH⟩,g_,H⟩:=H
     try dsimp only at H
     replace H:=oA H;obtain⟨⟨fG,hQ,hP⟩,gZ,H⟩:=H
     try dsimp only at H
     replace H:=oA H;obtain⟨⟨fF,fE⟩,gY,H⟩:=H
     try dsimp only at H
     simp only[Option.some.injEq,Prod.mk.injEq]at H
     obtain⟨rfl,rfl,rfl,rfl,rfl,rfl⟩:=H
     obtain⟨eG,e4,rfl⟩:=Kd.JB a0.out
     go_wp2_with (((with_reducible refine gW ?_);first|(refine gF 78 (some 147) rfl ?_;refine gT Tryz.func78 (ih dE (by have:=b_.out;have:=eC.out;omega) g aK bJ bI (fun k_=>some k_=(.slice eG l1.length e4:Value).ownBlock) (.slice eG l1.length e4) l1 _ _ l2 a3 a4 (wrap64 (a5-1)) cH dZ dY dX dW dV w0 _ kI kH (Kd.JL rfl a0.out) (cA b9 a0) d7.out h0.out) ?_;rintro hH w90 ⟨aJ,hi,hb,hkp⟩;replace HI0:=am hi;have bA:=mA aJ a0;replace HK:=tA a0 hkp;replace HB:=am hb;clear a0;(try clear hb);(try clear hkp);(try clear aJ);obtain⟨eF,e3,rfl⟩:=Kd.JB bA.out)|(refine gF 78 (some 160) rfl ?_;refine gT Tryz.func78 (ih dE (by have:=b_.out;have:=eC.out;omega) g aK dW dV (fun k_=>some k_=(.slice eF cH.length e3:Value).ownBlock) (.slice eF cH.length e3) cH _ _ l2 dY dX (wrap64 (a5-1)) cG dU fK fJ fI fH w0 _ kI kH (Kd.JL rfl bA.out) (cA b9 bA) d7.out g_.out) ?_;rintro hG w92 ⟨aJ,hi,hb,hkp⟩;replace HI0:=am hi;have b0:=mA aJ bA;replace HK:=tA bA hkp;replace HB:=am hb;clear bA;(try clear hb);(try clear hkp);(try clear aJ))|(refine gF 33 (some 168) rfl ?_;refine gS Tryz.func33 (JEi _ _ _ _ _ _ _ _ w0 _ kI kH gZ.out) ?_;rintro w93 ⟨hi,hb,hk⟩;replace b0:=tI b0 hk;replace HK:=kK HK hk;replace HB:=am hb;replace HI0:=am hi;(try clear hb);(try clear hk);(try clear hi);obtain⟨eE,e2,rfl⟩:=Kd.JB b0.out)|(refine gF 105 (some 173) rfl ?_;refine gT Tryz.func105 (JMi (fun k_=>some k_=(.slice eE cG.length e2:Value).ownBlock) (.slice eE cG.length e2) cG (wrap64 (3+fG)) 1 0 dZ dU 0 fF fE w0 _ kH (Kd.JL rfl b0.out) gY.out) ?_;rintro hF w95 ⟨aJ,hb,hkp⟩;replace HI0:=am (IsS93.kept (by exact kI) hkp (fun hs_=>(fun e_=>(pA HI0.out b0.out (by decide)) e_) hs_));have eZ:=mA aJ b0;replace HK:=tB b0 hkp;replace HB:=am hb;clear b0;(try clear hb);(try clear hkp);(try clear aJ))))
     refine bodyPost_ret (pN (rs:=[.tmp 12,.tmp 13,.tmp 14,.tmp 15]) rfl (by simp) (.tmp (.tmp (.tmp (.tmp .nil))))) rfl ?_
     exact⟨_,rfl,sR<|eZ.out,kI,kH,sK HK.out⟩
    rw[if_neg c0]at H
    have eQ:decide (0<a5)=false:=decide_eq_false c0
    clear c0
    exact c5q
  replace H:=oA H;obtain⟨⟨a8,bL,bK⟩,fC,H⟩:=H
  try dsimp only at H
  by_cases cB:(wrap64 (1+a8))>a4
  ·rw[if_pos cB]at H
   have eT:decide (a4<(wrap64 (1+a8)))=true:=decide_eq_true cB
   clear cB
   replace H:=oA H;obtain⟨⟨g7,dD,dC⟩,h8,H⟩:=H
   try dsimp only at H
   replace H:=oS H;obtain⟨d9,dL,H⟩:=H
   replace H:=iP H;obtain⟨fB,H⟩:=H
   have cV:=am fB
   clear fB
   replace H:=oS H;obtain⟨cE,cT,H⟩:=H
   replace H:=oS H;obtain⟨b4,cS,H⟩:=H
   replace H:=iP H;obtain⟨fA,H⟩:=H
   have eY:=am fA
   clear fA
   generalize dH:cE++b4=bU at H
   have eW:=am dH.symm;clear dH
   replace H:=oA H;obtain⟨⟨cK,e1,g6,g5,g4,g3⟩,eP,H⟩:=H
   try dsimp only at H
   replace H:=oA H;obtain⟨⟨g2,g1⟩,h7,H⟩:=H
   try dsimp only at H
   simp only[Option.some.injEq,Prod.mk.injEq]at H
   obtain⟨rfl,rfl,rfl,rfl,rfl,rfl⟩:=H
   try go_wp2_with (((with_reducible refine gW ?_);first|(refine gF 33 (some 55) rfl ?_;refine gS Tryz.func33 (JEi _ _ _ _ _ _ _ _ w0 _ kI kH fC.out) ?_;rintro w21 ⟨hi,hb,hk⟩;replace a0:=tI a0 hk;replace HK:=kK HK hk;replace HB:=am hb;replace HI0:=am hi;(try clear hb);(try clear hk);(try clear hi))|(refine bX 17 33 #[.int .i64 0,.int .i64 0,.int .i64 0,.int .i64 0,.int .i64 0,.int .i64 0] ?_;intro a2 hg w22 hbox hb;have aI:=am (Kd.JK (Kd.XE (by exact sR<|a0.out) a2 (Nat.le_of_eq hg.symm)) hb);have aH:=am (IsS93.below (by exact kI) hb);have aG:=am (Kept.below (S:=(fun k_=>(P1_ k_)∨k_=g)) (by exact sK HK.out) hb);have aE:=hX hb (by exact kH);have aD:=am (hbox);have aC:=am ((by rw[hg];exact(by exact HK.out.1):w.heap.size≤a2));have aQ:=am ((by rw[hg];exact(kG (by exact kH)):w0.heap.size≤a2));have cZ:=am ((by rw[hg];exact Nat.ne_of_lt (a6q (show IsS93 w0 _ g aK bL bK from by exact kI)):g≠a2));have cY:=am ((by rw[hg];exact Nat.ne_of_gt (a6q (show IsS93 w0 _ g aK bL bK from by exact kI)):a2≠g));clear a0;clear HI0;clear HK;clear HB;have a0:=aI;have HI0:=aH;have HK:=aG;have HB:=aE;have a7:=aD;have hC:=aC;have hE:=aQ;have dO:=cZ;have bP:=cY;clear aI aH aG aE aD aC aQ cZ cY;clear hb hbox hg;have hnb23:=bP.out;have hnc23:=dO.out;have gN:=cf6 a7.out)|(refine gF 33 (some 65) rfl ?_;refine gS Tryz.func33 (JEi _ _ _ _ _ _ _ _ w0 _ kI kH h8.out) ?_;rintro w25 ⟨hi,hb,hk⟩;replace a0:=am (Kd.JC (Kd.YF (IsS93.apart (show IsS93 w0 _ g aK bL bK from by exact kI) (by exact sR<|(rm (rf 5 (rf 4 (rf 3 (rf 2 (rf 1 (rf 0 (rp a0))))))))) (by decide)) hk (fun _ h=>h.2)) (fun _ h=>h.1));replace a7:=am (KeepBut.blk hk (g':=a2) (o:= .cells #[.int .i64 1,.int .i64 a4,.int .i64 a3,.int .i64 0,.int .i64 0,.int .i64 0] 33 (0,0)) (by exact sB<|pn (by exact sB<|a7.out)) bP.out (by simp));replace HK:=kK HK hk;replace HB:=am hb;replace HI0:=am hi;(try clear hb);(try clear hk);(try clear hi))))
   replace a0:=am (Kd.JR a0.out)
   replace a7:=am (kW a7.out)
   replace HI0:=am (IsS93.drew HI0.out)
   replace HK:=am (Kept.drew HK.out)
   replace HB:=am (kQ HB.out)
   refine vC (n:=7) (S:=fun w'=>w'.cell? ⟨a2,0,none⟩=some (.int .i64 1)∧w'.cell? ⟨a2,1,none⟩=some (.int .i64 a4)∧w'.cell? ⟨a2,2,none⟩=some (.int .i64 a3)∧w'.cell? ⟨a2,3,none⟩=some (.int .i64 0)∧w'.cell? ⟨a2,4,none⟩=some (.int .i64 0)∧w'.cell? ⟨a2,5,none⟩=some (.int .i64 0)) (ds:=[]) #[false,false,false,false,false,false,false] (by kernel_rfl) rfl rfl (cz6 a7.out) (fun hHeld=>?_)
   generalize w25.drew=w26 at a0 a7 HI0 HK HB hHeld ⊢
   refine pS (i:=1) (N:=some 68) #[false,true,false,false,false,false,false] ?_
   refine qY (i:=3) (N:=some 70) (v:=?_) (a':=?_) #[false,true,false,true,false,false,false] rfl rfl (by kernel_rfl) (fun _ _ _ h=>h) (Or.inl ⟨by rfl,?_⟩) hHeld ?_ ?_
   rotate_left
   ·rintro w' ⟨s0,s1,s2,s3,s4,s5⟩
    go_simp
    with_reducible rfl
   rotate_left
   ·exact zL
   refine d6e (σ:=Value×Value×Value) 2 #[true,true,true,true,true,false,false] (fun s_=>[(67,s_.1),(69,s_.2.1),(71,s_.2.2)]) (fun s_ w'=>(w'.cell? ⟨a2,0,none⟩=some (.int .i64 1)∧w'.cell? ⟨a2,1,none⟩=some (.int .i64 a4)∧w'.cell? ⟨a2,2,none⟩=some (.int .i64 a3)∧w'.cell? ⟨a2,3,none⟩=some (.int .i64 0)∧w'.cell? ⟨a2,4,none⟩=some (.int .i64 0)∧w'.cell? ⟨a2,5,none⟩=some (.int .i64 0))∧(Kd.R k31 33 w' w0.heap.size (fun k_=>(P1_ k_∨w.heap.size≤k_)∧some k_≠(s_.2.2:Value).ownBlock∧some k_≠(u9000_:Value).ownBlock∧k_≠a2) s_.2.1 cE)∧(Kd.R k31 33 w' w0.heap.size (fun k_=>(P1_ k_∨w.heap.size≤k_)∧some k_≠(s_.2.1:Value).ownBlock∧some k_≠(u9000_:Value).ownBlock∧k_≠a2) s_.2.2 b4)∧(Kd.R k31 33 w' w0.heap.size (fun k_=>(P1_ k_∨w.heap.size≤k_)∧some k_≠(s_.2.1:Value).ownBlock∧some k_≠(s_.2.2:Value).ownBlock∧k_≠a2) u9000_ l1)∧(w'.heap[a2]? = some (.cells #[.int .i64 1,.int .i64 a4,.int .i64 a3,.int .i64 0,.int .i64 0,.int .i64 0] 33 (0,0)))∧(IsS93 w0 w' g aK dD dC)∧(Kept w w' (fun k_=>(P1_ k_)∨k_=g))∧(Below w0.heap.size w0 w')) ?_ ?_
   rotate_left
   ·intro hCont
    refine d7h (i:=0) (j:=4) (Ni:=some 67) (Nj:=some 71) #[true,true,false,true,false,false,false] #[false,true,false,true,true,false,false] rfl rfl rfl rfl (by kernel_rfl) (by decide) (by decide) (fun K hK=>?_) (fun K hK=>?_)
    ·skip
     refine Kd.YE k31 _ 33 ?hg (N:=67) ?hd (xs:=([]:List (S31))) (inner:=[]) (ok:=fun _=>True) (okp:=fun _=>True) ?hr ?hp (fun _ hk=>hk) trivial (Below.refl _ _) (Nat.le_refl _) (by simp) ?_;(case hd=>rfl);(case hg=>rfl);(case hr=>(go_simp;done));(case hp=>exact(Reps.none _ _))
     intro bD w27 b8 hb hg_ hnew_
     clear hg_ hnew_
     (rw[← dL.out]at b8)
     have aI:=am (Kd.JS (by exact sR<|a0.out) (Kd.JX b8) hb)
     have aH:=am (Kd.JF (Kd.YO (Kd.JN (Kd.YK (M:=fun k_=>(P1_ k_∨w.heap.size≤k_)) b8 (by exact HK.out.1) (fun k_ h_=> .inr h_)) (Kd.JM (by exact sR<|a0.out))) (g:=a2) (o:= .cells #[.int .i64 1,.int .i64 a4,.int .i64 a3,.int .i64 0,.int .i64 0,.int .i64 0] 33 (0,0)) (by exact sB<|a7.out)) (kG (by exact kH)))
     have aG:=am (IsS93.below (by exact kI) hb)
     have aE:=am (kJ (g:=a2) (o:= .cells #[.int .i64 1,.int .i64 a4,.int .i64 a3,.int .i64 0,.int .i64 0,.int .i64 0] 33 (0,0)) (by exact sB<|a7.out) hb)
     have aD:=am (Kept.below (S:=(fun k_=>(P1_ k_)∨k_=g)) (by exact sK HK.out) hb)
     have aC:=hX hb (by exact kH)
     clear a0
     clear HI0
     clear a7
     clear HK
     clear HB
     have a0:=aI
     have aN:=aH
     have HI0:=aG
     have a7:=aE
     have HK:=aD
     have HB:=aC
     clear aI aH aG aE aD aC
     clear hb b8
     refine hK.out _ _ (cz6 a7.out) (fun hHeld=>?_)
     clear hK K
     refine vA (a':=?_) ?_ ?_
     rotate_left
     ·show Act.put _ (some 67) _=_
      exact zL
     refine d7h (i:=2) (j:=4) (Ni:=some 69) (Nj:=some 71) #[true,true,true,true,false,false,false] #[true,true,false,true,true,false,false] rfl rfl rfl rfl (by kernel_rfl) (by decide) (by decide) (fun K hK=>?_) (fun K hK=>?_)
     ·skip
      refine Kd.JY k31 (w0:=w0) w0.heap.size (by rfl) (.tmp 67) (.tmp 68) 24 33 (.agg #[(.int .i64 0),(.int .i64 0),(.int .i64 0),(.int .i64 0),(.int .i64 0),(.int .i64 0)]) 48 rfl Tryz.underlying24 yT rfl (by decide) oM bD d9 l2 _ _ _ (fun k_=>(P1_ k_∨w.heap.size≤k_)∧some k_≠(u9000_:Value).ownBlock∧k_≠a2) (fun _=>False) rfl rfl ?aO ?aR (fun _ _ h=>h) (fun _ h=>h.elim) ?aF ?aB ?aS ?aL ?_
      (case aR=>exact Kd.JU b9.out (by exact sK HK.out))
      (case aB=>exact(by exact kH))
      (case aF=>exact(fun k_ hk=>⟨(.inr (Nat.le_trans (by exact HK.out.1) hk)),Kd.JV (Kd.JM (by exact sR<|a0.out)) k_ hk,Kd.YG (g:=a2) (o:= .cells #[.int .i64 1,.int .i64 a4,.int .i64 a3,.int .i64 0,.int .i64 0,.int .i64 0] 33 (0,0)) (by exact sB<|a7.out) k_ hk⟩))
      (case aO=>exact(by exact sR<|Kd.JC aN.out (fun _ hk=>⟨hk.1.1.1,⟨hk.1.2,hk.2⟩⟩)))
      (case aS=>exact(kG (by exact kH)))
      (case aL=>have:=cV.out;omega)
      intro b6 w29 ho hb hg hat
      rw[← cT.out]at ho
      replace a0:=am (Kd.JW (ok:=(fun k_=>(P1_ k_∨w.heap.size≤k_)∧k_≠a2)) (by exact sR<|a0.out) hg hat)
      replace HI0:=am (IsS93.grown (by exact kI) hg (pA HI0.out aN.out (by decide)))
      replace a7:=am (qT (g:=a2) (o:= .cells #[.int .i64 1,.int .i64 a4,.int .i64 a3,.int .i64 0,.int .i64 0,.int .i64 0] 33 (0,0)) (by exact sB<|a7.out) hg (Kd.YD aN.out (fun _ hk=>hk.2)))
      replace HB:=am hb
      replace HK:=am (qM (S:=(fun k_=>(P1_ k_)∨k_=g)) hg (by exact sK HK.out) (fun k_ e_=>Or.imp_left Or.inl ((aN.out.1 k_ e_).1.1.1)))
      have aU:=am ho
      clear aN
      clear ho hb hg hat
      refine hK.out _ _ (cz6 a7.out) (fun hHeld=>?_)
      clear hK K
      refine vA (a':=?_) ?_ ?_
      rotate_left
      ·show Act.put _ (some 69) _=_
       exact zL
      refine a1t (i:=4) (N:=some 71) #[true,true,true,true,true,false,false] rfl rfl (by kernel_rfl) (by decide) (fun K hK=>?_)
      refine Kd.YE k31 _ 33 ?hg (N:=71) ?hd (xs:=([(⟨1,a4,a3,0,0,0⟩:S31)]:List (S31))) (inner:=[.int .i64 1,.int .i64 a4,.int .i64 a3,.int .i64 0,.int .i64 0,.int .i64 0]) (ok:=fun _=>True) (okp:=fun _=>True) ?hr ?hp (fun _ hk=>hk) trivial (Below.refl _ _) (Nat.le_refl _) (by simp) ?_;(case hd=>rfl);(case hg=>rfl);(case hr=>(go_simp;done));(case hp=>exact(a1j (show Kd.M k31 _ _ _ (⟨1,a4,a3,0,0,0⟩:S31) [.int .i64 1,.int .i64 a4,.int .i64 a3,.int .i64 0,.int .i64 0,.int .i64 0]from(vE _ _ _ (⟨1,a4,a3,0,0,0⟩:S31))) (Reps.none _ _)))
      intro aY w30 bZ hb hg_ hnew_
      clear hg_ hnew_
      (rw[← cS.out]at bZ)
      have aI:=am (Kd.JS (by exact sR<|a0.out) (Kd.JX bZ) hb)
      have aH:=am (Kd.JS (by exact sR<|aU.out) (Kd.JX bZ) hb)
      have aG:=am (Kd.JF (Kd.YO (Kd.JN (Kd.JN (Kd.YK (M:=fun k_=>(P1_ k_∨w.heap.size≤k_)) bZ (by exact HK.out.1) (fun k_ h_=> .inr h_)) (Kd.JM (by exact sR<|a0.out))) (Kd.JM (by exact sR<|aU.out))) (g:=a2) (o:= .cells #[.int .i64 1,.int .i64 a4,.int .i64 a3,.int .i64 0,.int .i64 0,.int .i64 0] 33 (0,0)) (by exact sB<|a7.out)) (kG (by exact kH)))
      have aE:=am (IsS93.below (by exact kI) hb)
      have aD:=am (kJ (g:=a2) (o:= .cells #[.int .i64 1,.int .i64 a4,.int .i64 a3,.int .i64 0,.int .i64 0,.int .i64 0] 33 (0,0)) (by exact sB<|a7.out) hb)
      have aC:=am (Kept.below (S:=(fun k_=>(P1_ k_)∨k_=g)) (by exact sK HK.out) hb)
      have aQ:=hX hb (by exact kH)
      clear a0
      clear aU
      clear HI0
      clear a7
      clear HK
      clear HB
      have a0:=aI
      have aU:=aH
      have aA:=aG
      have HI0:=aE
      have a7:=aD
      have HK:=aC
      have HB:=aQ
      clear aI aH aG aE aD aC aQ
      clear hb bZ
      refine hK.out _ _ (cz6 a7.out) (fun hHeld=>?_)
      clear hK K
      refine vA (a':=?_) ?_ ?_
      rotate_left
      ·show Act.put _ (some 71) _=_
       exact zL
      exact vA (by simp only[a4w,Act.put,List.setIfInBounds_toArray,List.set_cons_zero,List.set_cons_succ]) (hCont (bD,b6,aY) _ ⟨hHeld,(by exact sR<|Kd.JC aU.out (fun _ hk=>⟨hk.1.1,⟨hk.2,⟨hk.1.2.1,hk.1.2.2⟩⟩⟩)),(by exact sR<|Kd.JC aA.out (fun _ hk=>⟨hk.1.1.1.1,⟨hk.1.2,⟨hk.1.1.2,hk.2⟩⟩⟩)),(by exact sR<|Kd.JC a0.out (fun _ hk=>⟨hk.1.1.1,⟨hk.1.2,⟨hk.2,hk.1.1.2⟩⟩⟩)),(by exact sB<|a7.out),(by exact kI),(by exact sK HK.out),(by exact kH)⟩)
     skip
     refine Kd.YE k31 _ 33 ?hg (N:=71) ?hd (xs:=([(⟨1,a4,a3,0,0,0⟩:S31)]:List (S31))) (inner:=[.int .i64 1,.int .i64 a4,.int .i64 a3,.int .i64 0,.int .i64 0,.int .i64 0]) (ok:=fun _=>True) (okp:=fun _=>True) ?hr ?hp (fun _ hk=>hk) trivial (Below.refl _ _) (Nat.le_refl _) (by simp) ?_;(case hd=>rfl);(case hg=>rfl);(case hr=>(go_simp;done));(case hp=>exact(a1j (show Kd.M k31 _ _ _ (⟨1,a4,a3,0,0,0⟩:S31) [.int .i64 1,.int .i64 a4,.int .i64 a3,.int .i64 0,.int .i64 0,.int .i64 0]from(vE _ _ _ (⟨1,a4,a3,0,0,0⟩:S31))) (Reps.none _ _)))
     intro aY w29 a_ hb hg_ hnew_
     clear hg_ hnew_
     (rw[← cS.out]at a_)
     have aI:=am (Kd.JS (by exact sR<|a0.out) (Kd.JX a_) hb)
     have aH:=am (Kd.JS (by exact sR<|aN.out) (Kd.JX a_) hb)
     have aG:=am (Kd.JF (Kd.YO (Kd.JN (Kd.JN (Kd.YK (M:=fun k_=>(P1_ k_∨w.heap.size≤k_)) a_ (by exact HK.out.1) (fun k_ h_=> .inr h_)) (Kd.JM (by exact sR<|a0.out))) (Kd.JM (by exact sR<|aN.out))) (g:=a2) (o:= .cells #[.int .i64 1,.int .i64 a4,.int .i64 a3,.int .i64 0,.int .i64 0,.int .i64 0] 33 (0,0)) (by exact sB<|a7.out)) (kG (by exact kH)))
     have aE:=am (IsS93.below (by exact kI) hb)
     have aD:=am (kJ (g:=a2) (o:= .cells #[.int .i64 1,.int .i64 a4,.int .i64 a3,.int .i64 0,.int .i64 0,.int .i64 0] 33 (0,0)) (by exact sB<|a7.out) hb)
     have aC:=am (Kept.below (S:=(fun k_=>(P1_ k_)∨k_=g)) (by exact sK HK.out) hb)
     have aQ:=hX hb (by exact kH)
     clear a0
     clear aN
     clear HI0
     clear a7
     clear HK
     clear HB
     have a0:=aI
     have aN:=aH
     have aA:=aG
     have HI0:=aE
     have a7:=aD
     have HK:=aC
     have HB:=aQ
     clear aI aH aG aE aD aC aQ
     clear hb a_
     refine hK.out _ _ (cz6 a7.out) (fun hHeld=>?_)
     clear hK K
     refine vA (a':=?_) ?_ ?_
     rotate_left
     ·show Act.put _ (some 71) _=_
      exact zL
     refine a1t (i:=2) (N:=some 69) #[true,true,true,true,true,false,false] rfl rfl (by kernel_rfl) (by decide) (fun K hK=>?_)
     refine Kd.JY k31 (w0:=w0) w0.heap.size (by rfl) (.tmp 67) (.tmp 68) 24 33 (.agg #[(.int .i64 0),(.int .i64 0),(.int .i64 0),(.int .i64 0),(.int .i64 0),(.int .i64 0)]) 48 rfl Tryz.underlying24 yT rfl (by decide) oM bD d9 l2 _ _ _ (fun k_=>(P1_ k_∨w.heap.size≤k_)∧some k_≠(u9000_:Value).ownBlock∧some k_≠(aY:Value).ownBlock∧k_≠a2) (fun _=>False) rfl rfl ?aO ?aR (fun _ _ h=>h) (fun _ h=>h.elim) ?aF ?aB ?aS ?aL ?_
     (case aR=>exact Kd.JU b9.out (by exact sK HK.out))
     (case aB=>exact(by exact kH))
     (case aF=>exact(fun k_ hk=>⟨(.inr (Nat.le_trans (by exact HK.out.1) hk)),Kd.JV (Kd.JM (by exact sR<|a0.out)) k_ hk,Kd.JV (Kd.JM (by exact sR<|aA.out)) k_ hk,Kd.YG (g:=a2) (o:= .cells #[.int .i64 1,.int .i64 a4,.int .i64 a3,.int .i64 0,.int .i64 0,.int .i64 0] 33 (0,0)) (by exact sB<|a7.out) k_ hk⟩))
     (case aO=>exact(by exact sR<|Kd.JC aN.out (fun _ hk=>⟨hk.1.1.1.1,⟨hk.1.1.2,⟨hk.2,hk.1.2⟩⟩⟩)))
     (case aS=>exact(kG (by exact kH)))
     (case aL=>have:=cV.out;omega)
     intro b6 w31 ho hb hg hat
     rw[← cT.out]at ho
     replace a0:=am (Kd.JW (ok:=(fun k_=>(P1_ k_∨w.heap.size≤k_)∧some k_≠(aY:Value).ownBlock∧k_≠a2)) (by exact sR<|Kd.JC a0.out (fun _ hk=>⟨⟨hk.1.1.1,⟨hk.2,hk.1.1.2⟩⟩,hk.1.2⟩)) hg hat)
     replace HI0:=am (IsS93.grown (by exact kI) hg (pA HI0.out aN.out (by decide)))
     replace a7:=am (qT (g:=a2) (o:= .cells #[.int .i64 1,.int .i64 a4,.int .i64 a3,.int .i64 0,.int .i64 0,.int .i64 0] 33 (0,0)) (by exact sB<|a7.out) hg (Kd.YD aN.out (fun _ hk=>hk.1.2)))
     replace aA:=am (Kd.JW (ok:=(fun k_=>(P1_ k_∨w.heap.size≤k_)∧some k_≠(u9000_:Value).ownBlock∧k_≠a2)) (by exact sR<|Kd.JC aA.out (fun _ hk=>⟨⟨hk.1.1.1.1,⟨hk.1.1.2,hk.2⟩⟩,hk.1.2⟩)) hg hat)
     exact c5h
    skip
    refine Kd.YE k31 _ 33 ?hg (N:=71) ?hd (xs:=([(⟨1,a4,a3,0,0,0⟩:S31)]:List (S31))) (inner:=[.int .i64 1,.int .i64 a4,.int .i64 a3,.int .i64 0,.int .i64 0,.int .i64 0]) (ok:=fun _=>True) (okp:=fun _=>True) ?hr ?hp (fun _ hk=>hk) trivial (Below.refl _ _) (Nat.le_refl _) (by simp) ?_;(case hd=>rfl);(case hg=>rfl);(case hr=>(go_simp;done));(case hp=>exact(a1j (show Kd.M k31 _ _ _ (⟨1,a4,a3,0,0,0⟩:S31) [.int .i64 1,.int .i64 a4,.int .i64 a3,.int .i64 0,.int .i64 0,.int .i64 0]from(vE _ _ _ (⟨1,a4,a3,0,0,0⟩:S31))) (Reps.none _ _)))
    intro aY w27 b8 hb hg_ hnew_
    clear hg_ hnew_
    (rw[← cS.out]at b8)
    have aI:=am (Kd.JS (by exact sR<|a0.out) (Kd.JX b8) hb)
    have aH:=am (Kd.JF (Kd.YO (Kd.JN (Kd.YK (M:=fun k_=>(P1_ k_∨w.heap.size≤k_)) b8 (by exact HK.out.1) (fun k_ h_=> .inr h_)) (Kd.JM (by exact sR<|a0.out))) (g:=a2) (o:= .cells #[.int .i64 1,.int .i64 a4,.int .i64 a3,.int .i64 0,.int .i64 0,.int .i64 0] 33 (0,0)) (by exact sB<|a7.out)) (kG (by exact kH)))
    have aG:=am (IsS93.below (by exact kI) hb)
    have aE:=am (kJ (g:=a2) (o:= .cells #[.int .i64 1,.int .i64 a4,.int .i64 a3,.int .i64 0,.int .i64 0,.int .i64 0] 33 (0,0)) (by exact sB<|a7.out) hb)
    have aD:=am (Kept.below (S:=(fun k_=>(P1_ k_)∨k_=g)) (by exact sK HK.out) hb)
    have aC:=hX hb (by exact kH)
    clear a0
    clear HI0
    clear a7
    clear HK
    clear HB
    have a0:=aI
    have aA:=aH
    have HI0:=aG
    have a7:=aE
    have HK:=aD
    have HB:=aC
    clear aI aH aG aE aD aC
    clear hb b8
    refine hK.out _ _ (cz6 a7.out) (fun hHeld=>?_)
    clear hK K
    refine vA (a':=?_) ?_ ?_
    rotate_left
    ·show Act.put _ (some 71) _=_
     exact zL
    refine a1t (i:=0) (N:=some 67) #[true,true,false,true,true,false,false] rfl rfl (by kernel_rfl) (by decide) (fun K hK=>?_)
    refine Kd.YE k31 _ 33 ?hg (N:=67) ?hd (xs:=([]:List (S31))) (inner:=[]) (ok:=fun _=>True) (okp:=fun _=>True) ?hr ?hp (fun _ hk=>hk) trivial (Below.refl _ _) (Nat.le_refl _) (by simp) ?_;(case hd=>rfl);(case hg=>rfl);(case hr=>(go_simp;done));(case hp=>exact(Reps.none _ _))
    intro bD w29 a_ hb hg_ hnew_
    clear hg_ hnew_
    (rw[← dL.out]at a_)
    have aI:=am (Kd.JS (by exact sR<|a0.out) (Kd.JX a_) hb)
    have aH:=am (Kd.JS (by exact sR<|aA.out) (Kd.JX a_) hb)
    have aG:=am (Kd.JF (Kd.YO (Kd.JN (Kd.JN (Kd.YK (M:=fun k_=>(P1_ k_∨w.heap.size≤k_)) a_ (by exact HK.out.1) (fun k_ h_=> .inr h_)) (Kd.JM (by exact sR<|a0.out))) (Kd.JM (by exact sR<|aA.out))) (g:=a2) (o:= .cells #[.int .i64 1,.int .i64 a4,.int .i64 a3,.int .i64 0,.int .i64 0,.int .i64 0] 33 (0,0)) (by exact sB<|a7.out)) (kG (by exact kH)))
    have aE:=am (IsS93.below (by exact kI) hb)
    have aD:=am (kJ (g:=a2) (o:= .cells #[.int .i64 1,.int .i64 a4,.int .i64 a3,.int .i64 0,.int .i64 0,.int .i64 0] 33 (0,0)) (by exact sB<|a7.out) hb)
    have aC:=am (Kept.below (S:=(fun k_=>(P1_ k_)∨k_=g)) (by exact sK HK.out) hb)
    have aQ:=hX hb (by exact kH)
    clear a0
    clear aA
    clear HI0
    clear a7
    clear HK
    clear HB
    have a0:=aI
    have aA:=aH
    have aN:=aG
    have HI0:=aE
    have a7:=aD
    have HK:=aC
    have HB:=aQ
    clear aI aH aG aE aD aC aQ
    clear hb a_
    refine hK.out _ _ (cz6 a7.out) (fun hHeld=>?_)
    clear hK K
    refine vA (a':=?_) ?_ ?_
    rotate_left
    ·show Act.put _ (some 67) _=_
     exact zL
    refine a1t (i:=2) (N:=some 69) #[true,true,true,true,true,false,false] rfl rfl (by kernel_rfl) (by decide) (fun K hK=>?_)
    refine Kd.JY k31 (w0:=w0) w0.heap.size (by rfl) (.tmp 67) (.tmp 68) 24 33 (.agg #[(.int .i64 0),(.int .i64 0),(.int .i64 0),(.int .i64 0),(.int .i64 0),(.int .i64 0)]) 48 rfl Tryz.underlying24 yT rfl (by decide) oM bD d9 l2 _ _ _ (fun k_=>(P1_ k_∨w.heap.size≤k_)∧some k_≠(u9000_:Value).ownBlock∧some k_≠(aY:Value).ownBlock∧k_≠a2) (fun _=>False) rfl rfl ?aO ?aR (fun _ _ h=>h) (fun _ h=>h.elim) ?aF ?aB ?aS ?aL ?_
    (case aR=>exact Kd.JU b9.out (by exact sK HK.out))
    (case aB=>exact(by exact kH))
    (case aF=>exact(fun k_ hk=>⟨(.inr (Nat.le_trans (by exact HK.out.1) hk)),Kd.JV (Kd.JM (by exact sR<|a0.out)) k_ hk,Kd.JV (Kd.JM (by exact sR<|aA.out)) k_ hk,Kd.YG (g:=a2) (o:= .cells #[.int .i64 1,.int .i64 a4,.int .i64 a3,.int .i64 0,.int .i64 0,.int .i64 0] 33 (0,0)) (by exact sB<|a7.out) k_ hk⟩))
    (case aO=>exact(by exact sR<|Kd.JC aN.out (fun _ hk=>⟨hk.1.1.1.1,⟨hk.1.1.2,⟨hk.1.2,hk.2⟩⟩⟩)))
    (case aS=>exact(kG (by exact kH)))
    (case aL=>have:=cV.out;omega)
    intro b6 w31 ho hb hg hat
    rw[← cT.out]at ho
    replace a0:=am (Kd.JW (ok:=(fun k_=>(P1_ k_∨w.heap.size≤k_)∧some k_≠(aY:Value).ownBlock∧k_≠a2)) (by exact sR<|Kd.JC a0.out (fun _ hk=>⟨⟨hk.1.1.1,⟨hk.1.2,hk.1.1.2⟩⟩,hk.2⟩)) hg hat)
    replace HI0:=am (IsS93.grown (by exact kI) hg (pA HI0.out aN.out (by decide)))
    replace a7:=am (qT (g:=a2) (o:= .cells #[.int .i64 1,.int .i64 a4,.int .i64 a3,.int .i64 0,.int .i64 0,.int .i64 0] 33 (0,0)) (by exact sB<|a7.out) hg (Kd.YD aN.out (fun _ hk=>hk.2)))
    replace aA:=am (Kd.JW (ok:=(fun k_=>(P1_ k_∨w.heap.size≤k_)∧some k_≠(u9000_:Value).ownBlock∧k_≠a2)) (by exact sR<|Kd.JC aA.out (fun _ hk=>⟨⟨hk.1.1.1.1,⟨hk.1.1.2,hk.1.2⟩⟩,hk.2⟩)) hg hat)
    exact c5h
   rintro⟨bD,b6,aY⟩ w32 ⟨hS_,d6,d5,d4,d3,d2,d1,d0⟩
   have aI:Aside0 (Kd.R k31 33 w32 w0.heap.size (fun k_=>(P1_ k_∨w.heap.size≤k_)∧some k_≠(aY:Value).ownBlock∧some k_≠(u9000_:Value).ownBlock∧k_≠a2) b6 cE):=⟨d6⟩
   have aH:Aside0 (Kd.R k31 33 w32 w0.heap.size (fun k_=>(P1_ k_∨w.heap.size≤k_)∧some k_≠(b6:Value).ownBlock∧some k_≠(u9000_:Value).ownBlock∧k_≠a2) aY b4):=⟨d5⟩
   have aG:Aside0 (Kd.R k31 33 w32 w0.heap.size (fun k_=>(P1_ k_∨w.heap.size≤k_)∧some k_≠(b6:Value).ownBlock∧some k_≠(aY:Value).ownBlock∧k_≠a2) u9000_ l1):=⟨d4⟩
   have aE:Aside0 (w32.heap[a2]? = some (.cells #[.int .i64 1,.int .i64 a4,.int .i64 a3,.int .i64 0,.int .i64 0,.int .i64 0] 33 (0,0))):=⟨d3⟩
   have aD:Aside0 (IsS93 w0 w32 g aK dD dC):=⟨d2⟩
   have aC:Aside0 (Kept w w32 (fun k_=>(P1_ k_)∨k_=g)):=⟨d1⟩
   have aQ:Aside0 (Below w0.heap.size w0 w32):=⟨d0⟩
   clear a0
   clear a7
   clear HI0
   clear HK
   clear HB
   clear d6 d5 d4 d3 d2 d1 d0
   have aU:=aI
   have aA:=aH
   have a0:=aG
   have a7:=aE
   have HI0:=aD
   have HK:=aC
   have HB:=aQ
   clear aI aH aG aE aD aC aQ
   have hHeld:w32.cell? ⟨a2,0,none⟩=some (.int .i64 1)∧w32.cell? ⟨a2,1,none⟩=some (.int .i64 a4)∧w32.cell? ⟨a2,2,none⟩=some (.int .i64 a3)∧w32.cell? ⟨a2,3,none⟩=some (.int .i64 0)∧w32.cell? ⟨a2,4,none⟩=some (.int .i64 0)∧w32.cell? ⟨a2,5,none⟩=some (.int .i64 0):=hS_
   obtain⟨bR,bN,gH⟩:=Kd.JB aA.out
   (subst gH)
   refine vA (a':=?_) ?_ ?_
   rotate_left
   ·simp only[a4w,Act.put,List.setIfInBounds_toArray,List.set_cons_zero,List.set_cons_succ]
    rfl
   refine a1t (i:=5) (N:=some 72) #[true,true,true,true,true,true,false] rfl rfl (by kernel_rfl) (by decide) (fun K hK=>?_)
   refine Kd.JY k31 (w0:=w0) w0.heap.size (by rfl) (.tmp 69) (.tmp 71) 24 33 (.agg #[(.int .i64 0),(.int .i64 0),(.int .i64 0),(.int .i64 0),(.int .i64 0),(.int .i64 0)]) 48 rfl Tryz.underlying24 yT rfl (by decide) oM b6 cE b4 _ _ _ (fun k_=>(P1_ k_∨w.heap.size≤k_)∧some k_≠(u9000_:Value).ownBlock∧some k_≠(.slice bR b4.length bN:Value).ownBlock∧k_≠a2) (fun _=>False) rfl rfl ?aO ?aR (fun _ _ h=>h) (fun _ h=>h.elim) ?aF ?aB ?aS ?aL ?_
   (case aR=>exact sC (Kd.JA aA.out).2.2)
   (case aB=>exact(by exact kH))
   (case aF=>exact(fun k_ hk=>⟨(.inr (Nat.le_trans (by exact HK.out.1) hk)),Kd.JV (Kd.JM (by exact sR<|a0.out)) k_ hk,Kd.JV (Kd.JM (by exact sR<|aA.out)) k_ hk,Kd.YG (g:=a2) (o:= .cells #[.int .i64 1,.int .i64 a4,.int .i64 a3,.int .i64 0,.int .i64 0,.int .i64 0] 33 (0,0)) (by exact sB<|a7.out) k_ hk⟩))
   (case aO=>exact(by exact sR<|Kd.JC aU.out (fun _ hk=>⟨hk.1,⟨hk.2.2.1,⟨hk.2.1,hk.2.2.2⟩⟩⟩)))
   (case aS=>exact(kG (by exact kH)))
   (case aL=>have:=eY.out;omega)
   intro hO w33 ho hb hg hat
   rw[← eW.out]at ho
   replace a0:=am (Kd.JW (ok:=(fun k_=>(P1_ k_∨w.heap.size≤k_)∧some k_≠(.slice bR b4.length bN:Value).ownBlock∧k_≠a2)) (by exact sR<|Kd.JC a0.out (fun _ hk=>⟨⟨hk.1,⟨hk.2.2.1,hk.2.2.2⟩⟩,hk.2.1⟩)) hg hat)
   replace HI0:=am (IsS93.grown (by exact kI) hg (pA HI0.out aU.out (by decide)))
   replace a7:=am (qT (g:=a2) (o:= .cells #[.int .i64 1,.int .i64 a4,.int .i64 a3,.int .i64 0,.int .i64 0,.int .i64 0] 33 (0,0)) (by exact sB<|a7.out) hg (Kd.YD aU.out (fun _ hk=>hk.2.2.2)))
   replace aA:=am (Kd.JW (ok:=(fun k_=>(P1_ k_∨w.heap.size≤k_)∧some k_≠(u9000_:Value).ownBlock∧k_≠a2)) (by exact sR<|Kd.JC aA.out (fun _ hk=>⟨⟨hk.1,⟨hk.2.2.1,hk.2.2.2⟩⟩,hk.2.1⟩)) hg hat)
   replace HB:=am hb
   replace HK:=am (qM (S:=(fun k_=>(P1_ k_)∨k_=g)) hg (by exact sK HK.out) (fun k_ e_=>Or.imp_left Or.inl ((aU.out.1 k_ e_).1)))
   have aW:=am ho
   clear aU
   clear ho hb hg hat
   refine hK.out _ _ (cz6 a7.out) (fun hHeld=>?_)
   clear hK K
   refine vA (a':=?_) ?_ ?_
   rotate_left
   ·show Act.put _ (some 72) _=_
    exact zL
   refine pS (i:=6) (N:=some 19) #[true,true,true,true,true,true,true] ?_
   refine a1s (by kernel_rfl) ?_
   obtain⟨eN,eB,rfl⟩:=Kd.JB a0.out
   obtain⟨cX,cO,rfl⟩:=Kd.JB aW.out
   have eP:=am (by have h:=eP.out;rw[show wrap64 (a4-a4)=0 by simp[wrap64]]at h;exact h)
   try go_wp2_with (((with_reducible refine gW ?_);first|(refine gF 78 (some 84) rfl ?_;refine gT Tryz.func78 (ih c_ (by have:=b_.out;omega) g aK dD dC (fun k_=>some k_=(.slice eN l1.length eB:Value).ownBlock) (.slice eN l1.length eB) l1 _ _ bU (wrap64 (a3+1)) 0 (wrap64 (a5-1)) cK e1 g6 g5 g4 g3 w0 _ kI kH (Kd.JL rfl a0.out) (Kd.YQ ((IsS93.apart HI0.out aW.out (by decide))) (fun k_ hk_ hs_=>Or.elim hs_ (fun hs_=>(hk_.1.2.1) hs_) (fun e_=>(hk_.2) e_))) ((Kd.JA aW.out).2.1) eP.out) ?_;rintro dT w37 ⟨aJ,hi,hb,hkp⟩;have b2:=am (Kd.JC (ok':=fun k_=>(P1_ k_∨w.heap.size≤k_)∧some k_≠(.slice bR b4.length bN:Value).ownBlock∧some k_≠(.slice cX bU.length cO:Value).ownBlock∧k_≠a2) aJ (fun k_ hk_=>⟨Or.elim hk_ (fun hs_=>(a0.out.1 k_ (hs_).symm).1.1) (fun hn_=>(.inr (Nat.le_trans (by exact HK.out.1) hn_))),Or.elim hk_ (fun hs_=>fun e_=>((((IsS93.apart HI0.out aA.out (by decide))).1 k_ e_.symm).1.1.2.1) hs_) (fun hn_=>(Kd.JV (Kd.JM (by exact sR<|aA.out)) k_ hn_)),Or.elim hk_ (fun hs_=>fun e_=>((((IsS93.apart HI0.out aW.out (by decide))).1 k_ e_.symm).1.2.1) hs_) (fun hn_=>(Kd.JV (Kd.JM (by exact sR<|aW.out)) k_ hn_)),Or.elim hk_ (fun hs_=>fun e_=>(Kd.YD a0.out (fun _ hk=>hk.1.2.2)) (by rw[← e_];exact hs_)) (fun hn_=>(Kd.YG (g:=a2) (o:= .cells #[.int .i64 1,.int .i64 a4,.int .i64 a3,.int .i64 0,.int .i64 0,.int .i64 0] 33 (0,0)) (by exact sB<|a7.out) k_ hn_))⟩));replace a7:=am (xD (by exact sB<|a7.out) hkp (fun hs_=>Or.elim hs_ (fun hs_=>(fun e_=>(Kd.YD a0.out (fun _ hk=>hk.1.2.2)) e_) hs_) (fun e_=>bP.out e_)));replace aA:=am (Kd.JC (ok':=fun k_=>(P1_ k_∨w.heap.size≤k_)∧some k_≠(.slice cX bU.length cO:Value).ownBlock∧k_≠a2∧some k_≠(dT:Value).ownBlock) (Kd.YI ((IsS93.apart HI0.out aA.out (by decide))) hkp (fun k_ hk_ hs_=>Or.elim hs_ (fun hs_=>(hk_.1.1.2.1) hs_) (fun e_=>(hk_.2) e_))) (fun k_ hk_=>⟨hk_.1.1.1.1,hk_.1.1.2,hk_.1.1.1.2.2,fun e_=>Or.elim (aJ.1 k_ e_.symm) (fun hs_=>hk_.2.1 (by exact .inl hs_)) (fun hn_=>Nat.not_le.2 hk_.2.2 hn_)⟩));replace aW:=am (Kd.JC (ok':=fun k_=>(P1_ k_∨w.heap.size≤k_)∧some k_≠(.slice bR b4.length bN:Value).ownBlock∧k_≠a2∧some k_≠(dT:Value).ownBlock) (Kd.YI ((IsS93.apart HI0.out aW.out (by decide))) hkp (fun k_ hk_ hs_=>Or.elim hs_ (fun hs_=>(hk_.1.2.1) hs_) (fun e_=>(hk_.2) e_))) (fun k_ hk_=>⟨hk_.1.1.1,hk_.1.1.2.2.1,hk_.1.1.2.2.2,fun e_=>Or.elim (aJ.1 k_ e_.symm) (fun hs_=>hk_.2.1 (by exact .inl hs_)) (fun hn_=>Nat.not_le.2 hk_.2.2 hn_)⟩));replace HI0:=am hi;replace HK:=am (Kept.then_ (S:=(fun k_=>(P1_ k_)∨k_=g)) (by exact sK HK.out) hkp (fun k_ hs_=>Or.elim hs_ (fun hs_=>(fun e_=>Or.imp_left Or.inl ((a0.out.1 k_ e_.symm).1.1)) hs_) (fun e_=> .inl (.inr e_))));replace HB:=am hb;clear a0;(try clear hb);(try clear hkp);(try clear aJ);have gM:=cf6 a7.out;obtain⟨eM,eA,rfl⟩:=Kd.JB b2.out)|(refine gF 105 (some 97) rfl ?_;refine gT Tryz.func105 (JMi (fun k_=>some k_=(.slice eM cK.length eA:Value).ownBlock) (.slice eM cK.length eA) cK (wrap64 (19+g7)) 1 a3 e1 a4 0 g2 g1 w0 _ kH (Kd.JL rfl b2.out) h7.out) ?_;rintro dS w40 ⟨aJ,hb,hkp⟩;replace HI0:=am (IsS93.kept (by exact kI) hkp (fun hs_=>(fun e_=>(pA HI0.out b2.out (by decide)) e_) hs_));have f3:=am (Kd.JC (ok':=fun k_=>(P1_ k_∨w.heap.size≤k_)∧some k_≠(.slice bR b4.length bN:Value).ownBlock∧some k_≠(.slice cX bU.length cO:Value).ownBlock∧k_≠a2) aJ (fun k_ hk_=>⟨Or.elim hk_ (fun hs_=>(b2.out.1 k_ (hs_).symm).1) (fun hn_=>(.inr (Nat.le_trans (by exact HK.out.1) hn_))),Or.elim hk_ (fun hs_=>fun e_=>(((aA.out).1 k_ e_.symm).2.2.2) hs_) (fun hn_=>(Kd.JV (Kd.JM (by exact sR<|aA.out)) k_ hn_)),Or.elim hk_ (fun hs_=>fun e_=>(((aW.out).1 k_ e_.symm).2.2.2) hs_) (fun hn_=>(Kd.JV (Kd.JM (by exact sR<|aW.out)) k_ hn_)),Or.elim hk_ (fun hs_=>fun e_=>(Kd.YD b2.out (fun _ hk=>hk.2.2.2)) (by rw[← e_];exact hs_)) (fun hn_=>(Kd.YG (g:=a2) (o:= .cells #[.int .i64 1,.int .i64 a4,.int .i64 a3,.int .i64 0,.int .i64 0,.int .i64 0] 33 (0,0)) (by exact sB<|a7.out) k_ hn_))⟩));replace a7:=am (xD (by exact sB<|a7.out) hkp (fun hs_=>(fun e_=>(Kd.YD b2.out (fun _ hk=>hk.2.2.2)) e_) hs_));replace aA:=am (Kd.JC (ok':=fun k_=>(P1_ k_∨w.heap.size≤k_)∧some k_≠(.slice cX bU.length cO:Value).ownBlock∧k_≠a2∧some k_≠(dS:Value).ownBlock) (Kd.YI (aA.out) hkp (fun k_ hk_ hs_=>(hk_.2.2.2) hs_)) (fun k_ hk_=>⟨hk_.1.1,hk_.1.2.1,hk_.1.2.2.1,fun e_=>Or.elim (aJ.1 k_ e_.symm) (fun hs_=>hk_.2.1 (by exact hs_)) (fun hn_=>Nat.not_le.2 hk_.2.2 hn_)⟩));replace aW:=am (Kd.JC (ok':=fun k_=>(P1_ k_∨w.heap.size≤k_)∧some k_≠(.slice bR b4.length bN:Value).ownBlock∧k_≠a2∧some k_≠(dS:Value).ownBlock) (Kd.YI (aW.out) hkp (fun k_ hk_ hs_=>(hk_.2.2.2) hs_)) (fun k_ hk_=>⟨hk_.1.1,hk_.1.2.1,hk_.1.2.2.1,fun e_=>Or.elim (aJ.1 k_ e_.symm) (fun hs_=>hk_.2.1 (by exact hs_)) (fun hn_=>Nat.not_le.2 hk_.2.2 hn_)⟩));replace HK:=am (Kept.then_ (S:=(fun k_=>(P1_ k_)∨k_=g)) (by exact sK HK.out) hkp (fun k_ hs_=>(fun e_=>Or.imp_left Or.inl ((b2.out.1 k_ e_.symm).1)) hs_));replace HB:=am hb;clear b2;(try clear hb);(try clear hkp);(try clear aJ))))
   refine bodyPost_ret (pN (rs:=[.tmp 12,.tmp 13,.tmp 14,.tmp 15]) rfl (by simp) (.tmp (.tmp (.tmp (.tmp .nil))))) rfl ?_
   exact⟨_,rfl,sR<|Kd.JC f3.out (fun _ hk=>hk.1),kI,kH,sK HK.out⟩
  rw[if_neg cB]at H
  have eT:decide (a4<(wrap64 (1+a8)))=false:=decide_eq_false cB
  clear cB
  replace H:=oA H;obtain⟨⟨g0,dB,dA⟩,h6,H⟩:=H
  try dsimp only at H
  replace H:=oS H;obtain⟨d8,dK,H⟩:=H
  replace H:=iP H;obtain⟨f9,H⟩:=H
  have cU:=am f9
  clear f9
  replace H:=oS H;obtain⟨cC,cR,H⟩:=H
  replace H:=oS H;obtain⟨b3,cQ,H⟩:=H
  replace H:=iP H;obtain⟨f8,H⟩:=H
  have eX:=am f8
  clear f8
  generalize dG:cC++b3=bT at H
  have eV:=am dG.symm;clear dG
  replace H:=oA H;obtain⟨⟨cJ,e0,f_,fZ,fY,fX⟩,h5,H⟩:=H
  try dsimp only at H
  replace H:=oA H;obtain⟨⟨fW,fV⟩,h4,H⟩:=H
  try dsimp only at H
  simp only[Option.some.injEq,Prod.mk.injEq]at H
  obtain⟨rfl,rfl,rfl,rfl,rfl,rfl⟩:=H
  try go_wp2_with (((with_reducible refine gW ?_);first|(refine gF 33 (some 55) rfl ?_;refine gS Tryz.func33 (JEi _ _ _ _ _ _ _ _ w0 _ kI kH fC.out) ?_;rintro w46 ⟨hi,hb,hk⟩;replace a0:=tI a0 hk;replace HK:=kK HK hk;replace HB:=am hb;replace HI0:=am hi;(try clear hb);(try clear hk);(try clear hi))|(refine bX 17 33 #[.int .i64 0,.int .i64 0,.int .i64 0,.int .i64 0,.int .i64 0,.int .i64 0] ?_;intro a1 hg w47 hbox hb;have aI:=am (Kd.JK (Kd.XE (by exact sR<|a0.out) a1 (Nat.le_of_eq hg.symm)) hb);have aH:=am (IsS93.below (by exact kI) hb);have aG:=am (Kept.below (S:=(fun k_=>(P1_ k_)∨k_=g)) (by exact sK HK.out) hb);have aE:=hX hb (by exact kH);have aD:=am (hbox);have aC:=am ((by rw[hg];exact(by exact HK.out.1):w.heap.size≤a1));have aQ:=am ((by rw[hg];exact(kG (by exact kH)):w0.heap.size≤a1));have cZ:=am ((by rw[hg];exact Nat.ne_of_lt (a6q (show IsS93 w0 _ g aK bL bK from by exact kI)):g≠a1));have cY:=am ((by rw[hg];exact Nat.ne_of_gt (a6q (show IsS93 w0 _ g aK bL bK from by exact kI)):a1≠g));clear a0;clear HI0;clear HK;clear HB;have a0:=aI;have HI0:=aH;have HK:=aG;have HB:=aE;have a6:=aD;have hA:=aC;have hD:=aQ;have dN:=cZ;have bO:=cY;clear aI aH aG aE aD aC aQ cZ cY;clear hb hbox hg;have hnb48:=bO.out;have hnc48:=dN.out;have gL:=cf6 a6.out)|(refine gF 33 (some 65) rfl ?_;refine gS Tryz.func33 (JEi _ _ _ _ _ _ _ _ w0 _ kI kH h6.out) ?_;rintro w50 ⟨hi,hb,hk⟩;replace a0:=am (Kd.JC (Kd.YF (IsS93.apart (show IsS93 w0 _ g aK bL bK from by exact kI) (by exact sR<|(rm (rf 5 (rf 4 (rf 3 (rf 2 (rf 1 (rf 0 (rp a0))))))))) (by decide)) hk (fun _ h=>h.2)) (fun _ h=>h.1));replace a6:=am (KeepBut.blk hk (g':=a1) (o:= .cells #[.int .i64 1,.int .i64 (wrap64 (1+a8)),.int .i64 a3,.int .i64 0,.int .i64 0,.int .i64 0] 33 (0,0)) (by exact sB<|pn (by exact sB<|a6.out)) bO.out (by simp));replace HK:=kK HK hk;replace HB:=am hb;replace HI0:=am hi;(try clear hb);(try clear hk);(try clear hi))))
  replace a0:=am (Kd.JR a0.out)
  replace a6:=am (kW a6.out)
  replace HI0:=am (IsS93.drew HI0.out)
  replace HK:=am (Kept.drew HK.out)
  replace HB:=am (kQ HB.out)
  refine vC (n:=7) (S:=fun w'=>w'.cell? ⟨a1,0,none⟩=some (.int .i64 1)∧w'.cell? ⟨a1,1,none⟩=some (.int .i64 (wrap64 (1+a8)))∧w'.cell? ⟨a1,2,none⟩=some (.int .i64 a3)∧w'.cell? ⟨a1,3,none⟩=some (.int .i64 0)∧w'.cell? ⟨a1,4,none⟩=some (.int .i64 0)∧w'.cell? ⟨a1,5,none⟩=some (.int .i64 0)) (ds:=[]) #[false,false,false,false,false,false,false] (by kernel_rfl) rfl rfl (cz6 a6.out) (fun hHeld=>?_)
  generalize w50.drew=w51 at a0 a6 HI0 HK HB hHeld ⊢
  refine pS (i:=1) (N:=some 68) #[false,true,false,false,false,false,false] ?_
  refine qY (i:=3) (N:=some 70) (v:=?_) (a':=?_) #[false,true,false,true,false,false,false] rfl rfl (by kernel_rfl) (fun _ _ _ h=>h) (Or.inl ⟨by rfl,?_⟩) hHeld ?_ ?_
  rotate_left
  ·rintro w' ⟨s0,s1,s2,s3,s4,s5⟩
   go_simp
   with_reducible rfl
  rotate_left
  ·exact zL
  refine d6e (σ:=Value×Value×Value) 2 #[true,true,true,true,true,false,false] (fun s_=>[(67,s_.1),(69,s_.2.1),(71,s_.2.2)]) (fun s_ w'=>(w'.cell? ⟨a1,0,none⟩=some (.int .i64 1)∧w'.cell? ⟨a1,1,none⟩=some (.int .i64 (wrap64 (1+a8)))∧w'.cell? ⟨a1,2,none⟩=some (.int .i64 a3)∧w'.cell? ⟨a1,3,none⟩=some (.int .i64 0)∧w'.cell? ⟨a1,4,none⟩=some (.int .i64 0)∧w'.cell? ⟨a1,5,none⟩=some (.int .i64 0))∧(Kd.R k31 33 w' w0.heap.size (fun k_=>(P1_ k_∨w.heap.size≤k_)∧some k_≠(s_.2.2:Value).ownBlock∧some k_≠(u9000_:Value).ownBlock∧k_≠a1) s_.2.1 cC)∧(Kd.R k31 33 w' w0.heap.size (fun k_=>(P1_ k_∨w.heap.size≤k_)∧some k_≠(s_.2.1:Value).ownBlock∧some k_≠(u9000_:Value).ownBlock∧k_≠a1) s_.2.2 b3)∧(Kd.R k31 33 w' w0.heap.size (fun k_=>(P1_ k_∨w.heap.size≤k_)∧some k_≠(s_.2.1:Value).ownBlock∧some k_≠(s_.2.2:Value).ownBlock∧k_≠a1) u9000_ l1)∧(w'.heap[a1]? = some (.cells #[.int .i64 1,.int .i64 (wrap64 (1+a8)),.int .i64 a3,.int .i64 0,.int .i64 0,.int .i64 0] 33 (0,0)))∧(IsS93 w0 w' g aK dB dA)∧(Kept w w' (fun k_=>(P1_ k_)∨k_=g))∧(Below w0.heap.size w0 w')) ?_ ?_
  rotate_left
  ·intro hCont
   refine d7h (i:=0) (j:=4) (Ni:=some 67) (Nj:=some 71) #[true,true,false,true,false,false,false] #[false,true,false,true,true,false,false] rfl rfl rfl rfl (by kernel_rfl) (by decide) (by decide) (fun K hK=>?_) (fun K hK=>?_)
   ·skip
    refine Kd.YE k31 _ 33 ?hg (N:=67) ?hd (xs:=([]:List (S31))) (inner:=[]) (ok:=fun _=>True) (okp:=fun _=>True) ?hr ?hp (fun _ hk=>hk) trivial (Below.refl _ _) (Nat.le_refl _) (by simp) ?_;(case hd=>rfl);(case hg=>rfl);(case hr=>(go_simp;done));(case hp=>exact(Reps.none _ _))
    intro bC w52 b7 hb hg_ hnew_
    clear hg_ hnew_
    (rw[← dK.out]at b7)
    have aI:=am (Kd.JS (by exact sR<|a0.out) (Kd.JX b7) hb)
    have aH:=am (Kd.JF (Kd.YO (Kd.JN (Kd.YK (M:=fun k_=>(P1_ k_∨w.heap.size≤k_)) b7 (by exact HK.out.1) (fun k_ h_=> .inr h_)) (Kd.JM (by exact sR<|a0.out))) (g:=a1) (o:= .cells #[.int .i64 1,.int .i64 (wrap64 (1+a8)),.int .i64 a3,.int .i64 0,.int .i64 0,.int .i64 0] 33 (0,0)) (by exact sB<|a6.out)) (kG (by exact kH)))
    have aG:=am (IsS93.below (by exact kI) hb)
    have aE:=am (kJ (g:=a1) (o:= .cells #[.int .i64 1,.int .i64 (wrap64 (1+a8)),.int .i64 a3,.int .i64 0,.int .i64 0,.int .i64 0] 33 (0,0)) (by exact sB<|a6.out) hb)
    have aD:=am (Kept.below (S:=(fun k_=>(P1_ k_)∨k_=g)) (by exact sK HK.out) hb)
    have aC:=hX hb (by exact kH)
    clear a0
    clear HI0
    clear a6
    clear HK
    clear HB
    have a0:=aI
    have aM:=aH
    have HI0:=aG
    have a6:=aE
    have HK:=aD
    have HB:=aC
    clear aI aH aG aE aD aC
    clear hb b7
    refine hK.out _ _ (cz6 a6.out) (fun hHeld=>?_)
    clear hK K
    refine vA (a':=?_) ?_ ?_
    rotate_left
    ·show Act.put _ (some 67) _=_
     exact zL
    refine d7h (i:=2) (j:=4) (Ni:=some 69) (Nj:=some 71) #[true,true,true,true,false,false,false] #[true,true,false,true,true,false,false] rfl rfl rfl rfl (by kernel_rfl) (by decide) (by decide) (fun K hK=>?_) (fun K hK=>?_)
    ·skip
     refine Kd.JY k31 (w0:=w0) w0.heap.size (by rfl) (.tmp 67) (.tmp 68) 24 33 (.agg #[(.int .i64 0),(.int .i64 0),(.int .i64 0),(.int .i64 0),(.int .i64 0),(.int .i64 0)]) 48 rfl Tryz.underlying24 yT rfl (by decide) oM bC d8 l2 _ _ _ (fun k_=>(P1_ k_∨w.heap.size≤k_)∧some k_≠(u9000_:Value).ownBlock∧k_≠a1) (fun _=>False) rfl rfl ?aO ?aR (fun _ _ h=>h) (fun _ h=>h.elim) ?aF ?aB ?aS ?aL ?_
     (case aR=>exact Kd.JU b9.out (by exact sK HK.out))
     (case aB=>exact(by exact kH))
     (case aF=>exact(fun k_ hk=>⟨(.inr (Nat.le_trans (by exact HK.out.1) hk)),Kd.JV (Kd.JM (by exact sR<|a0.out)) k_ hk,Kd.YG (g:=a1) (o:= .cells #[.int .i64 1,.int .i64 (wrap64 (1+a8)),.int .i64 a3,.int .i64 0,.int .i64 0,.int .i64 0] 33 (0,0)) (by exact sB<|a6.out) k_ hk⟩))
     (case aO=>exact(by exact sR<|Kd.JC aM.out (fun _ hk=>⟨hk.1.1.1,⟨hk.1.2,hk.2⟩⟩)))
     (case aS=>exact(kG (by exact kH)))
     (case aL=>have:=cU.out;omega)
     intro b5 w54 ho hb hg hat
     rw[← cR.out]at ho
     replace a0:=am (Kd.JW (ok:=(fun k_=>(P1_ k_∨w.heap.size≤k_)∧k_≠a1)) (by exact sR<|a0.out) hg hat)
     replace HI0:=am (IsS93.grown (by exact kI) hg (pA HI0.out aM.out (by decide)))
     replace a6:=am (qT (g:=a1) (o:= .cells #[.int .i64 1,.int .i64 (wrap64 (1+a8)),.int .i64 a3,.int .i64 0,.int .i64 0,.int .i64 0] 33 (0,0)) (by exact sB<|a6.out) hg (Kd.YD aM.out (fun _ hk=>hk.2)))
     replace HB:=am hb
     replace HK:=am (qM (S:=(fun k_=>(P1_ k_)∨k_=g)) hg (by exact sK HK.out) (fun k_ e_=>Or.imp_left Or.inl ((aM.out.1 k_ e_).1.1.1)))
     have aT:=am ho
     clear aM
     clear ho hb hg hat
     refine hK.out _ _ (cz6 a6.out) (fun hHeld=>?_)
     clear hK K
     refine vA (a':=?_) ?_ ?_
     rotate_left
     ·show Act.put _ (some 69) _=_
      exact zL
     refine a1t (i:=4) (N:=some 71) #[true,true,true,true,true,false,false] rfl rfl (by kernel_rfl) (by decide) (fun K hK=>?_)
     refine Kd.YE k31 _ 33 ?hg (N:=71) ?hd (xs:=([(⟨1,wrap64 (1+a8),a3,0,0,0⟩:S31)]:List (S31))) (inner:=[.int .i64 1,.int .i64 (wrap64 (1+a8)),.int .i64 a3,.int .i64 0,.int .i64 0,.int .i64 0]) (ok:=fun _=>True) (okp:=fun _=>True) ?hr ?hp (fun _ hk=>hk) trivial (Below.refl _ _) (Nat.le_refl _) (by simp) ?_;(case hd=>rfl);(case hg=>rfl);(case hr=>(go_simp;done));(case hp=>exact(a1j (show Kd.M k31 _ _ _ (⟨1,wrap64 (1+a8),a3,0,0,0⟩:S31) [.int .i64 1,.int .i64 (wrap64 (1+a8)),.int .i64 a3,.int .i64 0,.int .i64 0,.int .i64 0]from(vE _ _ _ (⟨1,wrap64 (1+a8),a3,0,0,0⟩:S31))) (Reps.none _ _)))
     intro aX w55 bV hb hg_ hnew_
     clear hg_ hnew_
     (rw[← cQ.out]at bV)
     have aI:=am (Kd.JS (by exact sR<|a0.out) (Kd.JX bV) hb)
     have aH:=am (Kd.JS (by exact sR<|aT.out) (Kd.JX bV) hb)
     have aG:=am (Kd.JF (Kd.YO (Kd.JN (Kd.JN (Kd.YK (M:=fun k_=>(P1_ k_∨w.heap.size≤k_)) bV (by exact HK.out.1) (fun k_ h_=> .inr h_)) (Kd.JM (by exact sR<|a0.out))) (Kd.JM (by exact sR<|aT.out))) (g:=a1) (o:= .cells #[.int .i64 1,.int .i64 (wrap64 (1+a8)),.int .i64 a3,.int .i64 0,.int .i64 0,.int .i64 0] 33 (0,0)) (by exact sB<|a6.out)) (kG (by exact kH)))
     have aE:=am (IsS93.below (by exact kI) hb)
     have aD:=am (kJ (g:=a1) (o:= .cells #[.int .i64 1,.int .i64 (wrap64 (1+a8)),.int .i64 a3,.int .i64 0,.int .i64 0,.int .i64 0] 33 (0,0)) (by exact sB<|a6.out) hb)
     have aC:=am (Kept.below (S:=(fun k_=>(P1_ k_)∨k_=g)) (by exact sK HK.out) hb)
     have aQ:=hX hb (by exact kH)
     clear a0
     clear aT
     clear HI0
     clear a6
     clear HK
     clear HB
     have a0:=aI
     have aT:=aH
     have a9:=aG
     have HI0:=aE
     have a6:=aD
     have HK:=aC
     have HB:=aQ
     clear aI aH aG aE aD aC aQ
     clear hb bV
     refine hK.out _ _ (cz6 a6.out) (fun hHeld=>?_)
     clear hK K
     refine vA (a':=?_) ?_ ?_
     rotate_left
     ·show Act.put _ (some 71) _=_
      exact zL
     exact vA (by simp only[a4w,Act.put,List.setIfInBounds_toArray,List.set_cons_zero,List.set_cons_succ]) (hCont (bC,b5,aX) _ ⟨hHeld,(by exact sR<|Kd.JC aT.out (fun _ hk=>⟨hk.1.1,⟨hk.2,⟨hk.1.2.1,hk.1.2.2⟩⟩⟩)),(by exact sR<|Kd.JC a9.out (fun _ hk=>⟨hk.1.1.1.1,⟨hk.1.2,⟨hk.1.1.2,hk.2⟩⟩⟩)),(by exact sR<|Kd.JC a0.out (fun _ hk=>⟨hk.1.1.1,⟨hk.1.2,⟨hk.2,hk.1.1.2⟩⟩⟩)),(by exact sB<|a6.out),(by exact kI),(by exact sK HK.out),(by exact kH)⟩)
    skip
    refine Kd.YE k31 _ 33 ?hg (N:=71) ?hd (xs:=([(⟨1,wrap64 (1+a8),a3,0,0,0⟩:S31)]:List (S31))) (inner:=[.int .i64 1,.int .i64 (wrap64 (1+a8)),.int .i64 a3,.int .i64 0,.int .i64 0,.int .i64 0]) (ok:=fun _=>True) (okp:=fun _=>True) ?hr ?hp (fun _ hk=>hk) trivial (Below.refl _ _) (Nat.le_refl _) (by simp) ?_;(case hd=>rfl);(case hg=>rfl);(case hr=>(go_simp;done));(case hp=>exact(a1j (show Kd.M k31 _ _ _ (⟨1,wrap64 (1+a8),a3,0,0,0⟩:S31) [.int .i64 1,.int .i64 (wrap64 (1+a8)),.int .i64 a3,.int .i64 0,.int .i64 0,.int .i64 0]from(vE _ _ _ (⟨1,wrap64 (1+a8),a3,0,0,0⟩:S31))) (Reps.none _ _)))
    intro aX w54 aZ hb hg_ hnew_
    clear hg_ hnew_
    (rw[← cQ.out]at aZ)
    have aI:=am (Kd.JS (by exact sR<|a0.out) (Kd.JX aZ) hb)
    have aH:=am (Kd.JS (by exact sR<|aM.out) (Kd.JX aZ) hb)
    have aG:=am (Kd.JF (Kd.YO (Kd.JN (Kd.JN (Kd.YK (M:=fun k_=>(P1_ k_∨w.heap.size≤k_)) aZ (by exact HK.out.1) (fun k_ h_=> .inr h_)) (Kd.JM (by exact sR<|a0.out))) (Kd.JM (by exact sR<|aM.out))) (g:=a1) (o:= .cells #[.int .i64 1,.int .i64 (wrap64 (1+a8)),.int .i64 a3,.int .i64 0,.int .i64 0,.int .i64 0] 33 (0,0)) (by exact sB<|a6.out)) (kG (by exact kH)))
    have aE:=am (IsS93.below (by exact kI) hb)
    have aD:=am (kJ (g:=a1) (o:= .cells #[.int .i64 1,.int .i64 (wrap64 (1+a8)),.int .i64 a3,.int .i64 0,.int .i64 0,.int .i64 0] 33 (0,0)) (by exact sB<|a6.out) hb)
    have aC:=am (Kept.below (S:=(fun k_=>(P1_ k_)∨k_=g)) (by exact sK HK.out) hb)
    have aQ:=hX hb (by exact kH)
    clear a0
    clear aM
    clear HI0
    clear a6
    clear HK
    clear HB
    have a0:=aI
    have aM:=aH
    have a9:=aG
    have HI0:=aE
    have a6:=aD
    have HK:=aC
    have HB:=aQ
    clear aI aH aG aE aD aC aQ
    clear hb aZ
    refine hK.out _ _ (cz6 a6.out) (fun hHeld=>?_)
    clear hK K
    refine vA (a':=?_) ?_ ?_
    rotate_left
    ·show Act.put _ (some 71) _=_
     exact zL
    refine a1t (i:=2) (N:=some 69) #[true,true,true,true,true,false,false] rfl rfl (by kernel_rfl) (by decide) (fun K hK=>?_)
    refine Kd.JY k31 (w0:=w0) w0.heap.size (by rfl) (.tmp 67) (.tmp 68) 24 33 (.agg #[(.int .i64 0),(.int .i64 0),(.int .i64 0),(.int .i64 0),(.int .i64 0),(.int .i64 0)]) 48 rfl Tryz.underlying24 yT rfl (by decide) oM bC d8 l2 _ _ _ (fun k_=>(P1_ k_∨w.heap.size≤k_)∧some k_≠(u9000_:Value).ownBlock∧some k_≠(aX:Value).ownBlock∧k_≠a1) (fun _=>False) rfl rfl ?aO ?aR (fun _ _ h=>h) (fun _ h=>h.elim) ?aF ?aB ?aS ?aL ?_
    (case aR=>exact Kd.JU b9.out (by exact sK HK.out))
    (case aB=>exact(by exact kH))
    (case aF=>exact(fun k_ hk=>⟨(.inr (Nat.le_trans (by exact HK.out.1) hk)),Kd.JV (Kd.JM (by exact sR<|a0.out)) k_ hk,Kd.JV (Kd.JM (by exact sR<|a9.out)) k_ hk,Kd.YG (g:=a1) (o:= .cells #[.int .i64 1,.int .i64 (wrap64 (1+a8)),.int .i64 a3,.int .i64 0,.int .i64 0,.int .i64 0] 33 (0,0)) (by exact sB<|a6.out) k_ hk⟩))
    (case aO=>exact(by exact sR<|Kd.JC aM.out (fun _ hk=>⟨hk.1.1.1.1,⟨hk.1.1.2,⟨hk.2,hk.1.2⟩⟩⟩)))
    (case aS=>exact(kG (by exact kH)))
    (case aL=>have:=cU.out;omega)
    intro b5 w56 ho hb hg hat
    rw[← cR.out]at ho
    replace a0:=am (Kd.JW (ok:=(fun k_=>(P1_ k_∨w.heap.size≤k_)∧some k_≠(aX:Value).ownBlock∧k_≠a1)) (by exact sR<|Kd.JC a0.out (fun _ hk=>⟨⟨hk.1.1.1,⟨hk.2,hk.1.1.2⟩⟩,hk.1.2⟩)) hg hat)
    replace HI0:=am (IsS93.grown (by exact kI) hg (pA HI0.out aM.out (by decide)))
    replace a6:=am (qT (g:=a1) (o:= .cells #[.int .i64 1,.int .i64 (wrap64 (1+a8)),.int .i64 a3,.int .i64 0,.int .i64 0,.int .i64 0] 33 (0,0)) (by exact sB<|a6.out) hg (Kd.YD aM.out (fun _ hk=>hk.1.2)))
    replace a9:=am (Kd.JW (ok:=(fun k_=>(P1_ k_∨w.heap.size≤k_)∧some k_≠(u9000_:Value).ownBlock∧k_≠a1)) (by exact sR<|Kd.JC a9.out (fun _ hk=>⟨⟨hk.1.1.1.1,⟨hk.1.1.2,hk.2⟩⟩,hk.1.2⟩)) hg hat)
    exact c5a
   skip
   refine Kd.YE k31 _ 33 ?hg (N:=71) ?hd (xs:=([(⟨1,wrap64 (1+a8),a3,0,0,0⟩:S31)]:List (S31))) (inner:=[.int .i64 1,.int .i64 (wrap64 (1+a8)),.int .i64 a3,.int .i64 0,.int .i64 0,.int .i64 0]) (ok:=fun _=>True) (okp:=fun _=>True) ?hr ?hp (fun _ hk=>hk) trivial (Below.refl _ _) (Nat.le_refl _) (by simp) ?_;(case hd=>rfl);(case hg=>rfl);(case hr=>(go_simp;done));(case hp=>exact(a1j (show Kd.M k31 _ _ _ (⟨1,wrap64 (1+a8),a3,0,0,0⟩:S31) [.int .i64 1,.int .i64 (wrap64 (1+a8)),.int .i64 a3,.int .i64 0,.int .i64 0,.int .i64 0]from(vE _ _ _ (⟨1,wrap64 (1+a8),a3,0,0,0⟩:S31))) (Reps.none _ _)))
   intro aX w52 b7 hb hg_ hnew_
   clear hg_ hnew_
   (rw[← cQ.out]at b7)
   have aI:=am (Kd.JS (by exact sR<|a0.out) (Kd.JX b7) hb)
   have aH:=am (Kd.JF (Kd.YO (Kd.JN (Kd.YK (M:=fun k_=>(P1_ k_∨w.heap.size≤k_)) b7 (by exact HK.out.1) (fun k_ h_=> .inr h_)) (Kd.JM (by exact sR<|a0.out))) (g:=a1) (o:= .cells #[.int .i64 1,.int .i64 (wrap64 (1+a8)),.int .i64 a3,.int .i64 0,.int .i64 0,.int .i64 0] 33 (0,0)) (by exact sB<|a6.out)) (kG (by exact kH)))
   have aG:=am (IsS93.below (by exact kI) hb)
   have aE:=am (kJ (g:=a1) (o:= .cells #[.int .i64 1,.int .i64 (wrap64 (1+a8)),.int .i64 a3,.int .i64 0,.int .i64 0,.int .i64 0] 33 (0,0)) (by exact sB<|a6.out) hb)
   have aD:=am (Kept.below (S:=(fun k_=>(P1_ k_)∨k_=g)) (by exact sK HK.out) hb)
   have aC:=hX hb (by exact kH)
   clear a0
   clear HI0
   clear a6
   clear HK
   clear HB
   have a0:=aI
   have a9:=aH
   have HI0:=aG
   have a6:=aE
   have HK:=aD
   have HB:=aC
   clear aI aH aG aE aD aC
   clear hb b7
   refine hK.out _ _ (cz6 a6.out) (fun hHeld=>?_)
   clear hK K
   refine vA (a':=?_) ?_ ?_
   rotate_left
   ·show Act.put _ (some 71) _=_
    exact zL
   refine a1t (i:=0) (N:=some 67) #[true,true,false,true,true,false,false] rfl rfl (by kernel_rfl) (by decide) (fun K hK=>?_)
   refine Kd.YE k31 _ 33 ?hg (N:=67) ?hd (xs:=([]:List (S31))) (inner:=[]) (ok:=fun _=>True) (okp:=fun _=>True) ?hr ?hp (fun _ hk=>hk) trivial (Below.refl _ _) (Nat.le_refl _) (by simp) ?_;(case hd=>rfl);(case hg=>rfl);(case hr=>(go_simp;done));(case hp=>exact(Reps.none _ _))
   intro bC w54 aZ hb hg_ hnew_
   clear hg_ hnew_
   (rw[← dK.out]at aZ)
   have aI:=am (Kd.JS (by exact sR<|a0.out) (Kd.JX aZ) hb)
   have aH:=am (Kd.JS (by exact sR<|a9.out) (Kd.JX aZ) hb)
   have aG:=am (Kd.JF (Kd.YO (Kd.JN (Kd.JN (Kd.YK (M:=fun k_=>(P1_ k_∨w.heap.size≤k_)) aZ (by exact HK.out.1) (fun k_ h_=> .inr h_)) (Kd.JM (by exact sR<|a0.out))) (Kd.JM (by exact sR<|a9.out))) (g:=a1) (o:= .cells #[.int .i64 1,.int .i64 (wrap64 (1+a8)),.int .i64 a3,.int .i64 0,.int .i64 0,.int .i64 0] 33 (0,0)) (by exact sB<|a6.out)) (kG (by exact kH)))
   have aE:=am (IsS93.below (by exact kI) hb)
   have aD:=am (kJ (g:=a1) (o:= .cells #[.int .i64 1,.int .i64 (wrap64 (1+a8)),.int .i64 a3,.int .i64 0,.int .i64 0,.int .i64 0] 33 (0,0)) (by exact sB<|a6.out) hb)
   have aC:=am (Kept.below (S:=(fun k_=>(P1_ k_)∨k_=g)) (by exact sK HK.out) hb)
   have aQ:=hX hb (by exact kH)
   clear a0
   clear a9
   clear HI0
   clear a6
   clear HK
   clear HB
   have a0:=aI
   have a9:=aH
   have aM:=aG
   have HI0:=aE
   have a6:=aD
   have HK:=aC
   have HB:=aQ
   clear aI aH aG aE aD aC aQ
   clear hb aZ
   refine hK.out _ _ (cz6 a6.out) (fun hHeld=>?_)
   clear hK K
   refine vA (a':=?_) ?_ ?_
   rotate_left
   ·show Act.put _ (some 67) _=_
    exact zL
   refine a1t (i:=2) (N:=some 69) #[true,true,true,true,true,false,false] rfl rfl (by kernel_rfl) (by decide) (fun K hK=>?_)
   refine Kd.JY k31 (w0:=w0) w0.heap.size (by rfl) (.tmp 67) (.tmp 68) 24 33 (.agg #[(.int .i64 0),(.int .i64 0),(.int .i64 0),(.int .i64 0),(.int .i64 0),(.int .i64 0)]) 48 rfl Tryz.underlying24 yT rfl (by decide) oM bC d8 l2 _ _ _ (fun k_=>(P1_ k_∨w.heap.size≤k_)∧some k_≠(u9000_:Value).ownBlock∧some k_≠(aX:Value).ownBlock∧k_≠a1) (fun _=>False) rfl rfl ?aO ?aR (fun _ _ h=>h) (fun _ h=>h.elim) ?aF ?aB ?aS ?aL ?_
   (case aR=>exact Kd.JU b9.out (by exact sK HK.out))
   (case aB=>exact(by exact kH))
   (case aF=>exact(fun k_ hk=>⟨(.inr (Nat.le_trans (by exact HK.out.1) hk)),Kd.JV (Kd.JM (by exact sR<|a0.out)) k_ hk,Kd.JV (Kd.JM (by exact sR<|a9.out)) k_ hk,Kd.YG (g:=a1) (o:= .cells #[.int .i64 1,.int .i64 (wrap64 (1+a8)),.int .i64 a3,.int .i64 0,.int .i64 0,.int .i64 0] 33 (0,0)) (by exact sB<|a6.out) k_ hk⟩))
   (case aO=>exact(by exact sR<|Kd.JC aM.out (fun _ hk=>⟨hk.1.1.1.1,⟨hk.1.1.2,⟨hk.1.2,hk.2⟩⟩⟩)))
   (case aS=>exact(kG (by exact kH)))
   (case aL=>have:=cU.out;omega)
   intro b5 w56 ho hb hg hat
   rw[← cR.out]at ho
   replace a0:=am (Kd.JW (ok:=(fun k_=>(P1_ k_∨w.heap.size≤k_)∧some k_≠(aX:Value).ownBlock∧k_≠a1)) (by exact sR<|Kd.JC a0.out (fun _ hk=>⟨⟨hk.1.1.1,⟨hk.1.2,hk.1.1.2⟩⟩,hk.2⟩)) hg hat)
   replace HI0:=am (IsS93.grown (by exact kI) hg (pA HI0.out aM.out (by decide)))
   replace a6:=am (qT (g:=a1) (o:= .cells #[.int .i64 1,.int .i64 (wrap64 (1+a8)),.int .i64 a3,.int .i64 0,.int .i64 0,.int .i64 0] 33 (0,0)) (by exact sB<|a6.out) hg (Kd.YD aM.out (fun _ hk=>hk.2)))
   replace a9:=am (Kd.JW (ok:=(fun k_=>(P1_ k_∨w.heap.size≤k_)∧some k_≠(u9000_:Value).ownBlock∧k_≠a1)) (by exact sR<|Kd.JC a9.out (fun _ hk=>⟨⟨hk.1.1.1.1,⟨hk.1.1.2,hk.1.2⟩⟩,hk.2⟩)) hg hat)
   exact c5a
  rintro⟨bC,b5,aX⟩ w57 ⟨hS_,d6,d5,d4,d3,d2,d1,d0⟩
  have aI:Aside0 (Kd.R k31 33 w57 w0.heap.size (fun k_=>(P1_ k_∨w.heap.size≤k_)∧some k_≠(aX:Value).ownBlock∧some k_≠(u9000_:Value).ownBlock∧k_≠a1) b5 cC):=⟨d6⟩
  have aH:Aside0 (Kd.R k31 33 w57 w0.heap.size (fun k_=>(P1_ k_∨w.heap.size≤k_)∧some k_≠(b5:Value).ownBlock∧some k_≠(u9000_:Value).ownBlock∧k_≠a1) aX b3):=⟨d5⟩
  have aG:Aside0 (Kd.R k31 33 w57 w0.heap.size (fun k_=>(P1_ k_∨w.heap.size≤k_)∧some k_≠(b5:Value).ownBlock∧some k_≠(aX:Value).ownBlock∧k_≠a1) u9000_ l1):=⟨d4⟩
  have aE:Aside0 (w57.heap[a1]? = some (.cells #[.int .i64 1,.int .i64 (wrap64 (1+a8)),.int .i64 a3,.int .i64 0,.int .i64 0,.int .i64 0] 33 (0,0))):=⟨d3⟩
  have aD:Aside0 (IsS93 w0 w57 g aK dB dA):=⟨d2⟩
  have aC:Aside0 (Kept w w57 (fun k_=>(P1_ k_)∨k_=g)):=⟨d1⟩
  have aQ:Aside0 (Below w0.heap.size w0 w57):=⟨d0⟩
  clear a0
  clear a6
  clear HI0
  clear HK
  clear HB
  clear d6 d5 d4 d3 d2 d1 d0
  have aT:=aI
  have a9:=aH
  have a0:=aG
  have a6:=aE
  have HI0:=aD
  have HK:=aC
  have HB:=aQ
  clear aI aH aG aE aD aC aQ
  have hHeld:w57.cell? ⟨a1,0,none⟩=some (.int .i64 1)∧w57.cell? ⟨a1,1,none⟩=some (.int .i64 (wrap64 (1+a8)))∧w57.cell? ⟨a1,2,none⟩=some (.int .i64 a3)∧w57.cell? ⟨a1,3,none⟩=some (.int .i64 0)∧w57.cell? ⟨a1,4,none⟩=some (.int .i64 0)∧w57.cell? ⟨a1,5,none⟩=some (.int .i64 0):=hS_
  obtain⟨bQ,bM,gE⟩:=Kd.JB a9.out
  (subst gE)
  refine vA (a':=?_) ?_ ?_
  rotate_left
  ·simp only[a4w,Act.put,List.setIfInBounds_toArray,List.set_cons_zero,List.set_cons_succ]
   rfl
  refine a1t (i:=5) (N:=some 72) #[true,true,true,true,true,true,false] rfl rfl (by kernel_rfl) (by decide) (fun K hK=>?_)
  refine Kd.JY k31 (w0:=w0) w0.heap.size (by rfl) (.tmp 69) (.tmp 71) 24 33 (.agg #[(.int .i64 0),(.int .i64 0),(.int .i64 0),(.int .i64 0),(.int .i64 0),(.int .i64 0)]) 48 rfl Tryz.underlying24 yT rfl (by decide) oM b5 cC b3 _ _ _ (fun k_=>(P1_ k_∨w.heap.size≤k_)∧some k_≠(u9000_:Value).ownBlock∧some k_≠(.slice bQ b3.length bM:Value).ownBlock∧k_≠a1) (fun _=>False) rfl rfl ?aO ?aR (fun _ _ h=>h) (fun _ h=>h.elim) ?aF ?aB ?aS ?aL ?_
  (case aR=>exact sC (Kd.JA a9.out).2.2)
  (case aB=>exact(by exact kH))
  (case aF=>exact(fun k_ hk=>⟨(.inr (Nat.le_trans (by exact HK.out.1) hk)),Kd.JV (Kd.JM (by exact sR<|a0.out)) k_ hk,Kd.JV (Kd.JM (by exact sR<|a9.out)) k_ hk,Kd.YG (g:=a1) (o:= .cells #[.int .i64 1,.int .i64 (wrap64 (1+a8)),.int .i64 a3,.int .i64 0,.int .i64 0,.int .i64 0] 33 (0,0)) (by exact sB<|a6.out) k_ hk⟩))
  (case aO=>exact(by exact sR<|Kd.JC aT.out (fun _ hk=>⟨hk.1,⟨hk.2.2.1,⟨hk.2.1,hk.2.2.2⟩⟩⟩)))
  (case aS=>exact(kG (by exact kH)))
  (case aL=>have:=eX.out;omega)
  intro hN w58 ho hb hg hat
  rw[← eV.out]at ho
  replace a0:=am (Kd.JW (ok:=(fun k_=>(P1_ k_∨w.heap.size≤k_)∧some k_≠(.slice bQ b3.length bM:Value).ownBlock∧k_≠a1)) (by exact sR<|Kd.JC a0.out (fun _ hk=>⟨⟨hk.1,⟨hk.2.2.1,hk.2.2.2⟩⟩,hk.2.1⟩)) hg hat)
  replace HI0:=am (IsS93.grown (by exact kI) hg (pA HI0.out aT.out (by decide)))
  replace a6:=am (qT (g:=a1) (o:= .cells #[.int .i64 1,.int .i64 (wrap64 (1+a8)),.int .i64 a3,.int .i64 0,.int .i64 0,.int .i64 0] 33 (0,0)) (by exact sB<|a6.out) hg (Kd.YD aT.out (fun _ hk=>hk.2.2.2)))
  replace a9:=am (Kd.JW (ok:=(fun k_=>(P1_ k_∨w.heap.size≤k_)∧some k_≠(u9000_:Value).ownBlock∧k_≠a1)) (by exact sR<|Kd.JC a9.out (fun _ hk=>⟨⟨hk.1,⟨hk.2.2.1,hk.2.2.2⟩⟩,hk.2.1⟩)) hg hat)
  replace HB:=am hb
  replace HK:=am (qM (S:=(fun k_=>(P1_ k_)∨k_=g)) hg (by exact sK HK.out) (fun k_ e_=>Or.imp_left Or.inl ((aT.out.1 k_ e_).1)))
  have aV:=am ho
  clear aT
  clear ho hb hg hat
  refine hK.out _ _ (cz6 a6.out) (fun hHeld=>?_)
  clear hK K
  refine vA (a':=?_) ?_ ?_
  rotate_left
  ·show Act.put _ (some 72) _=_
   exact zL
  refine pS (i:=6) (N:=some 19) #[true,true,true,true,true,true,true] ?_
  refine a1s (by kernel_rfl) ?_
  obtain⟨eL,e9,rfl⟩:=Kd.JB a0.out
  obtain⟨cW,cN,rfl⟩:=Kd.JB aV.out
  try go_wp2_with (((with_reducible refine gW ?_);first|(refine gF 78 (some 84) rfl ?_;refine gT Tryz.func78 (ih c_ (by have:=b_.out;omega) g aK dB dA (fun k_=>some k_=(.slice eL l1.length e9:Value).ownBlock) (.slice eL l1.length e9) l1 _ _ bT (wrap64 (a3+1)) (wrap64 (a4-(wrap64 (1+a8)))) (wrap64 (a5-1)) cJ e0 f_ fZ fY fX w0 _ kI kH (Kd.JL rfl a0.out) (Kd.YQ ((IsS93.apart HI0.out aV.out (by decide))) (fun k_ hk_ hs_=>Or.elim hs_ (fun hs_=>(hk_.1.2.1) hs_) (fun e_=>(hk_.2) e_))) ((Kd.JA aV.out).2.1) h5.out) ?_;rintro dQ w62 ⟨aJ,hi,hb,hkp⟩;have b1:=am (Kd.JC (ok':=fun k_=>(P1_ k_∨w.heap.size≤k_)∧some k_≠(.slice bQ b3.length bM:Value).ownBlock∧some k_≠(.slice cW bT.length cN:Value).ownBlock∧k_≠a1) aJ (fun k_ hk_=>⟨Or.elim hk_ (fun hs_=>(a0.out.1 k_ (hs_).symm).1.1) (fun hn_=>(.inr (Nat.le_trans (by exact HK.out.1) hn_))),Or.elim hk_ (fun hs_=>fun e_=>((((IsS93.apart HI0.out a9.out (by decide))).1 k_ e_.symm).1.1.2.1) hs_) (fun hn_=>(Kd.JV (Kd.JM (by exact sR<|a9.out)) k_ hn_)),Or.elim hk_ (fun hs_=>fun e_=>((((IsS93.apart HI0.out aV.out (by decide))).1 k_ e_.symm).1.2.1) hs_) (fun hn_=>(Kd.JV (Kd.JM (by exact sR<|aV.out)) k_ hn_)),Or.elim hk_ (fun hs_=>fun e_=>(Kd.YD a0.out (fun _ hk=>hk.1.2.2)) (by rw[← e_];exact hs_)) (fun hn_=>(Kd.YG (g:=a1) (o:= .cells #[.int .i64 1,.int .i64 (wrap64 (1+a8)),.int .i64 a3,.int .i64 0,.int .i64 0,.int .i64 0] 33 (0,0)) (by exact sB<|a6.out) k_ hn_))⟩));replace a6:=am (xD (by exact sB<|a6.out) hkp (fun hs_=>Or.elim hs_ (fun hs_=>(fun e_=>(Kd.YD a0.out (fun _ hk=>hk.1.2.2)) e_) hs_) (fun e_=>bO.out e_)));replace a9:=am (Kd.JC (ok':=fun k_=>(P1_ k_∨w.heap.size≤k_)∧some k_≠(.slice cW bT.length cN:Value).ownBlock∧k_≠a1∧some k_≠(dQ:Value).ownBlock) (Kd.YI ((IsS93.apart HI0.out a9.out (by decide))) hkp (fun k_ hk_ hs_=>Or.elim hs_ (fun hs_=>(hk_.1.1.2.1) hs_) (fun e_=>(hk_.2) e_))) (fun k_ hk_=>⟨hk_.1.1.1.1,hk_.1.1.2,hk_.1.1.1.2.2,fun e_=>Or.elim (aJ.1 k_ e_.symm) (fun hs_=>hk_.2.1 (by exact .inl hs_)) (fun hn_=>Nat.not_le.2 hk_.2.2 hn_)⟩));replace aV:=am (Kd.JC (ok':=fun k_=>(P1_ k_∨w.heap.size≤k_)∧some k_≠(.slice bQ b3.length bM:Value).ownBlock∧k_≠a1∧some k_≠(dQ:Value).ownBlock) (Kd.YI ((IsS93.apart HI0.out aV.out (by decide))) hkp (fun k_ hk_ hs_=>Or.elim hs_ (fun hs_=>(hk_.1.2.1) hs_) (fun e_=>(hk_.2) e_))) (fun k_ hk_=>⟨hk_.1.1.1,hk_.1.1.2.2.1,hk_.1.1.2.2.2,fun e_=>Or.elim (aJ.1 k_ e_.symm) (fun hs_=>hk_.2.1 (by exact .inl hs_)) (fun hn_=>Nat.not_le.2 hk_.2.2 hn_)⟩));replace HI0:=am hi;replace HK:=am (Kept.then_ (S:=(fun k_=>(P1_ k_)∨k_=g)) (by exact sK HK.out) hkp (fun k_ hs_=>Or.elim hs_ (fun hs_=>(fun e_=>Or.imp_left Or.inl ((a0.out.1 k_ e_.symm).1.1)) hs_) (fun e_=> .inl (.inr e_))));replace HB:=am hb;clear a0;(try clear hb);(try clear hkp);(try clear aJ);have gK:=cf6 a6.out;obtain⟨eK,e8,rfl⟩:=Kd.JB b1.out)|(refine gF 105 (some 97) rfl ?_;refine gT Tryz.func105 (JMi (fun k_=>some k_=(.slice eK cJ.length e8:Value).ownBlock) (.slice eK cJ.length e8) cJ (wrap64 (19+g0)) 1 a3 e0 (wrap64 (1+a8)) 0 fW fV w0 _ kH (Kd.JL rfl b1.out) h4.out) ?_;rintro dP w65 ⟨aJ,hb,hkp⟩;replace HI0:=am (IsS93.kept (by exact kI) hkp (fun hs_=>(fun e_=>(pA HI0.out b1.out (by decide)) e_) hs_));have f2:=am (Kd.JC (ok':=fun k_=>(P1_ k_∨w.heap.size≤k_)∧some k_≠(.slice bQ b3.length bM:Value).ownBlock∧some k_≠(.slice cW bT.length cN:Value).ownBlock∧k_≠a1) aJ (fun k_ hk_=>⟨Or.elim hk_ (fun hs_=>(b1.out.1 k_ (hs_).symm).1) (fun hn_=>(.inr (Nat.le_trans (by exact HK.out.1) hn_))),Or.elim hk_ (fun hs_=>fun e_=>(((a9.out).1 k_ e_.symm).2.2.2) hs_) (fun hn_=>(Kd.JV (Kd.JM (by exact sR<|a9.out)) k_ hn_)),Or.elim hk_ (fun hs_=>fun e_=>(((aV.out).1 k_ e_.symm).2.2.2) hs_) (fun hn_=>(Kd.JV (Kd.JM (by exact sR<|aV.out)) k_ hn_)),Or.elim hk_ (fun hs_=>fun e_=>(Kd.YD b1.out (fun _ hk=>hk.2.2.2)) (by rw[← e_];exact hs_)) (fun hn_=>(Kd.YG (g:=a1) (o:= .cells #[.int .i64 1,.int .i64 (wrap64 (1+a8)),.int .i64 a3,.int .i64 0,.int .i64 0,.int .i64 0] 33 (0,0)) (by exact sB<|a6.out) k_ hn_))⟩));replace a6:=am (xD (by exact sB<|a6.out) hkp (fun hs_=>(fun e_=>(Kd.YD b1.out (fun _ hk=>hk.2.2.2)) e_) hs_));replace a9:=am (Kd.JC (ok':=fun k_=>(P1_ k_∨w.heap.size≤k_)∧some k_≠(.slice cW bT.length cN:Value).ownBlock∧k_≠a1∧some k_≠(dP:Value).ownBlock) (Kd.YI (a9.out) hkp (fun k_ hk_ hs_=>(hk_.2.2.2) hs_)) (fun k_ hk_=>⟨hk_.1.1,hk_.1.2.1,hk_.1.2.2.1,fun e_=>Or.elim (aJ.1 k_ e_.symm) (fun hs_=>hk_.2.1 (by exact hs_)) (fun hn_=>Nat.not_le.2 hk_.2.2 hn_)⟩));replace aV:=am (Kd.JC (ok':=fun k_=>(P1_ k_∨w.heap.size≤k_)∧some k_≠(.slice bQ b3.length bM:Value).ownBlock∧k_≠a1∧some k_≠(dP:Value).ownBlock) (Kd.YI (aV.out) hkp (fun k_ hk_ hs_=>(hk_.2.2.2) hs_)) (fun k_ hk_=>⟨hk_.1.1,hk_.1.2.1,hk_.1.2.2.1,fun e_=>Or.elim (aJ.1 k_ e_.symm) (fun hs_=>hk_.2.1 (by exact hs_)) (fun hn_=>Nat.not_le.2 hk_.2.2 hn_)⟩));replace HK:=am (Kept.then_ (S:=(fun k_=>(P1_ k_)∨k_=g)) (by exact sK HK.out) hkp (fun k_ hs_=>(fun e_=>Or.imp_left Or.inl ((b1.out.1 k_ e_.symm).1)) hs_));replace HB:=am hb;clear b1;(try clear hb);(try clear hkp);(try clear aJ))))
  refine bodyPost_ret (pN (rs:=[.tmp 12,.tmp 13,.tmp 14,.tmp 15]) rfl (by simp) (.tmp (.tmp (.tmp (.tmp .nil))))) rfl ?_
  exact⟨_,rfl,sR<|Kd.JC f2.out (fun _ hk=>hk.1),kI,kH,sK HK.out⟩
end Go.Proofs.YtkpipmojkhikaaaGreat.PAll
