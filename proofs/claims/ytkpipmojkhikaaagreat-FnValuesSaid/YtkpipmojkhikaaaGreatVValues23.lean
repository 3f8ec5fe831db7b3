/- Go functions as Lean functions: a call comes to what they say. -/
import Derived.Test.YtkpipmojkhikaaaGreatVValues11
import Derived.Test.YtkpipmojkhikaaaGreatVValues20
namespace Go.Proofs.YtkpipmojkhikaaaGreat.PAll
open Go.RowKit Go.A_ Go.B_ Go.C_ Go.D_
attribute [local go_sem] rF rC tE tD qK qJ rD rA
set_option linter.unusedVariables false
set_option maxHeartbeats 8000000
set_option maxRecDepth 100000
set_option linter.unusedSimpArgs false
mutual
def pC:Nat→List (S31)→List ByteArray→List Bool→List (S31)→Int→Int→Option (ByteArray×Bool)
 | 0,_,_,_,_,_,_=>none
 | k+1,x0,x4,x5,a1,a2,a0=>if a0<a2 then(if 0≤a0 then(if a0<(a1.length:Int)then((a1d k ((kA a1 a0).f0) ((kA a1 a0).f1) ((kA a1 a0).f2) ((kA a1 a0).f3) ((kA a1 a0).f4) ((kA a1 a0).f5)).bind fun aI=>(if a0<(x5.length:Int)then((wI k ((kA a1 a0).f0) ((kA a1 a0).f1) ((kA a1 a0).f2) ((kA a1 a0).f3) ((kA a1 a0).f4) ((kA a1 a0).f5)).bind fun aG=>(tC k x0 x4 (x5.set (a0:Int).toNat true) a0 aI a1 a2 a0 aG (aG.length:Int) 0 ((kA a1 a0).f0) ((kA a1 a0).f1) ((kA a1 a0).f2) ((kA a1 a0).f3) ((kA a1 a0).f4) ((kA a1 a0).f5)))else(none)))else(none))else(none))else(if 0≤(wrap64 ((x0.length:Int)-1))then(if(wrap64 ((x0.length:Int)-1))<(x4.length:Int)then(if(wrap64 ((x0.length:Int)-1))<(x5.length:Int)then(some (wH ByteArray.empty x4 (wrap64 ((x0.length:Int)-1)),wH false x5 (wrap64 ((x0.length:Int)-1))))else(none))else(none))else(none))
def tC:Nat→List (S31)→List ByteArray→List Bool→Int→ByteArray→List (S31)→Int→Int→List Int→Int→Int→Int→Int→Int→Int→Int→Int→Option (ByteArray×Bool)
 | 0,_,_,_,_,_,_,_,_,_,_,_,_,_,_,_,_,_=>none
 | k+1,x0,x4,x5,x6,x8,a1,a2,a0,a4,aF,a3,aA,a9,a8,a7,a6,a5=>if a3<aF then(if 0≤a3 then(if a3<(a4.length:Int)then(if x8.size+1≤9223372036854775807 then(if 0≤(rd a4 a3)then(if(rd a4 a3)<(x4.length:Int)then(if(x8++(⟨#[32]⟩:ByteArray)).size+(wH ByteArray.empty x4 (rd a4 a3)).size≤9223372036854775807 then(if 0≤x6 then(if x6<(x5.length:Int)then(if wH false x5 x6=true then(if(rd a4 a3)<(x5.length:Int)then(tC k x0 x4 (x5.set (x6:Int).toNat (wH false x5 (rd a4 a3))) x6 ((x8++(⟨#[32]⟩:ByteArray))++(wH ByteArray.empty x4 (rd a4 a3))) a1 a2 a0 a4 aF (wrap64 (a3+1)) aA a9 a8 a7 a6 a5)else(none))else(tC k x0 x4 (x5.set (x6:Int).toNat false) x6 ((x8++(⟨#[32]⟩:ByteArray))++(wH ByteArray.empty x4 (rd a4 a3))) a1 a2 a0 a4 aF (wrap64 (a3+1)) aA a9 a8 a7 a6 a5))else(none))else(none))else(none))else(none))else(none))else(none))else(none))else(none))else((wI k aA a9 a8 a7 a6 a5).bind fun aH=>(if(aH.length:Int)>0 then(if x8.size+1≤9223372036854775807 then(if 0≤x6 then(if x6<(x5.length:Int)then(if wH false x5 x6=true then((some (x5.set (x6:Int).toNat (decide (((x8++(⟨#[41]⟩:ByteArray)).size:Int)≤4000)):List Bool)).bind fun aE=>(if wH false aE x6=true then(if x6<(x4.length:Int)then(pC k x0 (x4.set (x6:Int).toNat (x8++(⟨#[41]⟩:ByteArray))) aE a1 a2 (wrap64 (a0+1)))else(none))else(pC k x0 x4 aE a1 a2 (wrap64 (a0+1)))))else((some (x5.set (x6:Int).toNat false:List Bool)).bind fun aD=>(if wH false aD x6=true then(if x6<(x4.length:Int)then(pC k x0 (x4.set (x6:Int).toNat (x8++(⟨#[41]⟩:ByteArray))) aD a1 a2 (wrap64 (a0+1)))else(none))else(pC k x0 x4 aD a1 a2 (wrap64 (a0+1))))))else(none))else(none))else(none))else(if 0≤x6 then(if x6<(x5.length:Int)then(if wH false x5 x6=true then((some (x5.set (x6:Int).toNat (decide ((x8.size:Int)≤4000)):List Bool)).bind fun aC=>(if wH false aC x6=true then(if x6<(x4.length:Int)then(pC k x0 (x4.set (x6:Int).toNat x8) aC a1 a2 (wrap64 (a0+1)))else(none))else(pC k x0 x4 aC a1 a2 (wrap64 (a0+1)))))else((some (x5.set (x6:Int).toNat false:List Bool)).bind fun aB=>(if wH false aB x6=true then(if x6<(x4.length:Int)then(pC k x0 (x4.set (x6:Int).toNat x8) aB a1 a2 (wrap64 (a0+1)))else(none))else(pC k x0 x4 aB a1 a2 (wrap64 (a0+1))))))else(none))else(none))))
end
def xK(k:Nat)(l0:List (S31)):Option (ByteArray×Bool):=(uG k l0).bind fun a0=>(if a0=true then(if 0≤(l0.length:Int)then(if((l0.length:Int):Int).toNat≤17592186044416 then(if((l0.length:Int):Int).toNat≤281474976710656 then(pC k l0 (List.replicate ((l0.length:Int):Int).toNat (⟨#[]⟩:ByteArray)) (List.replicate ((l0.length:Int):Int).toNat false) l0 (l0.length:Int) 0)else(none))else(none))else(none))else(some ((⟨#[]⟩:ByteArray),false)))
theorem YPi(k:Nat)(A0:Option Addr)(c0:Nat)(l0:List (S31))(r1:ByteArray)(r2:Bool)(w:World)(hr0:Kd.C k31 w A0 l0.length l0)(hc0:l0.length≤c0)(h:xK k l0=some (r1,r2)) :
  Calls Tryz.prog 29 #[.slice A0 l0.length c0] w fun e w'=>e= .returned (.tuple #[.string r1,.bool r2])∧Below w.heap.size w w':=by
 have hu31:=Tryz.underlying33
 have fH:=am hr0
 have gA:=am hc0
 clear hr0 hc0
 have HB:=am (Below.refl w.heap.size w)
 have H:=h
 clear h
 unfold xK at H
 replace H:=oA H;obtain⟨jG,A2,H⟩:=H
 replace H:=iB H;rcases H with⟨rfl,H⟩|⟨rfl,H⟩
 rotate_left
 ·simp only[Option.some.injEq,Prod.mk.injEq]at H
  obtain⟨rfl,rfl⟩:=H
  go_enter Tryz.func29,Tryz.ntmps29
  go_wp2_with ((go_at_call 14;refine(JQi _ _ _ _ _ _ (sC fH.out) gA.out A2.out).mono ?_;rintro e w132 ⟨rfl,hb⟩;replace HB:=hB HB hb;(try clear hb)))
  go_ret2
  exact⟨rfl,sW HB.out⟩
 replace H:=iTD H;obtain⟨h6,h5,H⟩:=H
 replace H:=iTD H;obtain⟨h4,h3,H⟩:=H
 generalize dS:List.replicate ((l0.length:Int):Int).toNat (⟨#[]⟩:ByteArray)=gH at H
 have g7:=am dS.symm;clear dS
 replace H:=iTD H;obtain⟨h2,h1,H⟩:=H
 generalize dQ:List.replicate ((l0.length:Int):Int).toNat false=gE at H
 have g6:=am dQ.symm;clear dQ
 replace H:=am H
 go_enter Tryz.func29,Tryz.ntmps29
 go_wp2_with (first|(go_at_call 14;refine(JQi _ _ _ _ _ _ (sC fH.out) gA.out A2.out).mono ?_;rintro e w7 ⟨rfl,hb⟩;replace HB:=hB HB hb;(try clear hb))|((with_reducible refine pU (N:=17) rfl ?_);(try(refine wD (by rfl) ?_;dsimp only));refine Kd.XG Kd.string _ 9 rfl (N:=17) rfl 75 _ _ rfl (l0.length:Int) rfl rfl Tryz.underlying75 (.string ⟨#[]⟩) 16 d7w rfl (by decide) oM (⟨#[]⟩:ByteArray) (ok:=fun _=>True) (okp:=fun _=>True) rfl (fun _ hk=>hk) trivial (oD (by assumption)) (Nat.le_trans (Nat.mul_le_mul_right _ (oD (by assumption):(l0.length:Int).toNat≤17592186044416)) oM) (Below.refl _ _) (Nat.le_refl _) ?_;intro eI w8 f9 hb hg_ hnew_;clear hg_ hnew_;(rw[← g7.out]at f9);have d6:=rL f9 HB;replace HB:=hB HB hb;clear hb f9)|((with_reducible refine pU (N:=20) rfl ?_);(try(refine wD (by rfl) ?_;dsimp only));refine Kd.XG Kd.bool _ 4 rfl (N:=20) rfl 50 _ _ rfl (l0.length:Int) rfl rfl Tryz.underlying50 (.bool false) 1 b1g rfl (by decide) oM false (ok:=fun _=>True) (okp:=fun _=>True) rfl (fun _ hk=>hk) trivial (oD (by assumption)) (Nat.le_trans (Nat.mul_le_mul_right _ (oD (by assumption):(l0.length:Int).toNat≤281474976710656)) oM) (Below.refl _ _) (Nat.le_refl _) ?_;intro gI w10 dD hb hg_ hnew_;clear hg_ hnew_;(rw[← g6.out]at dD);replace d6:=rB d6 hb;have g8:=rL dD HB;replace HB:=hB HB hb;clear hb dD))
 go_loopg [23] k (fun kq hN w' =>∃(aA:List ByteArray) (b2:List Bool) (a0:Int),hN= .int .i64 a0∧Aside0 (pC kq l0 aA b2 l0 (l0.length:Int) a0=some (r1,r2))∧Aside0 (kq≤k)∧Aside0 (Kd.R Kd.string 9 w' w.heap.size (fun _=>True) eI aA)∧Aside0 (Kd.R Kd.bool 4 w' w.heap.size (fun _=>True) gI b2)∧Aside0 (Below w.heap.size w w'))
 case atStart=>exact⟨gH,gE,0,rfl,H,⟨Nat.le_refl _⟩,⟨sR<|d6.out⟩,⟨sR<|g8.out⟩,⟨sW HB.out⟩⟩
 clear H
 clear h6 h5 h4 h3 h2 h1
 obtain⟨aA,b2,a0,rfl,HA,aS,a2,a1,HB⟩:=hrel
 cases gk with
 | zero=>cases HA.out
 | succ k1 =>
  obtain⟨H⟩:=HA
  simp only[pC]at H
  replace H:=iD H;rcases H with⟨dV,H⟩|⟨dV,H⟩
  rotate_left
  ·generalize fA:wrap64 ((l0.length:Int)-1)=cO at H
   have hG:(IntKind.i64.wrap ((l0.length:Int)-1))=cO:=(vB _).trans fA
   replace H:=iN H;obtain⟨hV,H⟩:=H
   replace H:=iN H;obtain⟨hU,H⟩:=H
   replace H:=iN H;obtain⟨hT,H⟩:=H
   simp only[Option.some.injEq,Prod.mk.injEq]at H
   obtain⟨rfl,rfl⟩:=H
   obtain⟨jB,i1,rfl⟩:=Kd.JB a2.out
   obtain⟨jK,jI,j7,rfl,hE⟩:=ix (Kd.YZ (Kd.JA a2.out).2.2 (cO))
   obtain⟨jA,i0,rfl⟩:=Kd.JB a1.out
   obtain⟨jJ,jH,i_,rfl,hD⟩:=ix (Kd.JJ (Kd.JA a1.out).2.2 (cO))
   go_wp2
   repeat(go_quiet (fail);try go_wp2)
   go_ret2
   exact⟨rfl,sW HB.out⟩
  replace H:=iN H;obtain⟨fW,H⟩:=H
  replace H:=iN H;obtain⟨fV,H⟩:=H
  replace H:=oA H;obtain⟨gJ,hZ,H⟩:=H
  replace H:=iN H;obtain⟨fU,H⟩:=H
  generalize dP:b2.set (a0:Int).toNat true=eH at H
  have g5:=am dP.symm;clear dP
  replace H:=oA H;obtain⟨aL,hY,H⟩:=H
  replace H:=am H
  obtain⟨gP,gM,iZ,rfl,e7,e6,e5,e4,e3,e2⟩:=ix (pE (Kd.JE fH.out HB.out) a0)
  go_wp2_with (first|((with_reducible refine pU (N:=7) rfl ?_);(try(refine wD (by rfl) ?_;dsimp only));refine wG ?hg (N:=7) ?hd (cs:= #[.int .i64 0,.int .i64 0,.int .i64 0,.int .i64 0,.int .i64 0,.int .i64 0]) (t:=33) ?hr ?_;(case hd=>rfl);(case hg=>rfl);(case hr=>(go_simp;done));intro fP hg w19 hbox hb;replace a2:=rB a2 hb;replace a1:=rB a1 hb;have a3:=am hbox;have j8:=gw hg;have j9:=gw hg;replace HB:=hB HB hb;clear hb hbox hg;have eA:=cf6 a3.out)|(go_at_call 52;refine(XHi hZ.out).mono ?_;rintro e w21 ⟨rfl,hb⟩;replace a2:=am (Kd.JK (by exact sR<|(rm (rf 5 (rf 4 (rf 3 (rf 2 (rf 1 (rf 0 (ry a2 a3))))))))) hb);replace a1:=am (Kd.JK (by exact sR<|(rm (rf 5 (rf 4 (rf 3 (rf 2 (rf 1 (rf 0 (ry a1 a3))))))))) hb);replace a3:=am (kJ (by exact sB<|pn (by exact sB<|a3.out)) hb);replace HB:=hX hb;(try clear hb);have d8:0≤(a0:Int):=oD (by assumption);have d7:(a0:Int)<((b2.length:Int):Int):=oD (by assumption);obtain⟨a7,a8,gZ,fE,gl17,cl17,HG17⟩:=Kd.JZ a1.out oM;(cases gZ);have aX:=am fE;have GG17:=am HG17;clear fE gl17 HG17;obtain⟨f8,hf17_0⟩:=Kd.JH false a1.out (a0:Int) d8 d7;replace d8:=eq_true d8;replace d7:=eq_true d7;obtain⟨fO,hz22_⟩:=Kd.JH false a1.out (a0:Int) (oD (by assumption)) (oD (by assumption));have d5:=Kd.JO a1.out (a0:Int) true)|((with_reducible refine pY (t:=4) (p:=32) rfl ?_);(try(rw[rQ w21];generalize hq_:World.drewN w21 _=w21;have aE:=am (Kd.JP hq_ a2.out);have aD:=am (Kd.JP hq_ a1.out);have aC:=am (a1i hq_ a3.out);have aB:=am (wP hq_ HB.out);clear hq_ a2 a1 a3 HB;have a2:=aE;have a1:=aD;have a3:=aC;have HB:=aB;clear aE aD aC aB;(try(obtain⟨fO,hz22_⟩:=Kd.JH false a1.out (a0:Int) (oD (by assumption)) (oD (by assumption))));(try(have d5:=Kd.JO a1.out (a0:Int) true))));refine pH (t:=4) (p:=32) (v:=?vo_w23) (w1:=(w21.setCell ⟨a7,(a0:Int).toNat,none⟩ (.bool true))) ?hg ?ho ?hn ?hr ?_;(case ho=>rfl);(case hg=>rfl);(case hn=>rfl);(case hr=>(go_simp;done));intro w23 hw;have hg:w21.grownBy w23 (some a7):=(by rw[hw];exact d5.2);have hp_:Kd.R Kd.bool 4 w23 w.heap.size (fun _=>True) (.slice (some ⟨a7,0,none⟩) b2.length a8) eH:=(by rw[hw,g5.out];exact d5.1);clear d5;replace a2:=am (Kd.JI (v:=(.slice (some ⟨a7,0,none⟩) b2.length a8)) (by exact sR<|a2.out) (Kd.JG a1.out) (by decide) hg);replace a3:=gG a3 hg a1;replace a1:=am hp_;replace HB:=am ((by rw[hw];exact kR (HB.out) aX.out:Below w.heap.size w w23));clear hg hw hp_;have e9:=cf6 a3.out)|(go_at_call 40;refine(JIi _ _ _ _ _ _ _ _ _ hY.out).mono ?_;rintro e w25 ⟨jF,rfl,aK,hb⟩;replace a2:=rB a2 hb;replace a1:=rB a1 hb;have d_:=am (Kd.JF aK (kG (by exact bW)));replace a3:=gB a3 hb;replace HB:=hX hb;(try clear hb);(try clear aK);obtain⟨hC,h0,rfl⟩:=Kd.JB d_.out))
  go_loopg [8,36] k1 (fun kq v8 hM w' =>∃(a6:List Bool) (a9:ByteArray) (aI:Int),v8= .string a9∧hM= .int .i64 aI∧Aside0 (tC kq l0 aA a6 a0 a9 l0 (l0.length:Int) a0 aL (aL.length:Int) aI ((kA l0 a0).f0) ((kA l0 a0).f1) ((kA l0 a0).f2) ((kA l0 a0).f3) ((kA l0 a0).f4) ((kA l0 a0).f5)=some (r1,r2))∧Aside0 (kq≤k1)∧Aside0 (Kd.R Kd.string 9 w' w.heap.size (fun _=>True) eI aA)∧Aside0 (Kd.R Kd.bool 4 w' w.heap.size (fun _=>True) (.slice (some ⟨a7,0,none⟩) b2.length a8) a6)∧Aside0 (Kd.R (Kd.int .i64) 3 w' w.heap.size (fun _=>True) (.slice hC aL.length h0) aL)∧Aside0 (w'.heap[fP]? = some (.cells #[.int .i64 ((kA l0 a0).f0),.int .i64 ((kA l0 a0).f1),.int .i64 ((kA l0 a0).f2),.int .i64 ((kA l0 a0).f3),.int .i64 ((kA l0 a0).f4),.int .i64 ((kA l0 a0).f5)] 33 (0,0)))∧Aside0 (Below w.heap.size w w'))
  case atStart=>exact⟨eH,gJ,0,rfl,rfl,H,⟨Nat.le_refl _⟩,⟨sR<|a2.out⟩,⟨sR<|a1.out⟩,⟨sR<|d_.out⟩,⟨sB<|a3.out⟩,⟨bW⟩⟩
  clear H
  clear dV fW fV fU eA e9 f8 e7 e6 e5 e4 e3 e2 gP gM;try clear d8;try clear d7;try clear d8;try clear d7
  obtain⟨a6,a9,aI,rfl,rfl,HA,aR,a2,a1,a4,a3,HB⟩:=hrel
  have hl5_2:=(Kd.JA a1.out).1
  rw[hl5_2]at a1
  (try simp only[hl5_2])
  (try simp only[hl5_2]at a3)
  (try simp only[hl5_2]at a2)
  (try simp only[hl5_2]at a4)
  cases gk with
  | zero=>cases HA.out
  | succ k2 =>
   obtain⟨H⟩:=HA
   simp only[tC]at H
   replace H:=iD H;rcases H with⟨fT,H⟩|⟨fT,H⟩
   ·replace H:=iN H;obtain⟨iX,H⟩:=H
    replace H:=iN H;obtain⟨iW,H⟩:=H
    replace H:=iP H;obtain⟨fG,H⟩:=H
    have iV:=eq_true fG
    have iU:decide (a9.size+1≤9223372036854775807)=true:=decide_eq_true fG
    try have iS:(9223372036854775807<a9.size+1)=False:=eq_false (Nat.not_lt.2 fG)
    replace H:=iN H;obtain⟨iR,H⟩:=H
    replace H:=iN H;obtain⟨iQ,H⟩:=H
    replace H:=iP H;obtain⟨dU,H⟩:=H
    have iO:=eq_true dU
    have iM:decide ((a9++(⟨#[32]⟩:ByteArray)).size+(wH ByteArray.empty aA (rd aL aI)).size≤9223372036854775807)=true:=decide_eq_true dU
    try have iL:(9223372036854775807<(a9++(⟨#[32]⟩:ByteArray)).size+(wH ByteArray.empty aA (rd aL aI)).size)=False:=eq_false (Nat.not_lt.2 dU)
    have jS:(9223372036854775807<a9.size+1+(wH ByteArray.empty aA (rd aL aI)).size)=False:=eq_false (Nat.not_lt.2 (by have h_:=dU;(repeat rw[ByteArray.size_append]at h_);exact h_))
    replace H:=iN H;obtain⟨iK,H⟩:=H
    replace H:=iN H;obtain⟨iJ,H⟩:=H
    generalize hbq36:wH false a6 a0=jY at H
    have cX:=am hbq36.symm;clear hbq36
    replace H:=iB H;rcases H with⟨rfl,H⟩|⟨rfl,H⟩
    ·replace H:=iN H;obtain⟨iI,H⟩:=H
     generalize dO:a6.set (a0:Int).toNat (wH false a6 (rd aL aI))=eG at H
     have g4:=am dO.symm;clear dO
     replace H:=am H
     obtain⟨gO,gL,fZ,rfl,e1⟩:=ix (Kd.JD (Kd.JA a4.out).2.2 aI)
     obtain⟨lA,jR,rfl⟩:=Kd.JB a2.out
     obtain⟨gN,gK,fY,rfl,e0⟩:=ix (Kd.YZ (Kd.JA a2.out).2.2 (rd aL aI))
     have bK:0≤(a0:Int):=oD (by assumption)
     have bE:a0<(a6.length:Int):=oD (by assumption)
     obtain⟨cW,dI,a_⟩:=Kd.JJ (Kd.JA a1.out).2.2 a0 bK bE
     (try rw[← cX.out]at a_)
     obtain rfl:(⟨a7,0,none⟩:Addr)=cW:=(by injection dI)
     (simp only[pW]at a_)
     replace bK:=eq_true bK
     replace bE:=eq_true bE
     have dB:0≤((rd aL aI):Int):=oD (by assumption)
     have d9:(rd aL aI)<(a6.length:Int):=oD (by assumption)
     obtain⟨fX,g_,cM⟩:=Kd.JJ (Kd.JA a1.out).2.2 (rd aL aI) dB d9
     (try rw[← cX.out]at cM)
     obtain rfl:(⟨a7,0,none⟩:Addr)=fX:=(by injection g_)
     (simp only[pW]at cM)
     replace dB:=eq_true dB
     replace d9:=eq_true d9
     have eS:0≤(a0:Int):=oD (by assumption)
     have eN:(a0:Int)<((a6.length:Int):Int):=oD (by assumption)
     obtain⟨hS,hf39_0⟩:=Kd.JH false a1.out (a0:Int) eS eN
     replace eS:=eq_true eS
     replace eN:=eq_true eN
     have d4:=Kd.JO a1.out (a0:Int) (wH false a6 (rd aL aI))
     go_wp2_with (((with_reducible refine pY (t:=4) (p:=59) rfl ?_);(try(rw[rQ wr];generalize hq_:World.drewN wr _=wr;have aE:=am (Kd.JP hq_ a2.out);have aD:=am (Kd.JP hq_ a1.out);have aC:=am (Kd.JP hq_ a4.out);have aB:=am (a1i hq_ a3.out);have aF:=am (wP hq_ HB.out);clear hq_ a2 a1 a4 a3 HB;have a2:=aE;have a1:=aD;have a4:=aC;have a3:=aB;have HB:=aF;clear aE aD aC aB aF;(try(have d4:=Kd.JO a1.out (a0:Int) (wH false a6 (rd aL aI))))));refine pH (t:=4) (p:=59) (v:=?vo_w42) (w1:=(wr.setCell ⟨a7,(a0:Int).toNat,none⟩ (.bool (wH false a6 (rd aL aI))))) ?hg ?ho ?hn ?hr ?_;(case ho=>rfl);(case hg=>rfl);(case hn=>rfl);(case hr=>(go_simp;done));intro w42 hw;have hg:wr.grownBy w42 (some a7):=(by rw[hw];exact d4.2);have hp_:Kd.R Kd.bool 4 w42 w.heap.size (fun _=>True) (.slice (some ⟨a7,0,none⟩) a6.length a8) eG:=(by rw[hw,g4.out];exact d4.1);clear d4;replace a2:=am (Kd.JI (v:=(.slice (some ⟨a7,0,none⟩) a6.length a8)) (by exact sR<|a2.out) (Kd.JG a1.out) (by decide) hg);replace a4:=am (Kd.JI (v:=(.slice (some ⟨a7,0,none⟩) a6.length a8)) (by exact sR<|a4.out) (Kd.JG a1.out) (by decide) hg);replace a3:=gG a3 hg a1;replace a1:=am hp_;replace HB:=am ((by rw[hw];exact kR (HB.out) aX.out:Below w.heap.size w w42));clear hg hw hp_))
     (try simp only[← hl5_2])
     go_roundg k2
     case measure=>have:=aS.out;have:=aR.out;omega
     case rel=>exact⟨eG,((a9++(⟨#[32]⟩:ByteArray))++(wH ByteArray.empty aA (rd aL aI))),(wrap64 (aI+1)),rfl,rfl,H,⟨by have:=aS.out;have:=aR.out;omega⟩,⟨by(try simp only[hl5_2]);exact sR<|a2.out⟩,⟨by(try simp only[hl5_2]);exact sR<|a1.out⟩,⟨by(try simp only[hl5_2]);exact sR<|a4.out⟩,⟨by(try simp only[hl5_2]);exact sB<|a3.out⟩,⟨bW⟩⟩
    generalize dN:a6.set (a0:Int).toNat false=eF at H
    have g3:=am dN.symm;clear dN
    replace H:=am H
    obtain⟨gO,gL,fZ,rfl,e1⟩:=ix (Kd.JD (Kd.JA a4.out).2.2 aI)
    obtain⟨l9,jQ,rfl⟩:=Kd.JB a2.out
    obtain⟨gN,gK,fY,rfl,e0⟩:=ix (Kd.YZ (Kd.JA a2.out).2.2 (rd aL aI))
    have bK:0≤(a0:Int):=oD (by assumption)
    have bE:a0<(a6.length:Int):=oD (by assumption)
    obtain⟨cW,dI,a_⟩:=Kd.JJ (Kd.JA a1.out).2.2 a0 bK bE
    (try rw[← cX.out]at a_)
    obtain rfl:(⟨a7,0,none⟩:Addr)=cW:=(by injection dI)
    (simp only[pW]at a_)
    replace bK:=eq_true bK
    replace bE:=eq_true bE
    have eR:0≤(a0:Int):=oD (by assumption)
    have eM:(a0:Int)<((a6.length:Int):Int):=oD (by assumption)
    obtain⟨hR,hf43_0⟩:=Kd.JH false a1.out (a0:Int) eR eM
    replace eR:=eq_true eR
    replace eM:=eq_true eM
    have d3:=Kd.JO a1.out (a0:Int) false
    go_wp2_with (((with_reducible refine pY (t:=4) (p:=59) rfl ?_);(try(rw[rQ wr];generalize hq_:World.drewN wr _=wr;have aE:=am (Kd.JP hq_ a2.out);have aD:=am (Kd.JP hq_ a1.out);have aC:=am (Kd.JP hq_ a4.out);have aB:=am (a1i hq_ a3.out);have aF:=am (wP hq_ HB.out);clear hq_ a2 a1 a4 a3 HB;have a2:=aE;have a1:=aD;have a4:=aC;have a3:=aB;have HB:=aF;clear aE aD aC aB aF;(try(have d3:=Kd.JO a1.out (a0:Int) false))));refine pH (t:=4) (p:=59) (v:=?vo_w46) (w1:=(wr.setCell ⟨a7,(a0:Int).toNat,none⟩ (.bool false))) ?hg ?ho ?hn ?hr ?_;(case ho=>rfl);(case hg=>rfl);(case hn=>rfl);(case hr=>(go_simp;done));intro w46 hw;have hg:wr.grownBy w46 (some a7):=(by rw[hw];exact d3.2);have hp_:Kd.R Kd.bool 4 w46 w.heap.size (fun _=>True) (.slice (some ⟨a7,0,none⟩) a6.length a8) eF:=(by rw[hw,g3.out];exact d3.1);clear d3;replace a2:=am (Kd.JI (v:=(.slice (some ⟨a7,0,none⟩) a6.length a8)) (by exact sR<|a2.out) (Kd.JG a1.out) (by decide) hg);replace a4:=am (Kd.JI (v:=(.slice (some ⟨a7,0,none⟩) a6.length a8)) (by exact sR<|a4.out) (Kd.JG a1.out) (by decide) hg);replace a3:=gG a3 hg a1;replace a1:=am hp_;replace HB:=am ((by rw[hw];exact kR (HB.out) aX.out:Below w.heap.size w w46));clear hg hw hp_))
    (try simp only[← hl5_2])
    go_roundg k2
    case measure=>have:=aS.out;have:=aR.out;omega
    case rel=>exact⟨eF,((a9++(⟨#[32]⟩:ByteArray))++(wH ByteArray.empty aA (rd aL aI))),(wrap64 (aI+1)),rfl,rfl,H,⟨by have:=aS.out;have:=aR.out;omega⟩,⟨by(try simp only[hl5_2]);exact sR<|a2.out⟩,⟨by(try simp only[hl5_2]);exact sR<|a1.out⟩,⟨by(try simp only[hl5_2]);exact sR<|a4.out⟩,⟨by(try simp only[hl5_2]);exact sB<|a3.out⟩,⟨bW⟩⟩
   replace H:=oA H;obtain⟨b9,bS,H⟩:=H
   by_cases cN:(b9.length:Int)>0
   ·rw[if_pos cN]at H
    have fS:decide (0<(b9.length:Int))=true:=decide_eq_true cN
    have fR:decide (0<b9.length)=true:=decide_eq_true oM
    have h7:0<b9.length:=by omega
    clear cN
    replace H:=iP H;obtain⟨fF,H⟩:=H
    have iH:=eq_true fF
    have iG:decide (a9.size+1≤9223372036854775807)=true:=decide_eq_true fF
    try have iF:(9223372036854775807<a9.size+1)=False:=eq_false (Nat.not_lt.2 fF)
    replace H:=iN H;obtain⟨iC,H⟩:=H
    replace H:=iN H;obtain⟨iA,H⟩:=H
    generalize hbq52:wH false a6 a0=jX at H
    have aZ:=am hbq52.symm;clear hbq52
    replace H:=iB H;rcases H with⟨rfl,H⟩|⟨rfl,H⟩
    ·replace H:=oS H;obtain⟨b7,dZ,H⟩:=H
     generalize hbq55:wH false b7 a0=jW at H
     have bZ:=am hbq55.symm;clear hbq55
     replace H:=iB H;rcases H with⟨rfl,H⟩|⟨rfl,H⟩
     ·replace H:=iN H;obtain⟨i9,H⟩:=H
      generalize dM:aA.set (a0:Int).toNat (a9++(⟨#[41]⟩:ByteArray))=eE at H
      have g2:=am dM.symm;clear dM
      replace H:=am H
      have hL:=cf6 a3.out
      go_wp2_with (first|(go_at_call 40;refine(JIi _ _ _ _ _ _ _ _ _ bS.out).mono ?_;rintro e w60 ⟨b8,rfl,aK,hb⟩;replace a2:=rB a2 hb;replace a1:=rB a1 hb;have a5:=am (Kd.JF (Kd.JN aK (Kd.JM (by exact sR<|a4.out))) (kG (by exact bW)));replace a4:=rE a4 aK hb;replace a3:=gB a3 hb;replace HB:=hX hb;(try clear hb);(try clear aK);obtain⟨l8,jP,rfl⟩:=Kd.JB a5.out;have aQ:0≤(a0:Int):=oD (by assumption);have aN:a0<(a6.length:Int):=oD (by assumption);obtain⟨b1,bN,aH⟩:=Kd.JJ (Kd.JA a1.out).2.2 a0 aQ aN;(try rw[← aZ.out]at aH);(try rw[← bZ.out]at aH);obtain rfl:(⟨a7,0,none⟩:Addr)=b1:=(by injection bN);(simp only[pW]at aH);replace aQ:=eq_true aQ;replace aN:=eq_true aN;have cL:0≤(a0:Int):=oD (by assumption);have cI:(a0:Int)<((a6.length:Int):Int):=oD (by assumption);obtain⟨f7,hf54_0⟩:=Kd.JH false a1.out (a0:Int) cL cI;replace cL:=eq_true cL;replace cI:=eq_true cI;obtain⟨fN,hz62_⟩:=Kd.JH false a1.out (a0:Int) (oD (by assumption)) (oD (by assumption));have d2:=Kd.JO a1.out (a0:Int) (decide (((a9++(⟨#[41]⟩:ByteArray)).size:Int)≤4000)))|((with_reducible refine pY (t:=4) (p:=78) rfl ?_);(try(rw[rQ w60];generalize hq_:World.drewN w60 _=w60;have aE:=am (Kd.JP hq_ a2.out);have aD:=am (Kd.JP hq_ a1.out);have aC:=am (Kd.JP hq_ a4.out);have aB:=am (Kd.JP hq_ a5.out);have aF:=am (a1i hq_ a3.out);have aJ:=am (wP hq_ HB.out);clear hq_ a2 a1 a4 a5 a3 HB;have a2:=aE;have a1:=aD;have a4:=aC;have a5:=aB;have a3:=aF;have HB:=aJ;clear aE aD aC aB aF aJ;(try(obtain⟨fN,hz62_⟩:=Kd.JH false a1.out (a0:Int) (oD (by assumption)) (oD (by assumption))));(try(have d2:=Kd.JO a1.out (a0:Int) (decide (((a9++(⟨#[41]⟩:ByteArray)).size:Int)≤4000))))));refine pH (t:=4) (p:=78) (v:=?vo_w63) (w1:=(w60.setCell ⟨a7,(a0:Int).toNat,none⟩ (.bool (decide (((a9++(⟨#[41]⟩:ByteArray)).size:Int)≤4000))))) ?hg ?ho ?hn ?hr ?_;(case ho=>rfl);(case hg=>rfl);(case hn=>rfl);(case hr=>(go_simp;done));intro w63 hw;have hg:w60.grownBy w63 (some a7):=(by rw[hw];exact d2.2);have hp_:Kd.R Kd.bool 4 w63 w.heap.size (fun _=>True) (.slice (some ⟨a7,0,none⟩) a6.length a8) b7:=(by rw[hw,dZ.out];exact d2.1);clear d2;replace a2:=am (Kd.JI (v:=(.slice (some ⟨a7,0,none⟩) a6.length a8)) (by exact sR<|a2.out) (Kd.JG a1.out) (by decide) hg);replace a4:=am (Kd.JI (v:=(.slice (some ⟨a7,0,none⟩) a6.length a8)) (by exact sR<|a4.out) (Kd.JG a1.out) (by decide) hg);replace a3:=gG a3 hg a1;replace a5:=am (Kd.JI (v:=(.slice (some ⟨a7,0,none⟩) a6.length a8)) (by exact sR<|a5.out) (Kd.JG a1.out) (by decide) hg);replace a1:=am hp_;replace HB:=am ((by rw[hw];exact kR (HB.out) aX.out:Below w.heap.size w w63));clear hg hw hp_;have bJ:0≤(a0:Int):=oD (by assumption);have bD:a0<(b7.length:Int):=(by have h_:(a0:Int)<((a6.length:Int):Int):=oD (by assumption);(have e_:=(Kd.JA a1.out).1;omega));have ql394:((a0:Int)<((a6.length:Int):Int))=True:=eq_true (oD (by assumption));obtain⟨cV,dH,aW⟩:=Kd.JJ (Kd.JA a1.out).2.2 a0 bJ bD;(try rw[← aZ.out]at aW);(try rw[← bZ.out]at aW);obtain rfl:(⟨a7,0,none⟩:Addr)=cV:=(by injection dH);(simp only[pW]at aW);replace bJ:=eq_true bJ;replace bD:=eq_true bD;have eQ:0≤(a0:Int):=oD (by assumption);have eL:(a0:Int)<((aA.length:Int):Int):=oD (by assumption);obtain⟨bR,cR,gY,fD,gl58,cl58,HG58⟩:=Kd.JZ a2.out oM;(cases gY);have hA:=am fD;have GG58:=am HG58;clear fD gl58 HG58;obtain⟨hQ,hf58_0⟩:=Kd.JH (⟨#[]⟩:ByteArray) a2.out (a0:Int) eQ eL;replace eQ:=eq_true eQ;replace eL:=eq_true eL;obtain⟨fM,hz64_⟩:=Kd.JH (⟨#[]⟩:ByteArray) a2.out (a0:Int) (oD (by assumption)) (oD (by assumption));have d1:=Kd.JO a2.out (a0:Int) (a9++(⟨#[41]⟩:ByteArray)))|((with_reducible refine pY (t:=9) (p:=86) rfl ?_);(try(rw[rQ w63];generalize hq_:World.drewN w63 _=w63;have aE:=am (Kd.JP hq_ a2.out);have aD:=am (Kd.JP hq_ a1.out);have aC:=am (Kd.JP hq_ a4.out);have aB:=am (Kd.JP hq_ a5.out);have aF:=am (a1i hq_ a3.out);have aJ:=am (wP hq_ HB.out);clear hq_ a2 a1 a4 a5 a3 HB;have a2:=aE;have a1:=aD;have a4:=aC;have a5:=aB;have a3:=aF;have HB:=aJ;clear aE aD aC aB aF aJ;(try(obtain⟨fM,hz64_⟩:=Kd.JH (⟨#[]⟩:ByteArray) a2.out (a0:Int) (oD (by assumption)) (oD (by assumption))));(try(have d1:=Kd.JO a2.out (a0:Int) (a9++(⟨#[41]⟩:ByteArray))))));refine pH (t:=9) (p:=86) (v:=?vo_w65) (w1:=(w63.setCell ⟨bR,(a0:Int).toNat,none⟩ (.string (a9++(⟨#[41]⟩:ByteArray))))) ?hg ?ho ?hn ?hr ?_;(case ho=>rfl);(case hg=>rfl);(case hn=>rfl);(case hr=>(go_simp;done));intro w65 hw;have hg:w63.grownBy w65 (some bR):=(by rw[hw];exact d1.2);have hp_:Kd.R Kd.string 9 w65 w.heap.size (fun _=>True) (.slice (some ⟨bR,0,none⟩) aA.length cR) eE:=(by rw[hw,g2.out];exact d1.1);clear d1;replace a1:=am (Kd.JI (v:=(.slice (some ⟨bR,0,none⟩) aA.length cR)) (by exact sR<|a1.out) (Kd.JG a2.out) (by decide) hg);replace a4:=am (Kd.JI (v:=(.slice (some ⟨bR,0,none⟩) aA.length cR)) (by exact sR<|a4.out) (Kd.JG a2.out) (by decide) hg);replace a3:=gG a3 hg a2;replace a5:=am (Kd.JI (v:=(.slice (some ⟨bR,0,none⟩) aA.length cR)) (by exact sR<|a5.out) (Kd.JG a2.out) (by decide) hg);replace a2:=am hp_;replace HB:=am ((by rw[hw];exact kR (HB.out) hA.out:Below w.heap.size w w65));clear hg hw hp_))
      (try simp only[← hl5_2])
      go_roundg k2
      case measure=>have:=aS.out;have:=aR.out;omega
      case rel=>exact⟨eE,b7,(wrap64 (a0+1)),rfl,H,⟨by have:=aS.out;have:=aR.out;omega⟩,⟨by(try simp only[hl5_2]);exact sR<|a2.out⟩,⟨by(try simp only[hl5_2]);exact sR<|a1.out⟩,⟨bW⟩⟩
     replace H:=am H
     have hK:=cf6 a3.out
     go_wp2_with (first|(go_at_call 40;refine(JIi _ _ _ _ _ _ _ _ _ bS.out).mono ?_;rintro e w67 ⟨b8,rfl,aK,hb⟩;replace a2:=rB a2 hb;replace a1:=rB a1 hb;have a5:=am (Kd.JF (Kd.JN aK (Kd.JM (by exact sR<|a4.out))) (kG (by exact bW)));replace a4:=rE a4 aK hb;replace a3:=gB a3 hb;replace HB:=hX hb;(try clear hb);(try clear aK);obtain⟨l7,jO,rfl⟩:=Kd.JB a5.out;have aQ:0≤(a0:Int):=oD (by assumption);have aN:a0<(a6.length:Int):=oD (by assumption);obtain⟨b1,bN,aH⟩:=Kd.JJ (Kd.JA a1.out).2.2 a0 aQ aN;(try rw[← aZ.out]at aH);(try rw[← bZ.out]at aH);obtain rfl:(⟨a7,0,none⟩:Addr)=b1:=(by injection bN);(simp only[pW]at aH);replace aQ:=eq_true aQ;replace aN:=eq_true aN;have cL:0≤(a0:Int):=oD (by assumption);have cI:(a0:Int)<((a6.length:Int):Int):=oD (by assumption);obtain⟨f7,hf54_0⟩:=Kd.JH false a1.out (a0:Int) cL cI;replace cL:=eq_true cL;replace cI:=eq_true cI;obtain⟨fL,hz69_⟩:=Kd.JH false a1.out (a0:Int) (oD (by assumption)) (oD (by assumption));have d0:=Kd.JO a1.out (a0:Int) (decide (((a9++(⟨#[41]⟩:ByteArray)).size:Int)≤4000)))|((with_reducible refine pY (t:=4) (p:=78) rfl ?_);(try(rw[rQ w67];generalize hq_:World.drewN w67 _=w67;have aE:=am (Kd.JP hq_ a2.out);have aD:=am (Kd.JP hq_ a1.out);have aC:=am (Kd.JP hq_ a4.out);have aB:=am (Kd.JP hq_ a5.out);have aF:=am (a1i hq_ a3.out);have aJ:=am (wP hq_ HB.out);clear hq_ a2 a1 a4 a5 a3 HB;have a2:=aE;have a1:=aD;have a4:=aC;have a5:=aB;have a3:=aF;have HB:=aJ;clear aE aD aC aB aF aJ;(try(obtain⟨fL,hz69_⟩:=Kd.JH false a1.out (a0:Int) (oD (by assumption)) (oD (by assumption))));(try(have d0:=Kd.JO a1.out (a0:Int) (decide (((a9++(⟨#[41]⟩:ByteArray)).size:Int)≤4000))))));refine pH (t:=4) (p:=78) (v:=?vo_w70) (w1:=(w67.setCell ⟨a7,(a0:Int).toNat,none⟩ (.bool (decide (((a9++(⟨#[41]⟩:ByteArray)).size:Int)≤4000))))) ?hg ?ho ?hn ?hr ?_;(case ho=>rfl);(case hg=>rfl);(case hn=>rfl);(case hr=>(go_simp;done));intro w70 hw;have hg:w67.grownBy w70 (some a7):=(by rw[hw];exact d0.2);have hp_:Kd.R Kd.bool 4 w70 w.heap.size (fun _=>True) (.slice (some ⟨a7,0,none⟩) a6.length a8) b7:=(by rw[hw,dZ.out];exact d0.1);clear d0;replace a2:=am (Kd.JI (v:=(.slice (some ⟨a7,0,none⟩) a6.length a8)) (by exact sR<|a2.out) (Kd.JG a1.out) (by decide) hg);replace a4:=am (Kd.JI (v:=(.slice (some ⟨a7,0,none⟩) a6.length a8)) (by exact sR<|a4.out) (Kd.JG a1.out) (by decide) hg);replace a3:=gG a3 hg a1;replace a5:=am (Kd.JI (v:=(.slice (some ⟨a7,0,none⟩) a6.length a8)) (by exact sR<|a5.out) (Kd.JG a1.out) (by decide) hg);replace a1:=am hp_;replace HB:=am ((by rw[hw];exact kR (HB.out) aX.out:Below w.heap.size w w70));clear hg hw hp_;have bJ:0≤(a0:Int):=oD (by assumption);have bD:a0<(b7.length:Int):=(by have h_:(a0:Int)<((a6.length:Int):Int):=oD (by assumption);(have e_:=(Kd.JA a1.out).1;omega));have ql394:((a0:Int)<((a6.length:Int):Int))=True:=eq_true (oD (by assumption));obtain⟨cV,dH,aW⟩:=Kd.JJ (Kd.JA a1.out).2.2 a0 bJ bD;(try rw[← aZ.out]at aW);(try rw[← bZ.out]at aW);obtain rfl:(⟨a7,0,none⟩:Addr)=cV:=(by injection dH);(simp only[pW]at aW);replace bJ:=eq_true bJ;replace bD:=eq_true bD))
     (try simp only[← hl5_2])
     go_roundg k2
     case measure=>have:=aS.out;have:=aR.out;omega
     case rel=>exact⟨aA,b7,(wrap64 (a0+1)),rfl,H,⟨by have:=aS.out;have:=aR.out;omega⟩,⟨by(try simp only[hl5_2]);exact sR<|a2.out⟩,⟨by(try simp only[hl5_2]);exact sR<|a1.out⟩,⟨bW⟩⟩
    replace H:=oS H;obtain⟨b6,dY,H⟩:=H
    generalize hbq72:wH false b6 a0=jV at H
    have bV:=am hbq72.symm;clear hbq72
    replace H:=iB H;rcases H with⟨rfl,H⟩|⟨rfl,H⟩
    ·replace H:=iN H;obtain⟨i8,H⟩:=H
     generalize dL:aA.set (a0:Int).toNat (a9++(⟨#[41]⟩:ByteArray))=eD at H
     have g1:=am dL.symm;clear dL
     replace H:=am H
     have hJ:=cf6 a3.out
     go_wp2_with (first|(go_at_call 40;refine(JIi _ _ _ _ _ _ _ _ _ bS.out).mono ?_;rintro e w77 ⟨b8,rfl,aK,hb⟩;replace a2:=rB a2 hb;replace a1:=rB a1 hb;have a5:=am (Kd.JF (Kd.JN aK (Kd.JM (by exact sR<|a4.out))) (kG (by exact bW)));replace a4:=rE a4 aK hb;replace a3:=gB a3 hb;replace HB:=hX hb;(try clear hb);(try clear aK);obtain⟨l6,jN,rfl⟩:=Kd.JB a5.out;have aQ:0≤(a0:Int):=oD (by assumption);have aN:a0<(a6.length:Int):=oD (by assumption);obtain⟨b1,bN,aH⟩:=Kd.JJ (Kd.JA a1.out).2.2 a0 aQ aN;(try rw[← aZ.out]at aH);(try rw[← bV.out]at aH);obtain rfl:(⟨a7,0,none⟩:Addr)=b1:=(by injection bN);(simp only[pW]at aH);replace aQ:=eq_true aQ;replace aN:=eq_true aN;have cK:0≤(a0:Int):=oD (by assumption);have cH:(a0:Int)<((a6.length:Int):Int):=oD (by assumption);obtain⟨f6,hf71_0⟩:=Kd.JH false a1.out (a0:Int) cK cH;replace cK:=eq_true cK;replace cH:=eq_true cH;obtain⟨fK,hz79_⟩:=Kd.JH false a1.out (a0:Int) (oD (by assumption)) (oD (by assumption));have c_:=Kd.JO a1.out (a0:Int) false)|((with_reducible refine pY (t:=4) (p:=78) rfl ?_);(try(rw[rQ w77];generalize hq_:World.drewN w77 _=w77;have aE:=am (Kd.JP hq_ a2.out);have aD:=am (Kd.JP hq_ a1.out);have aC:=am (Kd.JP hq_ a4.out);have aB:=am (Kd.JP hq_ a5.out);have aF:=am (a1i hq_ a3.out);have aJ:=am (wP hq_ HB.out);clear hq_ a2 a1 a4 a5 a3 HB;have a2:=aE;have a1:=aD;have a4:=aC;have a5:=aB;have a3:=aF;have HB:=aJ;clear aE aD aC aB aF aJ;(try(obtain⟨fK,hz79_⟩:=Kd.JH false a1.out (a0:Int) (oD (by assumption)) (oD (by assumption))));(try(have c_:=Kd.JO a1.out (a0:Int) false))));refine pH (t:=4) (p:=78) (v:=?vo_w80) (w1:=(w77.setCell ⟨a7,(a0:Int).toNat,none⟩ (.bool false))) ?hg ?ho ?hn ?hr ?_;(case ho=>rfl);(case hg=>rfl);(case hn=>rfl);(case hr=>(go_simp;done));intro w80 hw;have hg:w77.grownBy w80 (some a7):=(by rw[hw];exact c_.2);have hp_:Kd.R Kd.bool 4 w80 w.heap.size (fun _=>True) (.slice (some ⟨a7,0,none⟩) a6.length a8) b6:=(by rw[hw,dY.out];exact c_.1);clear c_;replace a2:=am (Kd.JI (v:=(.slice (some ⟨a7,0,none⟩) a6.length a8)) (by exact sR<|a2.out) (Kd.JG a1.out) (by decide) hg);replace a4:=am (Kd.JI (v:=(.slice (some ⟨a7,0,none⟩) a6.length a8)) (by exact sR<|a4.out) (Kd.JG a1.out) (by decide) hg);replace a3:=gG a3 hg a1;replace a5:=am (Kd.JI (v:=(.slice (some ⟨a7,0,none⟩) a6.length a8)) (by exact sR<|a5.out) (Kd.JG a1.out) (by decide) hg);replace a1:=am hp_;replace HB:=am ((by rw[hw];exact kR (HB.out) aX.out:Below w.heap.size w w80));clear hg hw hp_;have bI:0≤(a0:Int):=oD (by assumption);have bC:a0<(b6.length:Int):=(by have h_:(a0:Int)<((a6.length:Int):Int):=oD (by assumption);(have e_:=(Kd.JA a1.out).1;omega));have ql397:((a0:Int)<((a6.length:Int):Int))=True:=eq_true (oD (by assumption));obtain⟨cU,dG,aV⟩:=Kd.JJ (Kd.JA a1.out).2.2 a0 bI bC;(try rw[← aZ.out]at aV);(try rw[← bV.out]at aV);obtain rfl:(⟨a7,0,none⟩:Addr)=cU:=(by injection dG);(simp only[pW]at aV);replace bI:=eq_true bI;replace bC:=eq_true bC;have eP:0≤(a0:Int):=oD (by assumption);have eK:(a0:Int)<((aA.length:Int):Int):=oD (by assumption);obtain⟨bQ,cQ,gX,fC,gl75,cl75,HG75⟩:=Kd.JZ a2.out oM;(cases gX);have h9:=am fC;have GG75:=am HG75;clear fC gl75 HG75;obtain⟨hP,hf75_0⟩:=Kd.JH (⟨#[]⟩:ByteArray) a2.out (a0:Int) eP eK;replace eP:=eq_true eP;replace eK:=eq_true eK;obtain⟨fJ,hz81_⟩:=Kd.JH (⟨#[]⟩:ByteArray) a2.out (a0:Int) (oD (by assumption)) (oD (by assumption));have cZ:=Kd.JO a2.out (a0:Int) (a9++(⟨#[41]⟩:ByteArray)))|((with_reducible refine pY (t:=9) (p:=86) rfl ?_);(try(rw[rQ w80];generalize hq_:World.drewN w80 _=w80;have aE:=am (Kd.JP hq_ a2.out);have aD:=am (Kd.JP hq_ a1.out);have aC:=am (Kd.JP hq_ a4.out);have aB:=am (Kd.JP hq_ a5.out);have aF:=am (a1i hq_ a3.out);have aJ:=am (wP hq_ HB.out);clear hq_ a2 a1 a4 a5 a3 HB;have a2:=aE;have a1:=aD;have a4:=aC;have a5:=aB;have a3:=aF;have HB:=aJ;clear aE aD aC aB aF aJ;(try(obtain⟨fJ,hz81_⟩:=Kd.JH (⟨#[]⟩:ByteArray) a2.out (a0:Int) (oD (by assumption)) (oD (by assumption))));(try(have cZ:=Kd.JO a2.out (a0:Int) (a9++(⟨#[41]⟩:ByteArray))))));refine pH (t:=9) (p:=86) (v:=?vo_w82) (w1:=(w80.setCell ⟨bQ,(a0:Int).toNat,none⟩ (.string (a9++(⟨#[41]⟩:ByteArray))))) ?hg ?ho ?hn ?hr ?_;(case ho=>rfl);(case hg=>rfl);(case hn=>rfl);(case hr=>(go_simp;done));intro w82 hw;have hg:w80.grownBy w82 (some bQ):=(by rw[hw];exact cZ.2);have hp_:Kd.R Kd.string 9 w82 w.heap.size (fun _=>True) (.slice (some ⟨bQ,0,none⟩) aA.length cQ) eD:=(by rw[hw,g1.out];exact cZ.1);clear cZ;replace a1:=am (Kd.JI (v:=(.slice (some ⟨bQ,0,none⟩) aA.length cQ)) (by exact sR<|a1.out) (Kd.JG a2.out) (by decide) hg);replace a4:=am (Kd.JI (v:=(.slice (some ⟨bQ,0,none⟩) aA.length cQ)) (by exact sR<|a4.out) (Kd.JG a2.out) (by decide) hg);replace a3:=gG a3 hg a2;replace a5:=am (Kd.JI (v:=(.slice (some ⟨bQ,0,none⟩) aA.length cQ)) (by exact sR<|a5.out) (Kd.JG a2.out) (by decide) hg);replace a2:=am hp_;replace HB:=am ((by rw[hw];exact kR (HB.out) h9.out:Below w.heap.size w w82));clear hg hw hp_))
     (try simp only[← hl5_2])
     go_roundg k2
     case measure=>have:=aS.out;have:=aR.out;omega
     case rel=>exact⟨eD,b6,(wrap64 (a0+1)),rfl,H,⟨by have:=aS.out;have:=aR.out;omega⟩,⟨by(try simp only[hl5_2]);exact sR<|a2.out⟩,⟨by(try simp only[hl5_2]);exact sR<|a1.out⟩,⟨bW⟩⟩
    replace H:=am H
    have hI:=cf6 a3.out
    go_wp2_with (first|(go_at_call 40;refine(JIi _ _ _ _ _ _ _ _ _ bS.out).mono ?_;rintro e w84 ⟨b8,rfl,aK,hb⟩;replace a2:=rB a2 hb;replace a1:=rB a1 hb;have a5:=am (Kd.JF (Kd.JN aK (Kd.JM (by exact sR<|a4.out))) (kG (by exact bW)));replace a4:=rE a4 aK hb;replace a3:=gB a3 hb;replace HB:=hX hb;(try clear hb);(try clear aK);obtain⟨j_,jM,rfl⟩:=Kd.JB a5.out;have aQ:0≤(a0:Int):=oD (by assumption);have aN:a0<(a6.length:Int):=oD (by assumption);obtain⟨b1,bN,aH⟩:=Kd.JJ (Kd.JA a1.out).2.2 a0 aQ aN;(try rw[← aZ.out]at aH);(try rw[← bV.out]at aH);obtain rfl:(⟨a7,0,none⟩:Addr)=b1:=(by injection bN);(simp only[pW]at aH);replace aQ:=eq_true aQ;replace aN:=eq_true aN;have cK:0≤(a0:Int):=oD (by assumption);have cH:(a0:Int)<((a6.length:Int):Int):=oD (by assumption);obtain⟨f6,hf71_0⟩:=Kd.JH false a1.out (a0:Int) cK cH;replace cK:=eq_true cK;replace cH:=eq_true cH;obtain⟨fI,hz86_⟩:=Kd.JH false a1.out (a0:Int) (oD (by assumption)) (oD (by assumption));have cY:=Kd.JO a1.out (a0:Int) false)|((with_reducible refine pY (t:=4) (p:=78) rfl ?_);(try(rw[rQ w84];generalize hq_:World.drewN w84 _=w84;have aE:=am (Kd.JP hq_ a2.out);have aD:=am (Kd.JP hq_ a1.out);have aC:=am (Kd.JP hq_ a4.out);have aB:=am (Kd.JP hq_ a5.out);have aF:=am (a1i hq_ a3.out);have aJ:=am (wP hq_ HB.out);clear hq_ a2 a1 a4 a5 a3 HB;have a2:=aE;have a1:=aD;have a4:=aC;have a5:=aB;have a3:=aF;have HB:=aJ;clear aE aD aC aB aF aJ;(try(obtain⟨fI,hz86_⟩:=Kd.JH false a1.out (a0:Int) (oD (by assumption)) (oD (by assumption))));(try(have cY:=Kd.JO a1.out (a0:Int) false))));refine pH (t:=4) (p:=78) (v:=?vo_w87) (w1:=(w84.setCell ⟨a7,(a0:Int).toNat,none⟩ (.bool false))) ?hg ?ho ?hn ?hr ?_;(case ho=>rfl);(case hg=>rfl);(case hn=>rfl);(case hr=>(go_simp;done));intro w87 hw;have hg:w84.grownBy w87 (some a7):=(by rw[hw];exact cY.2);have hp_:Kd.R Kd.bool 4 w87 w.heap.size (fun _=>True) (.slice (some ⟨a7,0,none⟩) a6.length a8) b6:=(by rw[hw,dY.out];exact cY.1);clear cY;replace a2:=am (Kd.JI (v:=(.slice (some ⟨a7,0,none⟩) a6.length a8)) (by exact sR<|a2.out) (Kd.JG a1.out) (by decide) hg);replace a4:=am (Kd.JI (v:=(.slice (some ⟨a7,0,none⟩) a6.length a8)) (by exact sR<|a4.out) (Kd.JG a1.out) (by decide) hg);replace a3:=gG a3 hg a1;replace a5:=am (Kd.JI (v:=(.slice (some ⟨a7,0,none⟩) a6.length a8)) (by exact sR<|a5.out) (Kd.JG a1.out) (by decide) hg);replace a1:=am hp_;replace HB:=am ((by rw[hw];exact kR (HB.out) aX.out:Below w.heap.size w w87));clear hg hw hp_;have bI:0≤(a0:Int):=oD (by assumption);have bC:a0<(b6.length:Int):=(by have h_:(a0:Int)<((a6.length:Int):Int):=oD (by assumption);(have e_:=(Kd.JA a1.out).1;omega));have ql397:((a0:Int)<((a6.length:Int):Int))=True:=eq_true (oD (by assumption));obtain⟨cU,dG,aV⟩:=Kd.JJ (Kd.JA a1.out).2.2 a0 bI bC;(try rw[← aZ.out]at aV);(try rw[← bV.out]at aV);obtain rfl:(⟨a7,0,none⟩:Addr)=cU:=(by injection dG);(simp only[pW]at aV);replace bI:=eq_true bI;replace bC:=eq_true bC))
    (try simp only[← hl5_2])
    go_roundg k2
    case measure=>have:=aS.out;have:=aR.out;omega
    case rel=>exact⟨aA,b6,(wrap64 (a0+1)),rfl,H,⟨by have:=aS.out;have:=aR.out;omega⟩,⟨by(try simp only[hl5_2]);exact sR<|a2.out⟩,⟨by(try simp only[hl5_2]);exact sR<|a1.out⟩,⟨bW⟩⟩
   rw[if_neg cN]at H
   have fS:decide (0<(b9.length:Int))=false:=decide_eq_false cN
   have fR:decide (0<b9.length)=false:=decide_eq_false oM
   have h7 :¬0<b9.length:=by omega
   clear cN
   replace H:=iN H;obtain⟨i7,H⟩:=H
   replace H:=iN H;obtain⟨i6,H⟩:=H
   generalize hbq90:wH false a6 a0=jU at H
   have aY:=am hbq90.symm;clear hbq90
   replace H:=iB H;rcases H with⟨rfl,H⟩|⟨rfl,H⟩
   ·replace H:=oS H;obtain⟨b5,dX,H⟩:=H
    generalize hbq93:wH false b5 a0=jT at H
    have bU:=am hbq93.symm;clear hbq93
    replace H:=iB H;rcases H with⟨rfl,H⟩|⟨rfl,H⟩
    ·replace H:=iN H;obtain⟨i5,H⟩:=H
     generalize dK:aA.set (a0:Int).toNat a9=eC at H
     have g0:=am dK.symm;clear dK
     replace H:=am H
     have hH:=cf6 a3.out
     go_wp2_with (first|(go_at_call 40;refine(JIi _ _ _ _ _ _ _ _ _ bS.out).mono ?_;rintro e w98 ⟨b8,rfl,aK,hb⟩;replace a2:=rB a2 hb;replace a1:=rB a1 hb;have a5:=am (Kd.JF (Kd.JN aK (Kd.JM (by exact sR<|a4.out))) (kG (by exact bW)));replace a4:=rE a4 aK hb;replace a3:=gB a3 hb;replace HB:=hX hb;(try clear hb);(try clear aK);obtain⟨jZ,jL,rfl⟩:=Kd.JB a5.out;have aO:0≤(a0:Int):=oD (by assumption);have aM:a0<(a6.length:Int):=oD (by assumption);obtain⟨b0,bM,aG⟩:=Kd.JJ (Kd.JA a1.out).2.2 a0 aO aM;(try rw[← aY.out]at aG);(try rw[← bU.out]at aG);obtain rfl:(⟨a7,0,none⟩:Addr)=b0:=(by injection bM);(simp only[pW]at aG);replace aO:=eq_true aO;replace aM:=eq_true aM;have cJ:0≤(a0:Int):=oD (by assumption);have cG:(a0:Int)<((a6.length:Int):Int):=oD (by assumption);obtain⟨eZ,hf92_0⟩:=Kd.JH false a1.out (a0:Int) cJ cG;replace cJ:=eq_true cJ;replace cG:=eq_true cG;obtain⟨eY,hz100_⟩:=Kd.JH false a1.out (a0:Int) (oD (by assumption)) (oD (by assumption));have cF:=Kd.JO a1.out (a0:Int) (decide ((a9.size:Int)≤4000)))|((with_reducible refine pY (t:=4) (p:=78) rfl ?_);(try(rw[rQ w98];generalize hq_:World.drewN w98 _=w98;have aE:=am (Kd.JP hq_ a2.out);have aD:=am (Kd.JP hq_ a1.out);have aC:=am (Kd.JP hq_ a4.out);have aB:=am (Kd.JP hq_ a5.out);have aF:=am (a1i hq_ a3.out);have aJ:=am (wP hq_ HB.out);clear hq_ a2 a1 a4 a5 a3 HB;have a2:=aE;have a1:=aD;have a4:=aC;have a5:=aB;have a3:=aF;have HB:=aJ;clear aE aD aC aB aF aJ;(try(obtain⟨eY,hz100_⟩:=Kd.JH false a1.out (a0:Int) (oD (by assumption)) (oD (by assumption))));(try(have cF:=Kd.JO a1.out (a0:Int) (decide ((a9.size:Int)≤4000))))));refine pH (t:=4) (p:=78) (v:=?vo_w101) (w1:=(w98.setCell ⟨a7,(a0:Int).toNat,none⟩ (.bool (decide ((a9.size:Int)≤4000))))) ?hg ?ho ?hn ?hr ?_;(case ho=>rfl);(case hg=>rfl);(case hn=>rfl);(case hr=>(go_simp;done));intro w101 hw;have hg:w98.grownBy w101 (some a7):=(by rw[hw];exact cF.2);have hp_:Kd.R Kd.bool 4 w101 w.heap.size (fun _=>True) (.slice (some ⟨a7,0,none⟩) a6.length a8) b5:=(by rw[hw,dX.out];exact cF.1);clear cF;replace a2:=am (Kd.JI (v:=(.slice (some ⟨a7,0,none⟩) a6.length a8)) (by exact sR<|a2.out) (Kd.JG a1.out) (by decide) hg);replace a4:=am (Kd.JI (v:=(.slice (some ⟨a7,0,none⟩) a6.length a8)) (by exact sR<|a4.out) (Kd.JG a1.out) (by decide) hg);replace a3:=gG a3 hg a1;replace a5:=am (Kd.JI (v:=(.slice (some ⟨a7,0,none⟩) a6.length a8)) (by exact sR<|a5.out) (Kd.JG a1.out) (by decide) hg);replace a1:=am hp_;replace HB:=am ((by rw[hw];exact kR (HB.out) aX.out:Below w.heap.size w w101));clear hg hw hp_;have bH:0≤(a0:Int):=oD (by assumption);have bB:a0<(b5.length:Int):=(by have h_:(a0:Int)<((a6.length:Int):Int):=oD (by assumption);(have e_:=(Kd.JA a1.out).1;omega));have ql401:((a0:Int)<((a6.length:Int):Int))=True:=eq_true (oD (by assumption));obtain⟨cT,dF,aU⟩:=Kd.JJ (Kd.JA a1.out).2.2 a0 bH bB;(try rw[← aY.out]at aU);(try rw[← bU.out]at aU);obtain rfl:(⟨a7,0,none⟩:Addr)=cT:=(by injection dF);(simp only[pW]at aU);replace bH:=eq_true bH;replace bB:=eq_true bB;have eO:0≤(a0:Int):=oD (by assumption);have eJ:(a0:Int)<((aA.length:Int):Int):=oD (by assumption);obtain⟨bP,cP,gV,fB,gl96,cl96,HG96⟩:=Kd.JZ a2.out oM;(cases gV);have h8:=am fB;have GG96:=am HG96;clear fB gl96 HG96;obtain⟨hO,hf96_0⟩:=Kd.JH (⟨#[]⟩:ByteArray) a2.out (a0:Int) eO eJ;replace eO:=eq_true eO;replace eJ:=eq_true eJ;obtain⟨eX,hz102_⟩:=Kd.JH (⟨#[]⟩:ByteArray) a2.out (a0:Int) (oD (by assumption)) (oD (by assumption));have cE:=Kd.JO a2.out (a0:Int) a9)|((with_reducible refine pY (t:=9) (p:=86) rfl ?_);(try(rw[rQ w101];generalize hq_:World.drewN w101 _=w101;have aE:=am (Kd.JP hq_ a2.out);have aD:=am (Kd.JP hq_ a1.out);have aC:=am (Kd.JP hq_ a4.out);have aB:=am (Kd.JP hq_ a5.out);have aF:=am (a1i hq_ a3.out);have aJ:=am (wP hq_ HB.out);clear hq_ a2 a1 a4 a5 a3 HB;have a2:=aE;have a1:=aD;have a4:=aC;have a5:=aB;have a3:=aF;have HB:=aJ;clear aE aD aC aB aF aJ;(try(obtain⟨eX,hz102_⟩:=Kd.JH (⟨#[]⟩:ByteArray) a2.out (a0:Int) (oD (by assumption)) (oD (by assumption))));(try(have cE:=Kd.JO a2.out (a0:Int) a9))));refine pH (t:=9) (p:=86) (v:=?vo_w103) (w1:=(w101.setCell ⟨bP,(a0:Int).toNat,none⟩ (.string a9))) ?hg ?ho ?hn ?hr ?_;(case ho=>rfl);(case hg=>rfl);(case hn=>rfl);(case hr=>(go_simp;done));intro w103 hw;have hg:w101.grownBy w103 (some bP):=(by rw[hw];exact cE.2);have hp_:Kd.R Kd.string 9 w103 w.heap.size (fun _=>True) (.slice (some ⟨bP,0,none⟩) aA.length cP) eC:=(by rw[hw,g0.out];exact cE.1);clear cE;replace a1:=am (Kd.JI (v:=(.slice (some ⟨bP,0,none⟩) aA.length cP)) (by exact sR<|a1.out) (Kd.JG a2.out) (by decide) hg);replace a4:=am (Kd.JI (v:=(.slice (some ⟨bP,0,none⟩) aA.length cP)) (by exact sR<|a4.out) (Kd.JG a2.out) (by decide) hg);replace a3:=gG a3 hg a2;replace a5:=am (Kd.JI (v:=(.slice (some ⟨bP,0,none⟩) aA.length cP)) (by exact sR<|a5.out) (Kd.JG a2.out) (by decide) hg);replace a2:=am hp_;replace HB:=am ((by rw[hw];exact kR (HB.out) h8.out:Below w.heap.size w w103));clear hg hw hp_))
     (try simp only[← hl5_2])
     go_roundg k2
     case measure=>have:=aS.out;have:=aR.out;omega
     case rel=>exact⟨eC,b5,(wrap64 (a0+1)),rfl,H,⟨by have:=aS.out;have:=aR.out;omega⟩,⟨by(try simp only[hl5_2]);exact sR<|a2.out⟩,⟨by(try simp only[hl5_2]);exact sR<|a1.out⟩,⟨bW⟩⟩
    replace H:=am H
    have gU:=cf6 a3.out
    go_wp2_with (first|(go_at_call 40;refine(JIi _ _ _ _ _ _ _ _ _ bS.out).mono ?_;rintro e w105 ⟨b8,rfl,aK,hb⟩;replace a2:=rB a2 hb;replace a1:=rB a1 hb;have a5:=am (Kd.JF (Kd.JN aK (Kd.JM (by exact sR<|a4.out))) (kG (by exact bW)));replace a4:=rE a4 aK hb;replace a3:=gB a3 hb;replace HB:=hX hb;(try clear hb);(try clear aK);obtain⟨jE,i4,rfl⟩:=Kd.JB a5.out;have aO:0≤(a0:Int):=oD (by assumption);have aM:a0<(a6.length:Int):=oD (by assumption);obtain⟨b0,bM,aG⟩:=Kd.JJ (Kd.JA a1.out).2.2 a0 aO aM;(try rw[← aY.out]at aG);(try rw[← bU.out]at aG);obtain rfl:(⟨a7,0,none⟩:Addr)=b0:=(by injection bM);(simp only[pW]at aG);replace aO:=eq_true aO;replace aM:=eq_true aM;have cJ:0≤(a0:Int):=oD (by assumption);have cG:(a0:Int)<((a6.length:Int):Int):=oD (by assumption);obtain⟨eZ,hf92_0⟩:=Kd.JH false a1.out (a0:Int) cJ cG;replace cJ:=eq_true cJ;replace cG:=eq_true cG;obtain⟨eW,hz107_⟩:=Kd.JH false a1.out (a0:Int) (oD (by assumption)) (oD (by assumption));have cC:=Kd.JO a1.out (a0:Int) (decide ((a9.size:Int)≤4000)))|((with_reducible refine pY (t:=4) (p:=78) rfl ?_);(try(rw[rQ w105];generalize hq_:World.drewN w105 _=w105;have aE:=am (Kd.JP hq_ a2.out);have aD:=am (Kd.JP hq_ a1.out);have aC:=am (Kd.JP hq_ a4.out);have aB:=am (Kd.JP hq_ a5.out);have aF:=am (a1i hq_ a3.out);have aJ:=am (wP hq_ HB.out);clear hq_ a2 a1 a4 a5 a3 HB;have a2:=aE;have a1:=aD;have a4:=aC;have a5:=aB;have a3:=aF;have HB:=aJ;clear aE aD aC aB aF aJ;(try(obtain⟨eW,hz107_⟩:=Kd.JH false a1.out (a0:Int) (oD (by assumption)) (oD (by assumption))));(try(have cC:=Kd.JO a1.out (a0:Int) (decide ((a9.size:Int)≤4000))))));refine pH (t:=4) (p:=78) (v:=?vo_w108) (w1:=(w105.setCell ⟨a7,(a0:Int).toNat,none⟩ (.bool (decide ((a9.size:Int)≤4000))))) ?hg ?ho ?hn ?hr ?_;(case ho=>rfl);(case hg=>rfl);(case hn=>rfl);(case hr=>(go_simp;done));intro w108 hw;have hg:w105.grownBy w108 (some a7):=(by rw[hw];exact cC.2);have hp_:Kd.R Kd.bool 4 w108 w.heap.size (fun _=>True) (.slice (some ⟨a7,0,none⟩) a6.length a8) b5:=(by rw[hw,dX.out];exact cC.1);clear cC;replace a2:=am (Kd.JI (v:=(.slice (some ⟨a7,0,none⟩) a6.length a8)) (by exact sR<|a2.out) (Kd.JG a1.out) (by decide) hg);replace a4:=am (Kd.JI (v:=(.slice (some ⟨a7,0,none⟩) a6.length a8)) (by exact sR<|a4.out) (Kd.JG a1.out) (by decide) hg);replace a3:=gG a3 hg a1;replace a5:=am (Kd.JI (v:=(.slice (some ⟨a7,0,none⟩) a6.length a8)) (by exact sR<|a5.out) (Kd.JG a1.out) (by decide) hg);replace a1:=am hp_;replace HB:=am ((by rw[hw];exact kR (HB.out) aX.out:Below w.heap.size w w108));clear hg hw hp_;have bH:0≤(a0:Int):=oD (by assumption);have bB:a0<(b5.length:Int):=(by have h_:(a0:Int)<((a6.length:Int):Int):=oD (by assumption);(have e_:=(Kd.JA a1.out).1;omega));have ql401:((a0:Int)<((a6.length:Int):Int))=True:=eq_true (oD (by assumption));obtain⟨cT,dF,aU⟩:=Kd.JJ (Kd.JA a1.out).2.2 a0 bH bB;(try rw[← aY.out]at aU);(try rw[← bU.out]at aU);obtain rfl:(⟨a7,0,none⟩:Addr)=cT:=(by injection dF);(simp only[pW]at aU);replace bH:=eq_true bH;replace bB:=eq_true bB))
    (try simp only[← hl5_2])
    go_roundg k2
    case measure=>have:=aS.out;have:=aR.out;omega
    case rel=>exact⟨aA,b5,(wrap64 (a0+1)),rfl,H,⟨by have:=aS.out;have:=aR.out;omega⟩,⟨by(try simp only[hl5_2]);exact sR<|a2.out⟩,⟨by(try simp only[hl5_2]);exact sR<|a1.out⟩,⟨bW⟩⟩
   replace H:=oS H;obtain⟨b4,dW,H⟩:=H
   generalize hbq110:wH false b4 a0=iY at H
   have bO:=am hbq110.symm;clear hbq110
   replace H:=iB H;rcases H with⟨rfl,H⟩|⟨rfl,H⟩
   ·replace H:=iN H;obtain⟨hW,H⟩:=H
    generalize dJ:aA.set (a0:Int).toNat a9=eB at H
    have f_:=am dJ.symm;clear dJ
    replace H:=am H
    have gR:=cf6 a3.out
    go_wp2_with (first|(go_at_call 40;refine(JIi _ _ _ _ _ _ _ _ _ bS.out).mono ?_;rintro e w115 ⟨b8,rfl,aK,hb⟩;replace a2:=rB a2 hb;replace a1:=rB a1 hb;have a5:=am (Kd.JF (Kd.JN aK (Kd.JM (by exact sR<|a4.out))) (kG (by exact bW)));replace a4:=rE a4 aK hb;replace a3:=gB a3 hb;replace HB:=hX hb;(try clear hb);(try clear aK);obtain⟨jD,i3,rfl⟩:=Kd.JB a5.out;have aO:0≤(a0:Int):=oD (by assumption);have aM:a0<(a6.length:Int):=oD (by assumption);obtain⟨b0,bM,aG⟩:=Kd.JJ (Kd.JA a1.out).2.2 a0 aO aM;(try rw[← aY.out]at aG);(try rw[← bO.out]at aG);obtain rfl:(⟨a7,0,none⟩:Addr)=b0:=(by injection bM);(simp only[pW]at aG);replace aO:=eq_true aO;replace aM:=eq_true aM;have bL:0≤(a0:Int):=oD (by assumption);have bF:(a0:Int)<((a6.length:Int):Int):=oD (by assumption);obtain⟨e8,hf109_0⟩:=Kd.JH false a1.out (a0:Int) bL bF;replace bL:=eq_true bL;replace bF:=eq_true bF;obtain⟨eV,hz117_⟩:=Kd.JH false a1.out (a0:Int) (oD (by assumption)) (oD (by assumption));have cB:=Kd.JO a1.out (a0:Int) false)|((with_reducible refine pY (t:=4) (p:=78) rfl ?_);(try(rw[rQ w115];generalize hq_:World.drewN w115 _=w115;have aE:=am (Kd.JP hq_ a2.out);have aD:=am (Kd.JP hq_ a1.out);have aC:=am (Kd.JP hq_ a4.out);have aB:=am (Kd.JP hq_ a5.out);have aF:=am (a1i hq_ a3.out);have aJ:=am (wP hq_ HB.out);clear hq_ a2 a1 a4 a5 a3 HB;have a2:=aE;have a1:=aD;have a4:=aC;have a5:=aB;have a3:=aF;have HB:=aJ;clear aE aD aC aB aF aJ;(try(obtain⟨eV,hz117_⟩:=Kd.JH false a1.out (a0:Int) (oD (by assumption)) (oD (by assumption))));(try(have cB:=Kd.JO a1.out (a0:Int) false))));refine pH (t:=4) (p:=78) (v:=?vo_w118) (w1:=(w115.setCell ⟨a7,(a0:Int).toNat,none⟩ (.bool false))) ?hg ?ho ?hn ?hr ?_;(case ho=>rfl);(case hg=>rfl);(case hn=>rfl);(case hr=>(go_simp;done));intro w118 hw;have hg:w115.grownBy w118 (some a7):=(by rw[hw];exact cB.2);have hp_:Kd.R Kd.bool 4 w118 w.heap.size (fun _=>True) (.slice (some ⟨a7,0,none⟩) a6.length a8) b4:=(by rw[hw,dW.out];exact cB.1);clear cB;replace a2:=am (Kd.JI (v:=(.slice (some ⟨a7,0,none⟩) a6.length a8)) (by exact sR<|a2.out) (Kd.JG a1.out) (by decide) hg);replace a4:=am (Kd.JI (v:=(.slice (some ⟨a7,0,none⟩) a6.length a8)) (by exact sR<|a4.out) (Kd.JG a1.out) (by decide) hg);replace a3:=gG a3 hg a1;replace a5:=am (Kd.JI (v:=(.slice (some ⟨a7,0,none⟩) a6.length a8)) (by exact sR<|a5.out) (Kd.JG a1.out) (by decide) hg);replace a1:=am hp_;replace HB:=am ((by rw[hw];exact kR (HB.out) aX.out:Below w.heap.size w w118));clear hg hw hp_;have bG:0≤(a0:Int):=oD (by assumption);have bA:a0<(b4.length:Int):=(by have h_:(a0:Int)<((a6.length:Int):Int):=oD (by assumption);(have e_:=(Kd.JA a1.out).1;omega));have ql404:((a0:Int)<((a6.length:Int):Int))=True:=eq_true (oD (by assumption));obtain⟨cS,dE,aT⟩:=Kd.JJ (Kd.JA a1.out).2.2 a0 bG bA;(try rw[← aY.out]at aT);(try rw[← bO.out]at aT);obtain rfl:(⟨a7,0,none⟩:Addr)=cS:=(by injection dE);(simp only[pW]at aT);replace bG:=eq_true bG;replace bA:=eq_true bA;have dC:0≤(a0:Int):=oD (by assumption);have dA:(a0:Int)<((aA.length:Int):Int):=oD (by assumption);obtain⟨b3,bT,fQ,dT,gl113,cl113,HG113⟩:=Kd.JZ a2.out oM;(cases fQ);have g9:=am dT;have GG113:=am HG113;clear dT gl113 HG113;obtain⟨hF,hf113_0⟩:=Kd.JH (⟨#[]⟩:ByteArray) a2.out (a0:Int) dC dA;replace dC:=eq_true dC;replace dA:=eq_true dA;obtain⟨eU,hz119_⟩:=Kd.JH (⟨#[]⟩:ByteArray) a2.out (a0:Int) (oD (by assumption)) (oD (by assumption));have c1:=Kd.JO a2.out (a0:Int) a9)|((with_reducible refine pY (t:=9) (p:=86) rfl ?_);(try(rw[rQ w118];generalize hq_:World.drewN w118 _=w118;have aE:=am (Kd.JP hq_ a2.out);have aD:=am (Kd.JP hq_ a1.out);have aC:=am (Kd.JP hq_ a4.out);have aB:=am (Kd.JP hq_ a5.out);have aF:=am (a1i hq_ a3.out);have aJ:=am (wP hq_ HB.out);clear hq_ a2 a1 a4 a5 a3 HB;have a2:=aE;have a1:=aD;have a4:=aC;have a5:=aB;have a3:=aF;have HB:=aJ;clear aE aD aC aB aF aJ;(try(obtain⟨eU,hz119_⟩:=Kd.JH (⟨#[]⟩:ByteArray) a2.out (a0:Int) (oD (by assumption)) (oD (by assumption))));(try(have c1:=Kd.JO a2.out (a0:Int) a9))));refine pH (t:=9) (p:=86) (v:=?vo_w120) (w1:=(w118.setCell ⟨b3,(a0:Int).toNat,none⟩ (.string a9))) ?hg ?ho ?hn ?hr ?_;(case ho=>rfl);(case hg=>rfl);(case hn=>rfl);(case hr=>(go_simp;done));intro w120 hw;have hg:w118.grownBy w120 (some b3):=(by rw[hw];exact c1.2);have hp_:Kd.R Kd.string 9 w120 w.heap.size (fun _=>True) (.slice (some ⟨b3,0,none⟩) aA.length bT) eB:=(by rw[hw,f_.out];exact c1.1);clear c1;replace a1:=am (Kd.JI (v:=(.slice (some ⟨b3,0,none⟩) aA.length bT)) (by exact sR<|a1.out) (Kd.JG a2.out) (by decide) hg);replace a4:=am (Kd.JI (v:=(.slice (some ⟨b3,0,none⟩) aA.length bT)) (by exact sR<|a4.out) (Kd.JG a2.out) (by decide) hg);replace a3:=gG a3 hg a2;replace a5:=am (Kd.JI (v:=(.slice (some ⟨b3,0,none⟩) aA.length bT)) (by exact sR<|a5.out) (Kd.JG a2.out) (by decide) hg);replace a2:=am hp_;replace HB:=am ((by rw[hw];exact kR (HB.out) g9.out:Below w.heap.size w w120));clear hg hw hp_))
    (try simp only[← hl5_2])
    go_roundg k2
    case measure=>have:=aS.out;have:=aR.out;omega
    case rel=>exact⟨eB,b4,(wrap64 (a0+1)),rfl,H,⟨by have:=aS.out;have:=aR.out;omega⟩,⟨by(try simp only[hl5_2]);exact sR<|a2.out⟩,⟨by(try simp only[hl5_2]);exact sR<|a1.out⟩,⟨bW⟩⟩
   replace H:=am H
   have gQ:=cf6 a3.out
   go_wp2_with (first|(go_at_call 40;refine(JIi _ _ _ _ _ _ _ _ _ bS.out).mono ?_;rintro e w122 ⟨b8,rfl,aK,hb⟩;replace a2:=rB a2 hb;replace a1:=rB a1 hb;have a5:=am (Kd.JF (Kd.JN aK (Kd.JM (by exact sR<|a4.out))) (kG (by exact bW)));replace a4:=rE a4 aK hb;replace a3:=gB a3 hb;replace HB:=hX hb;(try clear hb);(try clear aK);obtain⟨jC,i2,rfl⟩:=Kd.JB a5.out;have aO:0≤(a0:Int):=oD (by assumption);have aM:a0<(a6.length:Int):=oD (by assumption);obtain⟨b0,bM,aG⟩:=Kd.JJ (Kd.JA a1.out).2.2 a0 aO aM;(try rw[← aY.out]at aG);(try rw[← bO.out]at aG);obtain rfl:(⟨a7,0,none⟩:Addr)=b0:=(by injection bM);(simp only[pW]at aG);replace aO:=eq_true aO;replace aM:=eq_true aM;have bL:0≤(a0:Int):=oD (by assumption);have bF:(a0:Int)<((a6.length:Int):Int):=oD (by assumption);obtain⟨e8,hf109_0⟩:=Kd.JH false a1.out (a0:Int) bL bF;replace bL:=eq_true bL;replace bF:=eq_true bF;obtain⟨eT,hz124_⟩:=Kd.JH false a1.out (a0:Int) (oD (by assumption)) (oD (by assumption));have b_:=Kd.JO a1.out (a0:Int) false)|((with_reducible refine pY (t:=4) (p:=78) rfl ?_);(try(rw[rQ w122];generalize hq_:World.drewN w122 _=w122;have aE:=am (Kd.JP hq_ a2.out);have aD:=am (Kd.JP hq_ a1.out);have aC:=am (Kd.JP hq_ a4.out);have aB:=am (Kd.JP hq_ a5.out);have aF:=am (a1i hq_ a3.out);have aJ:=am (wP hq_ HB.out);clear hq_ a2 a1 a4 a5 a3 HB;have a2:=aE;have a1:=aD;have a4:=aC;have a5:=aB;have a3:=aF;have HB:=aJ;clear aE aD aC aB aF aJ;(try(obtain⟨eT,hz124_⟩:=Kd.JH false a1.out (a0:Int) (oD (by assumption)) (oD (by assumption))));(try(have b_:=Kd.JO a1.out (a0:Int) false))));refine pH (t:=4) (p:=78) (v:=?vo_w125) (w1:=(w122.setCell ⟨a7,(a0:Int).toNat,none⟩ (.bool false))) ?hg ?ho ?hn ?hr ?_;(case ho=>rfl);(case hg=>rfl);(case hn=>rfl);(case hr=>(go_simp;done));intro w125 hw;have hg:w122.grownBy w125 (some a7):=(by rw[hw];exact b_.2);have hp_:Kd.R Kd.bool 4 w125 w.heap.size (fun _=>True) (.slice (some ⟨a7,0,none⟩) a6.length a8) b4:=(by rw[hw,dW.out];exact b_.1);clear b_;replace a2:=am (Kd.JI (v:=(.slice (some ⟨a7,0,none⟩) a6.length a8)) (by exact sR<|a2.out) (Kd.JG a1.out) (by decide) hg);replace a4:=am (Kd.JI (v:=(.slice (some ⟨a7,0,none⟩) a6.length a8)) (by exact sR<|a4.out) (Kd.JG a1.out) (by decide) hg);replace a3:=gG a3 hg a1;replace a5:=am (Kd.JI (v:=(.slice (some ⟨a7,0,none⟩) a6.length a8)) (by exact sR<|a5.out) (Kd.JG a1.out) (by decide) hg);replace a1:=am hp_;replace HB:=am ((by rw[hw];exact kR (HB.out) aX.out:Below w.heap.size w w125));clear hg hw hp_;have bG:0≤(a0:Int):=oD (by assumption);have bA:a0<(b4.length:Int):=(by have h_:(a0:Int)<((a6.length:Int):Int):=oD (by assumption);(have e_:=(Kd.JA a1.out).1;omega));have ql404:((a0:Int)<((a6.length:Int):Int))=True:=eq_true (oD (by assumption));obtain⟨cS,dE,aT⟩:=Kd.JJ (Kd.JA a1.out).2.2 a0 bG bA;(try rw[← aY.out]at aT);(try rw[← bO.out]at aT);obtain rfl:(⟨a7,0,none⟩:Addr)=cS:=(by injection dE);(simp only[pW]at aT);replace bG:=eq_true bG;replace bA:=eq_true bA))
   (try simp only[← hl5_2])
   go_roundg k2
   case measure=>have:=aS.out;have:=aR.out;omega
   case rel=>exact⟨aA,b4,(wrap64 (a0+1)),rfl,H,⟨by have:=aS.out;have:=aR.out;omega⟩,⟨by(try simp only[hl5_2]);exact sR<|a2.out⟩,⟨by(try simp only[hl5_2]);exact sR<|a1.out⟩,⟨bW⟩⟩
end Go.Proofs.YtkpipmojkhikaaaGreat.PAll
