/- Go functions as Lean functions: a call comes to what they say. -/
import Derived.Test.YtkpipmojkhikaaaGreatVValues5
import Derived.Test.YtkpipmojkhikaaaGreatVValues7
namespace Go.Proofs.YtkpipmojkhikaaaGreat.PAll
open Go.RowKit Go.A_ Go.B_ Go.C_ Go.D_
attribute [local go_sem] rF rC tE tD qK qJ rD rA
set_option linter.unusedVariables false
set_option maxHeartbeats 8000000
set_option maxRecDepth 100000
set_option linter.unusedSimpArgs false
def vJ(k:Nat)(a5:List Int)(a4:Int)(a3:Int)(a1:Int):Option ((List (S31))×Int×Int):=(qI k a5 a4 a3 (([]:List (S31))) (([]:List (S31))) 0 a1 4).bind fun a0=>(if(a0.1.length:Int)>80 then(some ((([(⟨1,1,0,0,0,0⟩:S31),(⟨20,1,0,0,1,0⟩:S31)]:List (S31))),a0.2.2.2.2.1,a0.2.2.2.2.2))else((uZ k a0.1).bind fun a2=>(if a2=true then(some (a0.1,a0.2.2.2.2.1,a0.2.2.2.2.2))else(some ((([(⟨1,1,0,0,0,0⟩:S31),(⟨20,1,0,0,1,0⟩:S31)]:List (S31))),a0.2.2.2.2.1,a0.2.2.2.2.2)))))
theorem YGi{k g:Nat}{aB:List Int}{aE aD a1:Int}{r1:List (S31)}{r2 r3:Int}(w0 w:World)(hI:IsS93 w0 w g aB aE aD)(hB:Below w0.heap.size w0 w)(h:vJ k aB aE aD a1=some (r1,r2,r3)) :
  Calls Tryz.prog 54 #[.pointer (some ⟨g,0,none⟩),.int .i64 a1] w fun e w' =>∃aY:Value,e= .returned (aY)∧Kd.R k31 33 w' w.heap.size (fun _=>True) aY r1∧IsS93 w0 w' g aB r2 r3∧Below w0.heap.size w0 w'∧KeepBut w w' g none:=by
 have hu31:=Tryz.underlying33
 have HI0:=am hI
 have HK:=am (KeepBut.refl w g none)
 have HL:=am hB.size
 clear hI
 have HW0:=am hB.size
 have HB:=am hB
 clear hB
 have H:=h
 clear h
 unfold vJ at H
 obtain⟨aC,aJ⟩ :∃y_:List (S31),y_=(([]:List (S31))):=⟨_,rfl⟩
 replace H:((qI k aB aE aD aC (([]:List (S31))) 0 a1 4).bind fun a3=>(if(a3.1.length:Int)>80 then(some ((([(⟨1,1,0,0,0,0⟩:S31),(⟨20,1,0,0,1,0⟩:S31)]:List (S31))),a3.2.2.2.2.1,a3.2.2.2.2.2))else((uZ k a3.1).bind fun aH=>(if aH=true then(some (a3.1,a3.2.2.2.2.1,a3.2.2.2.2.2))else(some ((([(⟨1,1,0,0,0,0⟩:S31),(⟨20,1,0,0,1,0⟩:S31)]:List (S31))),a3.2.2.2.2.1,a3.2.2.2.2.2))))))=some (r1,r2,r3):=by(rw[aJ];with_reducible exact H)
 have aV:=am aJ
 clear aJ
 obtain⟨aL,aI⟩ :∃y_:List (S31),y_=(([]:List (S31))):=⟨_,rfl⟩
 replace H:((qI k aB aE aD aC aL 0 a1 4).bind fun a3=>(if(a3.1.length:Int)>80 then(some ((([(⟨1,1,0,0,0,0⟩:S31),(⟨20,1,0,0,1,0⟩:S31)]:List (S31))),a3.2.2.2.2.1,a3.2.2.2.2.2))else((uZ k a3.1).bind fun aH=>(if aH=true then(some (a3.1,a3.2.2.2.2.1,a3.2.2.2.2.2))else(some ((([(⟨1,1,0,0,0,0⟩:S31),(⟨20,1,0,0,1,0⟩:S31)]:List (S31))),a3.2.2.2.2.1,a3.2.2.2.2.2))))))=some (r1,r2,r3):=by(rw[aI];with_reducible exact H)
 have aU:=am aI
 clear aI
 replace H:=oA H;obtain⟨⟨aA,b6,b5,b4,b3,b2⟩,A3,H⟩:=H
 try dsimp only at H
 replace H:=am H
 go_enter Tryz.func54,Tryz.ntmps54
 go_upto_region 2 with(((with_reducible refine gW ?_);first|(refine lE k31 33 11 ?_;intro bG w5 aR hb;(rw[← aV.out]at aR);have a7:=am (Kd.JF aR (sE (w:=w) (g:=g) (row:=none) (by exact kB)));have a6:=am (IsS93.below (by exact kI) hb);have a5:=kT (qD hb g none);have a4:=hX hb (by exact kH);clear HI0;clear HK;clear HB;have a8:=a7;have HI0:=a6;have HK:=a5;have HB:=a4;clear a7 a6 a5 a4;clear hb aR)|(refine lE k31 33 12 ?_;intro bF w7 aO hb;(rw[← aU.out]at aO);have a7:=am (Kd.JS (by exact sR<|a8.out) (Kd.JX aO) hb);have a6:=am (Kd.JF (Kd.JN aO (Kd.JM (by exact sR<|a8.out))) (sE (w:=w) (g:=g) (row:=none) (by exact kB)));have a5:=am (IsS93.below (by exact kI) hb);have a4:=kT (qD hb g none);have a9:=hX hb (by exact kH);clear a8;clear HI0;clear HK;clear HB;have a8:=a7;have a0:=a6;have HI0:=a5;have HK:=a4;have HB:=a9;clear a7 a6 a5 a4 a9;clear hb aO;obtain⟨a_,aZ,rfl⟩:=Kd.JB a8.out;obtain⟨bA,b7,rfl⟩:=Kd.JB a0.out)|(refine gF 78 (some 14) rfl ?_;refine gT Tryz.func78 (XYi k g aB aE aD (fun k_=>some k_=(.slice a_ aC.length aZ:Value).ownBlock) (.slice a_ aC.length aZ) aC _ _ aL 0 a1 4 aA b6 b5 b4 b3 b2 w0 _ kI kH (Kd.JF (Kd.JL rfl a8.out) HL.out) (Kd.YQ ((IsS93.apart HI0.out a0.out (by decide))) (fun k_ hk_ hs_=>Or.elim hs_ (fun hs_=>(hk_.1.2) hs_) (fun e_=>(hk_.2) e_))) ((Kd.JA a0.out).2.1) A3.out) ?_;rintro b1 w11 ⟨aQ,hi,hb,hkp⟩;have a2:=am (Kd.JC (ok':=fun k_=>some k_≠(.slice bA aL.length b7:Value).ownBlock) (Kd.R_raise (d:=k31) (b:=w0.heap.size) (b':=w.heap.size) (fun _ _ _ _ h_=>h_) aQ (fun k_ e_=>Or.elim (aQ.1 k_ e_) (fun hs_=>(fun e_=>Kd.JX a8.out k_ e_.symm) hs_) (fun hn_=>Nat.le_trans (sE (w:=w) (g:=g) (row:=none) (by exact kB)) hn_))) (fun k_ hk_=>Or.elim hk_ (fun hs_=>fun e_=>((((IsS93.apart HI0.out a0.out (by decide))).1 k_ e_.symm).1.2) hs_) (fun hn_=>(Kd.JV (Kd.JM (by exact sR<|a0.out)) k_ hn_))));replace a0:=am (Kd.JC (ok':=fun k_=>some k_≠(b1:Value).ownBlock) (Kd.YI ((IsS93.apart HI0.out a0.out (by decide))) hkp (fun k_ hk_ hs_=>Or.elim hs_ (fun hs_=>(hk_.1.2) hs_) (fun e_=>(hk_.2) e_))) (fun k_ hk_=>fun e_=>Or.elim (aQ.1 k_ e_.symm) (fun hs_=>hk_.2.1 (by exact .inl hs_)) (fun hn_=>Nat.not_le.2 hk_.2.2 hn_)));replace HI0:=am hi;replace HK:=am (b7u (by exact kB) hkp (fun k_ hs_=>Or.elim hs_ (fun hs_=>(fun e_=> .inr (Kd.JX a8.out k_ e_.symm)) hs_) (fun e_=> .inl e_)));replace HB:=am hb;clear a8;(try clear hb);(try clear hkp);(try clear aQ);obtain⟨bI,bH,rfl⟩:=Kd.JB a2.out)))
 obtain⟨H⟩:=H
 by_cases c4:(aA.length:Int)>80
 ·rw[if_pos c4]at H
  have b9:decide (80<(aA.length:Int))=true:=decide_eq_true c4
  have b8:decide (80<aA.length)=true:=decide_eq_true oM
  clear c4
  generalize aN:([(⟨1,1,0,0,0,0⟩:S31),(⟨20,1,0,0,1,0⟩:S31)]:List (S31))=bC at H
  have aT:=am aN.symm;clear aN
  simp only[Option.some.injEq,Prod.mk.injEq]at H
  obtain⟨rfl,rfl,rfl⟩:=H
  go_wp2_with (((with_reducible refine pU (N:=29) rfl ?_);refine Kd.YC k31 _ 33 ?hg (N:=29) ?hd (xs:=([(⟨1,1,0,0,0,0⟩:S31),(⟨20,1,0,0,1,0⟩:S31)]:List (S31))) (inner:=[.int .i64 1,.int .i64 1,.int .i64 0,.int .i64 0,.int .i64 0,.int .i64 0,.int .i64 20,.int .i64 1,.int .i64 0,.int .i64 0,.int .i64 1,.int .i64 0]) (ok:=fun _=>True) (okp:=fun _=>True) ?hr ?hp (fun _ hk=>hk) trivial (Below.refl _ _) (Nat.le_refl _) (by simp) ?_;(case hd=>rfl);(case hg=>rfl);(case hr=>(go_simp;done));(case hp=>exact(a1j (show Kd.M k31 _ _ _ (⟨1,1,0,0,0,0⟩:S31) [.int .i64 1,.int .i64 1,.int .i64 0,.int .i64 0,.int .i64 0,.int .i64 0]from(vE _ _ _ (⟨1,1,0,0,0,0⟩:S31))) (a1j (show Kd.M k31 _ _ _ (⟨20,1,0,0,1,0⟩:S31) [.int .i64 20,.int .i64 1,.int .i64 0,.int .i64 0,.int .i64 1,.int .i64 0]from(vE _ _ _ (⟨20,1,0,0,1,0⟩:S31))) (Reps.none _ _))));intro bE w13 aG hb hg_ hnew_;clear hg_ hnew_;(rw[← aT.out]at aG);have a7:=am (Kd.JS (by exact sR<|a0.out) (Kd.JX aG) hb);have a6:=am (Kd.JS (by exact sR<|a2.out) (Kd.JX aG) hb);have a5:=am (Kd.JF (Kd.JN (Kd.JN aG (Kd.JM (by exact sR<|a0.out))) (Kd.JM (by exact sR<|a2.out))) (sE (w:=w) (g:=g) (row:=none) (by exact kB)));have a4:=am (IsS93.below (by exact kI) hb);have a9:=kT (qD hb g none);have aK:=hX hb (by exact kH);clear a0;clear a2;clear HI0;clear HK;clear HB;have a0:=a7;have a2:=a6;have aX:=a5;have HI0:=a4;have HK:=a9;have HB:=aK;clear a7 a6 a5 a4 a9 aK;clear hb aG))
  go_ret
  exact⟨_,rfl,sR<|Kd.JC aX.out (fun _ hk=>trivial),kI,kH,kB⟩
 rw[if_neg c4]at H
 have b9:decide (80<(aA.length:Int))=false:=decide_eq_false c4
 have b8:decide (80<aA.length)=false:=decide_eq_false oM
 clear c4
 replace H:=oA H;obtain⟨aH,b0,H⟩:=H
 replace H:=iB H;rcases H with⟨rfl,H⟩|⟨rfl,H⟩
 ·simp only[Option.some.injEq,Prod.mk.injEq]at H
  obtain⟨rfl,rfl,rfl⟩:=H
  go_wp2_with ((go_at_call 79;refine(KLi (sC (Kd.JA a2.out).2.2) ((Kd.JA a2.out).2.1) b0.out).mono ?_;rintro e w25 ⟨rfl,hb⟩;have a7:=am (Kd.JK (by exact sR<|a0.out) hb);have a6:=am (Kd.JK (by exact sR<|a2.out) hb);have a5:=am (IsS93.below (by exact kI) hb);have a4:=kT (qD hb g none);have a9:=hX hb (by exact kH);clear a0;clear a2;clear HI0;clear HK;clear HB;have a0:=a7;have a2:=a6;have HI0:=a5;have HK:=a4;have HB:=a9;clear a7 a6 a5 a4 a9;(try clear hb)))
  go_ret
  exact⟨_,rfl,sR<|Kd.JC a2.out (fun _ hk=>trivial),kI,kH,kB⟩
 generalize aM:([(⟨1,1,0,0,0,0⟩:S31),(⟨20,1,0,0,1,0⟩:S31)]:List (S31))=bB at H
 have aS:=am aM.symm;clear aM
 simp only[Option.some.injEq,Prod.mk.injEq]at H
 obtain⟨rfl,rfl,rfl⟩:=H
 go_wp2_with (first|(go_at_call 79;refine(KLi (sC (Kd.JA a2.out).2.2) ((Kd.JA a2.out).2.1) b0.out).mono ?_;rintro e w34 ⟨rfl,hb⟩;have a7:=am (Kd.JK (by exact sR<|a0.out) hb);have a6:=am (Kd.JK (by exact sR<|a2.out) hb);have a5:=am (IsS93.below (by exact kI) hb);have a4:=kT (qD hb g none);have a9:=hX hb (by exact kH);clear a0;clear a2;clear HI0;clear HK;clear HB;have a0:=a7;have a2:=a6;have HI0:=a5;have HK:=a4;have HB:=a9;clear a7 a6 a5 a4 a9;(try clear hb))|((with_reducible refine pU (N:=29) rfl ?_);refine Kd.YC k31 _ 33 ?hg (N:=29) ?hd (xs:=([(⟨1,1,0,0,0,0⟩:S31),(⟨20,1,0,0,1,0⟩:S31)]:List (S31))) (inner:=[.int .i64 1,.int .i64 1,.int .i64 0,.int .i64 0,.int .i64 0,.int .i64 0,.int .i64 20,.int .i64 1,.int .i64 0,.int .i64 0,.int .i64 1,.int .i64 0]) (ok:=fun _=>True) (okp:=fun _=>True) ?hr ?hp (fun _ hk=>hk) trivial (Below.refl _ _) (Nat.le_refl _) (by simp) ?_;(case hd=>rfl);(case hg=>rfl);(case hr=>(go_simp;done));(case hp=>exact(a1j (show Kd.M k31 _ _ _ (⟨1,1,0,0,0,0⟩:S31) [.int .i64 1,.int .i64 1,.int .i64 0,.int .i64 0,.int .i64 0,.int .i64 0]from(vE _ _ _ (⟨1,1,0,0,0,0⟩:S31))) (a1j (show Kd.M k31 _ _ _ (⟨20,1,0,0,1,0⟩:S31) [.int .i64 20,.int .i64 1,.int .i64 0,.int .i64 0,.int .i64 1,.int .i64 0]from(vE _ _ _ (⟨20,1,0,0,1,0⟩:S31))) (Reps.none _ _))));intro bD w35 aF hb hg_ hnew_;clear hg_ hnew_;(rw[← aS.out]at aF);have a7:=am (Kd.JS (by exact sR<|a0.out) (Kd.JX aF) hb);have a6:=am (Kd.JS (by exact sR<|a2.out) (Kd.JX aF) hb);have a5:=am (Kd.JF (Kd.JN (Kd.JN aF (Kd.JM (by exact sR<|a0.out))) (Kd.JM (by exact sR<|a2.out))) (sE (w:=w) (g:=g) (row:=none) (by exact kB)));have a4:=am (IsS93.below (by exact kI) hb);have a9:=kT (qD hb g none);have aK:=hX hb (by exact kH);clear a0;clear a2;clear HI0;clear HK;clear HB;have a0:=a7;have a2:=a6;have aW:=a5;have HI0:=a4;have HK:=a9;have HB:=aK;clear a7 a6 a5 a4 a9 aK;clear hb aF))
 go_ret
 exact⟨_,rfl,sR<|Kd.JC aW.out (fun _ hk=>trivial),kI,kH,kB⟩
def uO(a3:List Int)(a2:Int)(a1:Int)(l1:List Int):Option (Int×Int×Int):=(kV a3 a2 a1 (l1.length:Int)).bind fun a0=>(if 0≤a0.1 then(if a0.1<(l1.length:Int)then(some (rd l1 a0.1,a0.2.1,a0.2.2))else(none))else(none))
theorem KQi{g:Nat}{a2:List Int}{a6 a5:Int}{A1:Option Addr}{c1:Nat}{l1:List Int}{r1 r2 r3:Int}(w0 w:World)(hI:IsS93 w0 w g a2 a6 a5)(hB:Below w0.heap.size w0 w)(hr1:Kd.C (Kd.int .i64) w A1 l1.length l1)(hc1:l1.length≤c1)(hf1 :∀ad,A1=some ad→0<l1.length→ad.block≠g)(h:uO a2 a6 a5 l1=some (r1,r2,r3)) :
  Calls Tryz.prog 55 #[.pointer (some ⟨g,0,none⟩),.slice A1 l1.length c1] w fun e w'=>e= .returned (.int .i64 r1)∧IsS93 w0 w' g a2 r2 r3∧Below w0.heap.size w0 w'∧KeepBut w w' g none:=by
 have a8:=am hr1
 have aE:=am hc1
 clear hr1 hc1
 have HI0:=am hI
 have HK:=am (KeepBut.refl w g none)
 have HL:=am hB.size
 clear hI
 have HW0:=am hB.size
 have HB:=am hB
 clear hB
 have H:=h
 clear h
 unfold uO at H
 replace H:=oA H;obtain⟨⟨a1,aB,aA⟩,A3,H⟩:=H
 try dsimp only at H
 replace H:=iN H;obtain⟨aD,H⟩:=H
 replace H:=iN H;obtain⟨aC,H⟩:=H
 simp only[Option.some.injEq,Prod.mk.injEq]at H
 obtain⟨rfl,rfl,rfl⟩:=H
 go_enter Tryz.func55,Tryz.ntmps55
 go_wp2_with (((with_reducible refine gW ?_);refine gF 33 (some 9) rfl ?_;refine gS Tryz.func33 (JEi _ _ _ _ _ _ _ _ w0 _ kI kH A3.out) ?_;rintro w6 ⟨hi,hb,hk⟩;replace HK:=kT hk;replace HB:=am hb;replace HI0:=am hi;(try clear hb);(try clear hk);(try clear hi);have a4:0≤(a1:Int):=oD (by assumption);have a3:a1<(l1.length:Int):=oD (by assumption);obtain⟨a9,a7,a0⟩:=Kd.JD a8.out a1 a4 a3;cases a7;replace a0:=a8h HK.out a0 (by(rw[tK];exact hf1 _ rfl oM));replace a4:=eq_true a4;replace a3:=eq_true a3))
 go_ret
 exact⟨rfl,kI,kH,kB⟩
def zC(k:Nat)(a3:List Int)(a9:Int)(a8:Int):Option ((List (S31))×Int×Int):=(vJ k a3 a9 a8 8).bind fun a1=>((kV a3 a1.2.1 a1.2.2 (a1.1.length:Int)).bind fun a0=>((kV a3 a0.2.1 a0.2.2 12).bind fun a2=>(if a2.1=0 then((uO a3 a2.2.1 a2.2.2 (([0,1,2,9]:List Int))).bind fun a7=>(if 0≤a0.1 then(if a0.1<(a1.1.length:Int)then(some ((a1.1.set (a0.1:Int).toNat (⟨(kA a1.1 a0.1).f0,a7.1,(kA a1.1 a0.1).f2,(kA a1.1 a0.1).f3,(kA a1.1 a0.1).f4,(kA a1.1 a0.1).f5⟩:S31)),a7.2.1,a7.2.2))else(none))else(none)))else(if a2.1=1 then((kV a3 a2.2.1 a2.2.2 (wrap64 ((a1.1.length:Int)+2))).bind fun a6=>(if 0≤a0.1 then(if a0.1<(a1.1.length:Int)then(some ((a1.1.set (a0.1:Int).toNat (⟨(kA a1.1 a0.1).f0,(kA a1.1 a0.1).f1,(kA a1.1 a0.1).f2,wrap64 (a6.1-1),(kA a1.1 a0.1).f4,(kA a1.1 a0.1).f5⟩:S31)),a6.2.1,a6.2.2))else(none))else(none)))else(if a2.1=2 then((uO a3 a2.2.1 a2.2.2 (([(-1),0,1,8]:List Int))).bind fun a5=>(if 0≤a0.1 then(if a0.1<(a1.1.length:Int)then(some ((a1.1.set (a0.1:Int).toNat (⟨(kA a1.1 a0.1).f0,(kA a1.1 a0.1).f1,a5.1,(kA a1.1 a0.1).f3,(kA a1.1 a0.1).f4,(kA a1.1 a0.1).f5⟩:S31)),a5.2.1,a5.2.2))else(none))else(none)))else(if a2.1=3 then((kV a3 a2.2.1 a2.2.2 23).bind fun a4=>(if 0≤a0.1 then(if a0.1<(a1.1.length:Int)then(some ((a1.1.set (a0.1:Int).toNat (⟨wrap64 (a4.1-1),(kA a1.1 a0.1).f1,(kA a1.1 a0.1).f2,(kA a1.1 a0.1).f3,(kA a1.1 a0.1).f4,(kA a1.1 a0.1).f5⟩:S31)),a4.2.1,a4.2.2))else(none))else(none)))else(if a2.1=4 then(if 0≤(wrap64 (a0.1+1))then(if(wrap64 (a0.1+1))≤(a1.1.length:Int)then(some ((a1.1.take ((wrap64 (a0.1+1)):Int).toNat),a2.2.1,a2.2.2))else(none))else(none))else(if a2.1=5 then(if a0.1>0 then(if 0≤a0.1 then(if a0.1<(a1.1.length:Int)then(if a1.1.length<2932031007402 then(some ((a1.1++[(⟨2,(kA a1.1 a0.1).f1,0,a0.1,0,0⟩:S31)]),a2.2.1,a2.2.2))else(none))else(none))else(none))else(some (a1.1,a2.2.1,a2.2.2)))else(some (a1.1,a2.2.1,a2.2.2))))))))))
theorem c6c{P:Prop}(h:P:=by
 simp only[Option.some.injEq,Prod.mk.injEq]at H
 obtain⟨rfl,rfl,rfl⟩:=H
 go_wp2
 go_ret
 exact⟨_,rfl,sR<|a2.out,kI,kH,kB⟩):P:=h
theorem XKi{k g:Nat}{aQ:List Int}{b7 b6:Int}{r1:List (S31)}{r2 r3:Int}(w0 w:World)(hI:IsS93 w0 w g aQ b7 b6)(hB:Below w0.heap.size w0 w)(h:zC k aQ b7 b6=some (r1,r2,r3)) :
  Calls Tryz.prog 31 #[.pointer (some ⟨g,0,none⟩)] w fun e w' =>∃cL:Value,e= .returned (cL)∧Kd.R k31 33 w' w.heap.size (fun _=>True) cL r1∧IsS93 w0 w' g aQ r2 r3∧Below w0.heap.size w0 w'∧KeepBut w w' g none:=by
 have hu31:=Tryz.underlying33
 have HI0:=am hI
 have HK:=am (KeepBut.refl w g none)
 have HL:=am hB.size
 clear hI
 have HW0:=am hB.size
 have HB:=am hB
 clear hB
 have H:=h
 clear h
 unfold zC at H
 replace H:=oA H;obtain⟨⟨a1,eZ,eY⟩,A2,H⟩:=H
 try dsimp only at H
 replace H:=oA H;obtain⟨⟨a0,eX,eW⟩,A3,H⟩:=H
 try dsimp only at H
 replace H:=oA H;obtain⟨⟨eV,eU,eT⟩,A4,H⟩:=H
 try dsimp only at H
 replace H:=am H
 go_enter Tryz.func31,Tryz.ntmps31
 go_upto_if 13 with(((with_reducible refine gW ?_);first|(refine gF 54 (some 6) rfl ?_;refine gT Tryz.func54 (YGi w0 _ kI kH A2.out) ?_;rintro eK w10 ⟨cM,hi,hb,hk⟩;have a2:=am (Kd.JF cM (sE (w:=w) (g:=g) (row:=none) (by exact kB)));replace HK:=kT hk;replace HB:=am hb;replace HI0:=am hi;(try clear hb);(try clear hk);(try clear hi);(try clear cM);obtain⟨d1,a7,rfl⟩:=Kd.JB a2.out)|(refine gF 33 (some 10) rfl ?_;refine gS Tryz.func33 (JEi _ _ _ _ _ _ _ _ w0 _ kI kH A3.out) ?_;rintro w12 ⟨hi,hb,hk⟩;replace a2:=tI a2 hk;replace HK:=kT hk;replace HB:=am hb;replace HI0:=am hi;(try clear hb);(try clear hk);(try clear hi))|(refine gF 33 (some 12) rfl ?_;refine gS Tryz.func33 (JEi _ _ _ _ _ _ _ _ w0 _ kI kH A4.out) ?_;rintro w13 ⟨hi,hb,hk⟩;replace a2:=tI a2 hk;replace HK:=kT hk;replace HB:=am hb;replace HI0:=am hi;(try clear hb);(try clear hk);(try clear hi))))
 obtain⟨H⟩:=H
 replace H:=iE H;rcases H with⟨cY,cX,H⟩|⟨cY,cX,H⟩
 ·generalize b4:([0,1,2,9]:List Int)=eG at H
  have cH:=am b4.symm;clear b4
  replace H:=oA H;obtain⟨⟨aK,eS,eR⟩,A6,H⟩:=H
  try dsimp only at H
  replace H:=iN H;obtain⟨fD,H⟩:=H
  replace H:=iN H;obtain⟨fC,H⟩:=H
  generalize b3:a1.set (a0:Int).toNat (⟨(kA a1 a0).f0,aK,(kA a1 a0).f2,(kA a1 a0).f3,(kA a1 a0).f4,(kA a1 a0).f5⟩:S31)=cT at H
  have cG:=am b3.symm;clear b3
  simp only[Option.some.injEq,Prod.mk.injEq]at H
  obtain⟨rfl,rfl,rfl⟩:=H
  go_wp2_with (((with_reducible refine gW ?_);first|((with_reducible refine pU (N:=18) rfl ?_);refine Kd.YC (Kd.int .i64) _ 3 ?hg (N:=18) ?hd (xs:=([0,1,2,9]:List Int)) (inner:=[.int .i64 0,.int .i64 1,.int .i64 2,.int .i64 9]) (ok:=fun _=>True) (okp:=fun _=>True) ?hr ?hp (fun _ hk=>hk) trivial (Below.refl _ _) (Nat.le_refl _) (by simp) ?_;(case hd=>rfl);(case hg=>rfl);(case hr=>(go_simp;done));(case hp=>exact(Reps.one (show Kd.M (Kd.int .i64) _ _ _ 0 [.int .i64 0]from rfl) (Reps.one (show Kd.M (Kd.int .i64) _ _ _ 1 [.int .i64 1]from rfl) (Reps.one (show Kd.M (Kd.int .i64) _ _ _ 2 [.int .i64 2]from rfl) (Reps.one (show Kd.M (Kd.int .i64) _ _ _ 9 [.int .i64 9]from rfl) (Reps.none _ _))))));intro eJ w14 aT hb hg_ hnew_;clear hg_ hnew_;(rw[← cH.out]at aT);have aE:=am (Kd.JK (by exact sR<|a2.out) hb);have aD:=am (Kd.JF aT (sE (w:=w) (g:=g) (row:=none) (by exact kB)));have aC:=am (IsS93.below (by exact kI) hb);have aB:=kT (qD hb g none);have aN:=hX hb (by exact kH);clear a2;clear HI0;clear HK;clear HB;have a2:=aE;have a9:=aD;have HI0:=aC;have HK:=aB;have HB:=aN;clear aE aD aC aB aN;clear hb aT;obtain⟨fF,fB,rfl⟩:=Kd.JB a9.out)|(refine gF 55 (some 19) rfl ?_;refine gS Tryz.func55 (KQi w0 _ kI kH (sC (Kd.JA a9.out).2.2) ((Kd.JA a9.out).2.1) (b3i (pA HI0.out a9.out (by decide))) A6.out) ?_;rintro w17 ⟨hi,hb,hk⟩;replace a2:=tI a2 hk;replace a9:=tI a9 hk;replace HK:=kT hk;replace HB:=am hb;replace HI0:=am hi;(try clear hb);(try clear hk);(try clear hi);have p9:0≤(a0:Int):=oD (by assumption);have q9:(a0:Int)<((a1.length:Int):Int):=oD (by assumption);obtain⟨a6,fG,dS,cN,gl9,cl9,HG9⟩:=Kd.JZ a2.out oM;(cases dS);have dT:=am cN;have GG9:=am HG9;clear cN gl9 HG9;obtain⟨ce9,hcl9,hM9,hcc9,hfr9⟩:=Kd.YR a2.out z31 (a0:Int) p9 q9;obtain rfl:=a0a hM9;have e1:w17.cell? ⟨a6,(a0:Int).toNat*6,none⟩=some (.int .i64 ((kA a1 a0).f0)):=hcc9 0 _ rfl;have e0:w17.cell? ⟨a6,(a0:Int).toNat*6+1,none⟩=some (.int .i64 ((kA a1 a0).f1)):=hcc9 1 _ rfl;have d_:w17.cell? ⟨a6,(a0:Int).toNat*6+2,none⟩=some (.int .i64 ((kA a1 a0).f2)):=hcc9 2 _ rfl;have dZ:w17.cell? ⟨a6,(a0:Int).toNat*6+3,none⟩=some (.int .i64 ((kA a1 a0).f3)):=hcc9 3 _ rfl;have dY:w17.cell? ⟨a6,(a0:Int).toNat*6+4,none⟩=some (.int .i64 ((kA a1 a0).f4)):=hcc9 4 _ rfl;have dX:w17.cell? ⟨a6,(a0:Int).toNat*6+5,none⟩=some (.int .i64 ((kA a1 a0).f5)):=hcc9 5 _ rfl;have hf9_0:w17.frozen? ⟨a6,(a0:Int).toNat*6,none⟩=false:=hfr9 0;have hf9_1:w17.frozen? ⟨a6,(a0:Int).toNat*6+1,none⟩=false:=hfr9 1;have hf9_2:w17.frozen? ⟨a6,(a0:Int).toNat*6+2,none⟩=false:=hfr9 2;have hf9_3:w17.frozen? ⟨a6,(a0:Int).toNat*6+3,none⟩=false:=hfr9 3;have hf9_4:w17.frozen? ⟨a6,(a0:Int).toNat*6+4,none⟩=false:=hfr9 4;have hf9_5:w17.frozen? ⟨a6,(a0:Int).toNat*6+5,none⟩=false:=hfr9 5;clear hcl9 hcc9 hfr9 hM9;replace p9:=eq_true p9;replace q9:=eq_true q9;have HX18:=am (show Kd.R k31 33 w17 w.heap.size (fun _=>True) (.slice (some ⟨a6,0,none⟩) a1.length a7) a1 from(by exact sR<|a2.out));obtain⟨ce18,hcl18,hM18,hcc18,hfr18⟩:=Kd.YR HX18.out z31 (a0:Int) (oD (by assumption)) (by have h_:(a0:Int)<((a1.length:Int):Int):=oD (by assumption);exact h_);obtain rfl:=a0a hM18;have aX:=Kd.XO HX18.out (a0:Int) (oD (by assumption)) (by have h_:(a0:Int)<((a1.length:Int):Int):=oD (by assumption);exact h_) (seg:=[.int .i64 aK]) (j:=1) hcl18 hcc18 (show 2≤6 from by decide) (x':=(⟨(kA a1 a0).f0,aK,(kA a1 a0).f2,(kA a1 a0).f3,(kA a1 a0).f4,(kA a1 a0).f5⟩:S31)) (vE _ _ _ (⟨(kA a1 a0).f0,aK,(kA a1 a0).f2,(kA a1 a0).f3,(kA a1 a0).f4,(kA a1 a0).f5⟩:S31)) (fun _ hk=>hk);have bJ:=hcc18 1 _ rfl;(try simp only[show(k31).sz=6 from rfl,Nat.mul_one,Nat.add_zero]at bJ);have hf18_1:=hfr18 1;(try simp only[show(k31).sz=6 from rfl,Nat.mul_one,Nat.add_zero]at hf18_1);clear hcl18 hcc18 hfr18 hM18)|((with_reducible refine pY (t:=3) (p:=21) rfl ?_);refine pH (t:=3) (p:=21) (v:=?vo_w19) (w1:=(w17.setCell ⟨a6,(a0:Int).toNat*6+1,none⟩ (.int .i64 aK))) ?hg ?ho ?hn ?hr ?_;(case ho=>rfl);(case hg=>rfl);(case hn=>rfl);(case hr=>(go_simp;done));intro w19 hw;have hg:w17.grownBy w19 (some a6):=(by rw[hw];exact aX.2);have hp_:Kd.R k31 33 w19 w.heap.size (fun _=>True) (.slice (some ⟨a6,0,none⟩) a1.length a7) cT:=(by rw[hw,cG.out];exact aX.1);clear aX;replace HI0:=am (IsS93.grown (by exact kI) hg (pA HI0.out a2.out (by decide)));replace a9:=am (Kd.JI (v:=(.slice (some ⟨a6,0,none⟩) a1.length a7)) (by exact sR<|a9.out) (Kd.JG a2.out) (by decide) hg);replace HB:=am ((by rw[hw];exact kR (HB.out) (Nat.le_trans HL.out dT.out):Below w0.heap.size w0 w19));replace HK:=am (KeepBut.trans (by exact kB) (uD hg g) (Kd.YW a2.out));replace a2:=am hp_;clear hg hw hp_)))
  go_ret
  exact⟨_,rfl,sR<|a2.out,kI,kH,kB⟩
 replace H:=iE H;rcases H with⟨b_,bZ,H⟩|⟨b_,bZ,H⟩
 ·replace H:=oA H;obtain⟨⟨aJ,eQ,eP⟩,dW,H⟩:=H
  try dsimp only at H
  replace H:=iN H;obtain⟨eD,H⟩:=H
  replace H:=iN H;obtain⟨eC,H⟩:=H
  generalize b2:a1.set (a0:Int).toNat (⟨(kA a1 a0).f0,(kA a1 a0).f1,(kA a1 a0).f2,wrap64 (aJ-1),(kA a1 a0).f4,(kA a1 a0).f5⟩:S31)=cS at H
  have cF:=am b2.symm;clear b2
  simp only[Option.some.injEq,Prod.mk.injEq]at H
  obtain⟨rfl,rfl,rfl⟩:=H
  go_wp2_with (((with_reducible refine gW ?_);first|(refine gF 33 (some 30) rfl ?_;refine gS Tryz.func33 (JEi _ _ _ _ _ _ _ _ w0 _ kI kH dW.out) ?_;rintro w29 ⟨hi,hb,hk⟩;replace a2:=tI a2 hk;replace HK:=kT hk;replace HB:=am hb;replace HI0:=am hi;(try clear hb);(try clear hk);(try clear hi);have bE:0≤(a0:Int):=oD (by assumption);have bB:(a0:Int)<((a1.length:Int):Int):=oD (by assumption);obtain⟨a5,fA,cW,bM,gl24,cl24,HG24⟩:=Kd.JZ a2.out oM;(cases cW);have d0:=am bM;have GG24:=am HG24;clear bM gl24 HG24;obtain⟨ce24,hcl24,hM24,hcc24,hfr24⟩:=Kd.YR a2.out z31 (a0:Int) bE bB;obtain rfl:=a0a hM24;have dP:w29.cell? ⟨a5,(a0:Int).toNat*6,none⟩=some (.int .i64 ((kA a1 a0).f0)):=hcc24 0 _ rfl;have dO:w29.cell? ⟨a5,(a0:Int).toNat*6+1,none⟩=some (.int .i64 ((kA a1 a0).f1)):=hcc24 1 _ rfl;have dN:w29.cell? ⟨a5,(a0:Int).toNat*6+2,none⟩=some (.int .i64 ((kA a1 a0).f2)):=hcc24 2 _ rfl;have dM:w29.cell? ⟨a5,(a0:Int).toNat*6+3,none⟩=some (.int .i64 ((kA a1 a0).f3)):=hcc24 3 _ rfl;have dL:w29.cell? ⟨a5,(a0:Int).toNat*6+4,none⟩=some (.int .i64 ((kA a1 a0).f4)):=hcc24 4 _ rfl;have dK:w29.cell? ⟨a5,(a0:Int).toNat*6+5,none⟩=some (.int .i64 ((kA a1 a0).f5)):=hcc24 5 _ rfl;have hf24_0:w29.frozen? ⟨a5,(a0:Int).toNat*6,none⟩=false:=hfr24 0;have hf24_1:w29.frozen? ⟨a5,(a0:Int).toNat*6+1,none⟩=false:=hfr24 1;have hf24_2:w29.frozen? ⟨a5,(a0:Int).toNat*6+2,none⟩=false:=hfr24 2;have hf24_3:w29.frozen? ⟨a5,(a0:Int).toNat*6+3,none⟩=false:=hfr24 3;have hf24_4:w29.frozen? ⟨a5,(a0:Int).toNat*6+4,none⟩=false:=hfr24 4;have hf24_5:w29.frozen? ⟨a5,(a0:Int).toNat*6+5,none⟩=false:=hfr24 5;clear hcl24 hcc24 hfr24 hM24;replace bE:=eq_true bE;replace bB:=eq_true bB;have HX30:=am (show Kd.R k31 33 w29 w.heap.size (fun _=>True) (.slice (some ⟨a5,0,none⟩) a1.length a7) a1 from(by exact sR<|a2.out));obtain⟨ce30,hcl30,hM30,hcc30,hfr30⟩:=Kd.YR HX30.out z31 (a0:Int) (oD (by assumption)) (by have h_:(a0:Int)<((a1.length:Int):Int):=oD (by assumption);exact h_);obtain rfl:=a0a hM30;have aW:=Kd.XO HX30.out (a0:Int) (oD (by assumption)) (by have h_:(a0:Int)<((a1.length:Int):Int):=oD (by assumption);exact h_) (seg:=[.int .i64 (wrap64 (aJ-1))]) (j:=3) hcl30 hcc30 (show 4≤6 from by decide) (x':=(⟨(kA a1 a0).f0,(kA a1 a0).f1,(kA a1 a0).f2,wrap64 (aJ-1),(kA a1 a0).f4,(kA a1 a0).f5⟩:S31)) (vE _ _ _ (⟨(kA a1 a0).f0,(kA a1 a0).f1,(kA a1 a0).f2,wrap64 (aJ-1),(kA a1 a0).f4,(kA a1 a0).f5⟩:S31)) (fun _ hk=>hk);have bI:=hcc30 3 _ rfl;(try simp only[show(k31).sz=6 from rfl,Nat.mul_one,Nat.add_zero]at bI);have hf30_3:=hfr30 3;(try simp only[show(k31).sz=6 from rfl,Nat.mul_one,Nat.add_zero]at hf30_3);clear hcl30 hcc30 hfr30 hM30)|((with_reducible refine pY (t:=3) (p:=33) rfl ?_);refine pH (t:=3) (p:=33) (v:=?vo_w31) (w1:=(w29.setCell ⟨a5,(a0:Int).toNat*6+3,none⟩ (.int .i64 (wrap64 (aJ-1))))) ?hg ?ho ?hn ?hr ?_;(case ho=>rfl);(case hg=>rfl);(case hn=>rfl);(case hr=>(go_simp;done));intro w31 hw;have hg:w29.grownBy w31 (some a5):=(by rw[hw];exact aW.2);have hp_:Kd.R k31 33 w31 w.heap.size (fun _=>True) (.slice (some ⟨a5,0,none⟩) a1.length a7) cS:=(by rw[hw,cF.out];exact aW.1);clear aW;replace HI0:=am (IsS93.grown (by exact kI) hg (pA HI0.out a2.out (by decide)));replace HB:=am ((by rw[hw];exact kR (HB.out) (Nat.le_trans HL.out d0.out):Below w0.heap.size w0 w31));replace HK:=am (KeepBut.trans (by exact kB) (uD hg g) (Kd.YW a2.out));replace a2:=am hp_;clear hg hw hp_)))
  go_ret
  exact⟨_,rfl,sR<|a2.out,kI,kH,kB⟩
 replace H:=iE H;rcases H with⟨bV,bU,H⟩|⟨bV,bU,H⟩
 ·generalize b1:([(-1),0,1,8]:List Int)=eF at H
  have cE:=am b1.symm;clear b1
  replace H:=oA H;obtain⟨⟨aI,eO,eN⟩,dV,H⟩:=H
  try dsimp only at H
  replace H:=iN H;obtain⟨eB,H⟩:=H
  replace H:=iN H;obtain⟨eA,H⟩:=H
  generalize b0:a1.set (a0:Int).toNat (⟨(kA a1 a0).f0,(kA a1 a0).f1,aI,(kA a1 a0).f3,(kA a1 a0).f4,(kA a1 a0).f5⟩:S31)=cR at H
  have cC:=am b0.symm;clear b0
  simp only[Option.some.injEq,Prod.mk.injEq]at H
  obtain⟨rfl,rfl,rfl⟩:=H
  go_wp2_with (((with_reducible refine gW ?_);first|((with_reducible refine pU (N:=39) rfl ?_);refine Kd.YC (Kd.int .i64) _ 3 ?hg (N:=39) ?hd (xs:=([(-1),0,1,8]:List Int)) (inner:=[.int .i64 (-1),.int .i64 0,.int .i64 1,.int .i64 8]) (ok:=fun _=>True) (okp:=fun _=>True) ?hr ?hp (fun _ hk=>hk) trivial (Below.refl _ _) (Nat.le_refl _) (by simp) ?_;(case hd=>rfl);(case hg=>rfl);(case hr=>(go_simp;done));(case hp=>exact(Reps.one (show Kd.M (Kd.int .i64) _ _ _ (-1) [.int .i64 (-1)]from rfl) (Reps.one (show Kd.M (Kd.int .i64) _ _ _ 0 [.int .i64 0]from rfl) (Reps.one (show Kd.M (Kd.int .i64) _ _ _ 1 [.int .i64 1]from rfl) (Reps.one (show Kd.M (Kd.int .i64) _ _ _ 8 [.int .i64 8]from rfl) (Reps.none _ _))))));intro eI w41 aR hb hg_ hnew_;clear hg_ hnew_;(rw[← cE.out]at aR);have aE:=am (Kd.JK (by exact sR<|a2.out) hb);have aD:=am (Kd.JF aR (sE (w:=w) (g:=g) (row:=none) (by exact kB)));have aC:=am (IsS93.below (by exact kI) hb);have aB:=kT (qD hb g none);have aN:=hX hb (by exact kH);clear a2;clear HI0;clear HK;clear HB;have a2:=aE;have a8:=aD;have HI0:=aC;have HK:=aB;have HB:=aN;clear aE aD aC aB aN;clear hb aR;obtain⟨fE,f8,rfl⟩:=Kd.JB a8.out)|(refine gF 55 (some 40) rfl ?_;refine gS Tryz.func55 (KQi w0 _ kI kH (sC (Kd.JA a8.out).2.2) ((Kd.JA a8.out).2.1) (b3i (pA HI0.out a8.out (by decide))) dV.out) ?_;rintro w44 ⟨hi,hb,hk⟩;replace a2:=tI a2 hk;replace a8:=tI a8 hk;replace HK:=kT hk;replace HB:=am hb;replace HI0:=am hi;(try clear hb);(try clear hk);(try clear hi);have bD:0≤(a0:Int):=oD (by assumption);have bA:(a0:Int)<((a1.length:Int):Int):=oD (by assumption);obtain⟨a3,f9,cV,bL,gl36,cl36,HG36⟩:=Kd.JZ a2.out oM;(cases cV);have c_:=am bL;have GG36:=am HG36;clear bL gl36 HG36;obtain⟨ce36,hcl36,hM36,hcc36,hfr36⟩:=Kd.YR a2.out z31 (a0:Int) bD bA;obtain rfl:=a0a hM36;have dJ:w44.cell? ⟨a3,(a0:Int).toNat*6,none⟩=some (.int .i64 ((kA a1 a0).f0)):=hcc36 0 _ rfl;have dI:w44.cell? ⟨a3,(a0:Int).toNat*6+1,none⟩=some (.int .i64 ((kA a1 a0).f1)):=hcc36 1 _ rfl;have dH:w44.cell? ⟨a3,(a0:Int).toNat*6+2,none⟩=some (.int .i64 ((kA a1 a0).f2)):=hcc36 2 _ rfl;have dG:w44.cell? ⟨a3,(a0:Int).toNat*6+3,none⟩=some (.int .i64 ((kA a1 a0).f3)):=hcc36 3 _ rfl;have dF:w44.cell? ⟨a3,(a0:Int).toNat*6+4,none⟩=some (.int .i64 ((kA a1 a0).f4)):=hcc36 4 _ rfl;have dE:w44.cell? ⟨a3,(a0:Int).toNat*6+5,none⟩=some (.int .i64 ((kA a1 a0).f5)):=hcc36 5 _ rfl;have hf36_0:w44.frozen? ⟨a3,(a0:Int).toNat*6,none⟩=false:=hfr36 0;have hf36_1:w44.frozen? ⟨a3,(a0:Int).toNat*6+1,none⟩=false:=hfr36 1;have hf36_2:w44.frozen? ⟨a3,(a0:Int).toNat*6+2,none⟩=false:=hfr36 2;have hf36_3:w44.frozen? ⟨a3,(a0:Int).toNat*6+3,none⟩=false:=hfr36 3;have hf36_4:w44.frozen? ⟨a3,(a0:Int).toNat*6+4,none⟩=false:=hfr36 4;have hf36_5:w44.frozen? ⟨a3,(a0:Int).toNat*6+5,none⟩=false:=hfr36 5;clear hcl36 hcc36 hfr36 hM36;replace bD:=eq_true bD;replace bA:=eq_true bA;have HX45:=am (show Kd.R k31 33 w44 w.heap.size (fun _=>True) (.slice (some ⟨a3,0,none⟩) a1.length a7) a1 from(by exact sR<|a2.out));obtain⟨ce45,hcl45,hM45,hcc45,hfr45⟩:=Kd.YR HX45.out z31 (a0:Int) (oD (by assumption)) (by have h_:(a0:Int)<((a1.length:Int):Int):=oD (by assumption);exact h_);obtain rfl:=a0a hM45;have aV:=Kd.XO HX45.out (a0:Int) (oD (by assumption)) (by have h_:(a0:Int)<((a1.length:Int):Int):=oD (by assumption);exact h_) (seg:=[.int .i64 aI]) (j:=2) hcl45 hcc45 (show 3≤6 from by decide) (x':=(⟨(kA a1 a0).f0,(kA a1 a0).f1,aI,(kA a1 a0).f3,(kA a1 a0).f4,(kA a1 a0).f5⟩:S31)) (vE _ _ _ (⟨(kA a1 a0).f0,(kA a1 a0).f1,aI,(kA a1 a0).f3,(kA a1 a0).f4,(kA a1 a0).f5⟩:S31)) (fun _ hk=>hk);have bH:=hcc45 2 _ rfl;(try simp only[show(k31).sz=6 from rfl,Nat.mul_one,Nat.add_zero]at bH);have hf45_2:=hfr45 2;(try simp only[show(k31).sz=6 from rfl,Nat.mul_one,Nat.add_zero]at hf45_2);clear hcl45 hcc45 hfr45 hM45)|((with_reducible refine pY (t:=3) (p:=42) rfl ?_);refine pH (t:=3) (p:=42) (v:=?vo_w46) (w1:=(w44.setCell ⟨a3,(a0:Int).toNat*6+2,none⟩ (.int .i64 aI))) ?hg ?ho ?hn ?hr ?_;(case ho=>rfl);(case hg=>rfl);(case hn=>rfl);(case hr=>(go_simp;done));intro w46 hw;have hg:w44.grownBy w46 (some a3):=(by rw[hw];exact aV.2);have hp_:Kd.R k31 33 w46 w.heap.size (fun _=>True) (.slice (some ⟨a3,0,none⟩) a1.length a7) cR:=(by rw[hw,cC.out];exact aV.1);clear aV;replace HI0:=am (IsS93.grown (by exact kI) hg (pA HI0.out a2.out (by decide)));replace a8:=am (Kd.JI (v:=(.slice (some ⟨a3,0,none⟩) a1.length a7)) (by exact sR<|a8.out) (Kd.JG a2.out) (by decide) hg);replace HB:=am ((by rw[hw];exact kR (HB.out) (Nat.le_trans HL.out c_.out):Below w0.heap.size w0 w46));replace HK:=am (KeepBut.trans (by exact kB) (uD hg g) (Kd.YW a2.out));replace a2:=am hp_;clear hg hw hp_)))
  go_ret
  exact⟨_,rfl,sR<|a2.out,kI,kH,kB⟩
 replace H:=iE H;rcases H with⟨bT,bS,H⟩|⟨bT,bS,H⟩
 ·replace H:=oA H;obtain⟨⟨aH,eM,eL⟩,dU,H⟩:=H
  try dsimp only at H
  replace H:=iN H;obtain⟨e9,H⟩:=H
  replace H:=iN H;obtain⟨e8,H⟩:=H
  generalize a_:a1.set (a0:Int).toNat (⟨wrap64 (aH-1),(kA a1 a0).f1,(kA a1 a0).f2,(kA a1 a0).f3,(kA a1 a0).f4,(kA a1 a0).f5⟩:S31)=cQ at H
  have cB:=am a_.symm;clear a_
  simp only[Option.some.injEq,Prod.mk.injEq]at H
  obtain⟨rfl,rfl,rfl⟩:=H
  go_wp2_with (((with_reducible refine gW ?_);first|(refine gF 33 (some 48) rfl ?_;refine gS Tryz.func33 (JEi _ _ _ _ _ _ _ _ w0 _ kI kH dU.out) ?_;rintro w56 ⟨hi,hb,hk⟩;replace a2:=tI a2 hk;replace HK:=kT hk;replace HB:=am hb;replace HI0:=am hi;(try clear hb);(try clear hk);(try clear hi);have bC:0≤(a0:Int):=oD (by assumption);have b9:(a0:Int)<((a1.length:Int):Int):=oD (by assumption);obtain⟨a4,f7,cU,bK,gl51,cl51,HG51⟩:=Kd.JZ a2.out oM;(cases cU);have cZ:=am bK;have GG51:=am HG51;clear bK gl51 HG51;obtain⟨ce51,hcl51,hM51,hcc51,hfr51⟩:=Kd.YR a2.out z31 (a0:Int) bC b9;obtain rfl:=a0a hM51;have dD:w56.cell? ⟨a4,(a0:Int).toNat*6,none⟩=some (.int .i64 ((kA a1 a0).f0)):=hcc51 0 _ rfl;have dC:w56.cell? ⟨a4,(a0:Int).toNat*6+1,none⟩=some (.int .i64 ((kA a1 a0).f1)):=hcc51 1 _ rfl;have dB:w56.cell? ⟨a4,(a0:Int).toNat*6+2,none⟩=some (.int .i64 ((kA a1 a0).f2)):=hcc51 2 _ rfl;have dA:w56.cell? ⟨a4,(a0:Int).toNat*6+3,none⟩=some (.int .i64 ((kA a1 a0).f3)):=hcc51 3 _ rfl;have d9:w56.cell? ⟨a4,(a0:Int).toNat*6+4,none⟩=some (.int .i64 ((kA a1 a0).f4)):=hcc51 4 _ rfl;have d8:w56.cell? ⟨a4,(a0:Int).toNat*6+5,none⟩=some (.int .i64 ((kA a1 a0).f5)):=hcc51 5 _ rfl;have hf51_0:w56.frozen? ⟨a4,(a0:Int).toNat*6,none⟩=false:=hfr51 0;have hf51_1:w56.frozen? ⟨a4,(a0:Int).toNat*6+1,none⟩=false:=hfr51 1;have hf51_2:w56.frozen? ⟨a4,(a0:Int).toNat*6+2,none⟩=false:=hfr51 2;have hf51_3:w56.frozen? ⟨a4,(a0:Int).toNat*6+3,none⟩=false:=hfr51 3;have hf51_4:w56.frozen? ⟨a4,(a0:Int).toNat*6+4,none⟩=false:=hfr51 4;have hf51_5:w56.frozen? ⟨a4,(a0:Int).toNat*6+5,none⟩=false:=hfr51 5;clear hcl51 hcc51 hfr51 hM51;replace bC:=eq_true bC;replace b9:=eq_true b9;have HX57:=am (show Kd.R k31 33 w56 w.heap.size (fun _=>True) (.slice (some ⟨a4,0,none⟩) a1.length a7) a1 from(by exact sR<|a2.out));obtain⟨ce57,hcl57,hM57,hcc57,hfr57⟩:=Kd.YR HX57.out z31 (a0:Int) (oD (by assumption)) (by have h_:(a0:Int)<((a1.length:Int):Int):=oD (by assumption);exact h_);obtain rfl:=a0a hM57;have aU:=Kd.XO HX57.out (a0:Int) (oD (by assumption)) (by have h_:(a0:Int)<((a1.length:Int):Int):=oD (by assumption);exact h_) (seg:=[.int .i64 (wrap64 (aH-1))]) (j:=0) hcl57 hcc57 (show 1≤6 from by decide) (x':=(⟨wrap64 (aH-1),(kA a1 a0).f1,(kA a1 a0).f2,(kA a1 a0).f3,(kA a1 a0).f4,(kA a1 a0).f5⟩:S31)) (vE _ _ _ (⟨wrap64 (aH-1),(kA a1 a0).f1,(kA a1 a0).f2,(kA a1 a0).f3,(kA a1 a0).f4,(kA a1 a0).f5⟩:S31)) (fun _ hk=>hk);have bG:=hcc57 0 _ rfl;(try simp only[show(k31).sz=6 from rfl,Nat.mul_one,Nat.add_zero]at bG);have hf57_0:=hfr57 0;(try simp only[show(k31).sz=6 from rfl,Nat.mul_one,Nat.add_zero]at hf57_0);clear hcl57 hcc57 hfr57 hM57)|((with_reducible refine pY (t:=3) (p:=51) rfl ?_);refine pH (t:=3) (p:=51) (v:=?vo_w58) (w1:=(w56.setCell ⟨a4,(a0:Int).toNat*6,none⟩ (.int .i64 (wrap64 (aH-1))))) ?hg ?ho ?hn ?hr ?_;(case ho=>rfl);(case hg=>rfl);(case hn=>rfl);(case hr=>(go_simp;done));intro w58 hw;have hg:w56.grownBy w58 (some a4):=(by rw[hw];exact aU.2);have hp_:Kd.R k31 33 w58 w.heap.size (fun _=>True) (.slice (some ⟨a4,0,none⟩) a1.length a7) cQ:=(by rw[hw,cB.out];exact aU.1);clear aU;replace HI0:=am (IsS93.grown (by exact kI) hg (pA HI0.out a2.out (by decide)));replace HB:=am ((by rw[hw];exact kR (HB.out) (Nat.le_trans HL.out cZ.out):Below w0.heap.size w0 w58));replace HK:=am (KeepBut.trans (by exact kB) (uD hg g) (Kd.YW a2.out));replace a2:=am hp_;clear hg hw hp_)))
  go_ret
  exact⟨_,rfl,sR<|a2.out,kI,kH,kB⟩
 replace H:=iE H;rcases H with⟨bR,bQ,H⟩|⟨bR,bQ,H⟩
 ·generalize aG:wrap64 (a0+1)=aA at H
  (try rw[aG]at A2)
  (try rw[aG]at A3)
  (try rw[aG]at A4)
  have dQ:(IntKind.i64.wrap (a0+1))=aA:=(vB _).trans aG
  replace H:=iTD H;obtain⟨e7,e6,H⟩:=H
  replace H:=iTD H;obtain⟨e5,e4,H⟩:=H
  generalize aZ:a1.take ((aA):Int).toNat=cP at H
  have b5:=am aZ.symm;clear aZ
  simp only[Option.some.injEq,Prod.mk.injEq]at H
  obtain⟨rfl,rfl,rfl⟩:=H
  have b8:((aA):Int)≤((a1.length:Int):Int):=oD (by assumption)
  obtain⟨i067,hi067,_,hsz67,_⟩:=info_parts yT
  have hcut67:=b6f (P:=Tryz.prog) 24 33 .i64 Tryz.underlying24 hi067 d1 a1.length a7 (aA) (oD (by assumption)) b8 (Kd.JA a2.out).2.1
  have hr67:=Kd.R_take (m:=((aA):Int).toNat) a2.out oM
  have bF:cP.length=((aA):Int).toNat:=(by rw[b5.out,List.length_take];omega)
  rw[← b5.out]at hr67
  rw[← bF]at hr67 hcut67
  clear bF hi067 hsz67 a2
  have cK:=am hr67
  clear hr67
  replace b8:=eq_true b8
  go_wp2
  go_ret
  exact⟨_,rfl,sR<|cK.out,kI,kH,kB⟩
 replace H:=iE H;rcases H with⟨bP,bO,H⟩|⟨bP,bO,H⟩
 rotate_left
 ·exact c6c
 by_cases aM:a0>0
 ·rw[if_pos aM]at H
  have bN:decide (0<a0)=true:=decide_eq_true aM
  clear aM
  replace H:=iN H;obtain⟨e3,H⟩:=H
  replace H:=iN H;obtain⟨e2,H⟩:=H
  replace H:=iP H;obtain⟨cO,H⟩:=H
  have cI:=am cO
  clear cO
  generalize aY:a1++[(⟨2,(kA a1 a0).f1,0,a0,0,0⟩:S31)]=eE at H
  have c1:=am aY.symm;clear aY
  simp only[Option.some.injEq,Prod.mk.injEq]at H
  obtain⟨rfl,rfl,rfl⟩:=H
  obtain⟨f6,e_,c0,rfl,d7,d6,d5,d4,d3,d2⟩:=ix (pE (Kd.JA a2.out).2.2 a0)
  go_wp2_with (((with_reducible refine kZ (b:= .append) (xs:= #[.tmp 62,.tmp 70]) rfl ?_);at_builtin;refine Kd.JQ k31 w.heap.size rfl (.tmp 62) (.tmp 70) 24 33 (.agg #[(.int .i64 0),(.int .i64 0),(.int .i64 0),(.int .i64 0),(.int .i64 0),(.int .i64 0)]) 48 rfl Tryz.underlying24 yT rfl (by decide) oM (.slice (some c0) a1.length a7) a1 (⟨2,(kA a1 a0).f1,0,a0,0,0⟩:S31) [.int .i64 2,.int .i64 ((kA a1 a0).f1),.int .i64 0,.int .i64 a0,.int .i64 0,.int .i64 0] (fun _=>True) (fun _=>False) rfl rfl ?aP (fun _ hk=>hk.elim) ?aF ?aO (Below.refl _ _) ?aS ?aL ?_;(case aP=>exact vE _ _ _ (⟨2,(kA a1 a0).f1,0,a0,0,0⟩:S31));(case aF=>exact(fun _ _=>trivial));(case aO=>exact(by exact sR<|a2.out));(case aS=>exact(sE (w:=w) (g:=g) (row:=none) (by exact kB)));(case aL=>have:=cI.out;omega);intro eH w77 ho hb hg hat;rw[← c1.out]at ho;have aE:=am (IsS93.grown (by exact kI) hg (pA HI0.out a2.out (by decide)));have aD:=am (a6h (by exact kH) HL.out hb);have aC:=am (KeepBut.trans (by exact kB) (uD hg g) (Kd.YW a2.out));have aB:=am (ho);clear HI0;clear HB;clear HK;clear a2;have HI0:=aE;have HB:=aD;have HK:=aC;have cJ:=aB;clear aE aD aC aB;clear ho hb hg hat))
  go_ret
  exact⟨_,rfl,sR<|cJ.out,kI,kH,kB⟩
 rw[if_neg aM]at H
 have bN:decide (0<a0)=false:=decide_eq_false aM
 clear aM
 exact c6c
mutual
def uS:Nat→List (S31)→Int→List Int→Int→Int→Option ((List (S31))×Int×Int)
 | 0,_,_,_,_,_=>none
 | k+1,x3,x4,a2,a1,a0=>if x4<3 then(if(x3.length:Int)>1 then(if 0≤(wrap64 ((x3.length:Int)-1))then(if(wrap64 ((x3.length:Int)-1))<(x3.length:Int)then((rH ((kA x3 (wrap64 ((x3.length:Int)-1))).f0)).bind fun a4=>(sI k x3 x4 a4 a2 a1 a0))else(none))else(none))else(sI k x3 x4 false a2 a1 a0))else(sI k x3 x4 false a2 a1 a0)
def sI:Nat→List (S31)→Int→Bool→List Int→Int→Int→Option ((List (S31))×Int×Int)
 | 0,_,_,_,_,_,_=>none
 | k+1,x3,x4,a5,a2,a1,a0=>if a5=true then((rT a2 a1 a0 3).bind fun a3=>(if a3.1=true then(some (x3,a3.2.1,a3.2.2))else(if 0≤(wrap64 ((x3.length:Int)-1))then(if(wrap64 ((x3.length:Int)-1))≤(x3.length:Int)then(uS k (x3.take ((wrap64 ((x3.length:Int)-1)):Int).toNat) (wrap64 (x4+1)) a2 a3.2.1 a3.2.2)else(none))else(none))))else(some (x3,a1,a0))
end
def yG(k:Nat)(a1:List Int)(a3:Int)(a2:Int):Option ((List (S31))×Int×Int):=(zC k a1 a3 a2).bind fun a0=>(uS k a0.1 0 a1 a0.2.1 a0.2.2)
theorem c6b{P:Prop}(h:P:=by
 go_wp2
 go_meet
 case rel=>exact⟨_,false,rfl,H,⟨by have:=aB.out;omega⟩,⟨sR<|a1.out⟩,⟨kI⟩,⟨kB⟩,⟨kH⟩⟩):P:=h
theorem YAi{k g:Nat}{a4:List Int}{aE aD:Int}{r1:List (S31)}{r2 r3:Int}(w0 w:World)(hI:IsS93 w0 w g a4 aE aD)(hB:Below w0.heap.size w0 w)(h:yG k a4 aE aD=some (r1,r2,r3)) :
  Calls Tryz.prog 12 #[.pointer (some ⟨g,0,none⟩)] w fun e w' =>∃aL:Value,e= .returned (aL)∧Kd.R k31 33 w' w.heap.size (fun _=>True) aL r1∧IsS93 w0 w' g a4 r2 r3∧Below w0.heap.size w0 w'∧KeepBut w w' g none:=by
 have HI0:=am hI
 have HK:=am (KeepBut.refl w g none)
 have HL:=am hB.size
 clear hI
 have HW0:=am hB.size
 have HB:=am hB
 clear hB
 have H:=h
 clear h
 unfold yG at H
 replace H:=oA H;obtain⟨⟨aV,aU,aT⟩,A2,H⟩:=H
 try dsimp only at H
 replace H:=am H
 go_enter Tryz.func12,Tryz.ntmps12
 go_wp2_with (((with_reducible refine gW ?_);refine gF 31 (some 6) rfl ?_;refine gT Tryz.func31 (XKi w0 _ kI kH A2.out) ?_;rintro bH w3 ⟨aN,hi,hb,hk⟩;have aK:=am (Kd.JF aN (sE (w:=w) (g:=g) (row:=none) (by exact kB)));replace HK:=kT hk;replace HB:=am hb;replace HI0:=am hi;(try clear hb);(try clear hk);(try clear hi);(try clear aN)))
 go_loopg [3,4] k (fun kq v3 v4 w' =>∃(a0:List (S31)) (a6:Int) (a3:Int) (a2:Int),v4= .int .i64 a6∧Aside0 (uS kq a0 a6 a4 a3 a2=some (r1,r2,r3))∧Aside0 (kq≤k)∧Aside0 (Kd.R k31 33 w' w.heap.size (fun _=>True) v3 a0)∧Aside0 (IsS93 w0 w' g a4 a3 a2)∧Aside0 (KeepBut w w' g none)∧Aside0 (Below w0.heap.size w0 w'))
 case atStart=>exact⟨aV,0,aU,aT,rfl,H,⟨Nat.le_refl _⟩,⟨sR<|aK.out⟩,⟨kI⟩,⟨kB⟩,⟨kH⟩⟩
 clear H
 obtain⟨a0,a6,a3,a2,rfl,HA,aB,a1,HI0,HK,HB⟩:=hrel
 cases gk with
 | zero=>cases HA.out
 | succ k1 =>
  obtain⟨H⟩:=HA
  simp only[uS]at H
  have aH:=am H;clear H
  go_upto_region 3 with(fail)
  go_cut [23] (fun b7 wc =>∃(kq:Nat) (a7:Bool),b7= .bool a7∧Aside0 (sI kq a0 a6 a7 a4 a3 a2=some (r1,r2,r3))∧Aside0 (kq≤k1)∧Aside0 (Kd.R k31 33 wc w.heap.size (fun _=>True) u3 a0)∧Aside0 (IsS93 w0 wc g a4 a3 a2)∧Aside0 (KeepBut w wc g none)∧Aside0 (Below w0.heap.size w0 wc))
  case first =>
   have H:=aH.out
   clear aH
   replace H:=iD H;rcases H with⟨a_,H⟩|⟨a_,H⟩
   rotate_left
   ·replace H:=am H
    exact c6b
   by_cases c6:(a0.length:Int)>1
   ·rw[if_pos c6]at H
    have aZ:decide (1<(a0.length:Int))=true:=decide_eq_true c6
    have aY:decide (1<a0.length)=true:=decide_eq_true oM
    clear c6
    generalize aW:wrap64 ((a0.length:Int)-1)=aM at H
    have bB:(IntKind.i64.wrap ((a0.length:Int)-1))=aM:=(vB _).trans aW
    replace H:=iN H;obtain⟨bO,H⟩:=H
    replace H:=iN H;obtain⟨bN,H⟩:=H
    replace H:=oA H;obtain⟨aS,bA,H⟩:=H
    replace H:=am H
    obtain⟨bQ,bM,rfl⟩:=Kd.JB a1.out
    obtain⟨bK,bJ,bG,rfl,b6,b5,b4,b3,b2,b1⟩:=ix (pE (Kd.JA a1.out).2.2 (aM))
    go_wp2_with ((go_at_call 21;refine cD (JOi bA.out) fun nd=>?_))
    go_meet
    case rel=>exact⟨_,aS,rfl,H,⟨by have:=aB.out;omega⟩,⟨sR<|a1.out⟩,⟨kI⟩,⟨kB⟩,⟨kH⟩⟩
   rw[if_neg c6]at H
   have aZ:decide (1<(a0.length:Int))=false:=decide_eq_false c6
   have aY:decide (1<a0.length)=false:=decide_eq_false oM
   clear c6
   replace H:=am H
   obtain⟨bP,bL,rfl⟩:=Kd.JB a1.out
   exact c6b
  clear aH
  obtain⟨kq,a7,rfl,HA,aO,a1,HI0,HK,HB⟩:=hcut
  cases kq with
  | zero=>cases HA.out
  | succ b8 =>
   obtain⟨H⟩:=HA
   simp only[sI]at H
   replace H:=iB H;rcases H with⟨rfl,H⟩|⟨rfl,H⟩
   rotate_left
   ·simp only[Option.some.injEq,Prod.mk.injEq]at H
    obtain⟨rfl,rfl,rfl⟩:=H
    go_wp2
    go_ret
    exact⟨_,rfl,sR<|a1.out,kI,kH,kB⟩
   replace H:=oA H;obtain⟨⟨bI,aR,aQ⟩,aI,H⟩:=H
   try dsimp only at H
   replace H:=iB H;rcases H with⟨rfl,H⟩|⟨rfl,H⟩
   ·simp only[Option.some.injEq,Prod.mk.injEq]at H
    obtain⟨rfl,rfl,rfl⟩:=H
    go_wp2_with (((with_reducible refine gW ?_);refine gF 32 (some 27) rfl ?_;refine gS Tryz.func32 (JTi w0 _ kI kH aI.out) ?_;rintro w16 ⟨hi,hb,hk⟩;replace a1:=tI a1 hk;replace HK:=kT hk;replace HB:=am hb;replace HI0:=am hi;(try clear hb);(try clear hk);(try clear hi)))
    go_ret
    exact⟨_,rfl,sR<|a1.out,kI,kH,kB⟩
   generalize a9:wrap64 ((a0.length:Int)-1)=a5 at H
   (try rw[a9]at aI)
   have b9:(IntKind.i64.wrap ((a0.length:Int)-1))=a5:=(vB _).trans a9
   replace H:=iTD H;obtain⟨bF,bE,H⟩:=H
   replace H:=iTD H;obtain⟨bD,bC,H⟩:=H
   generalize a8:a0.take ((a5):Int).toNat=aC at H
   have aA:=am a8.symm;clear a8
   replace H:=am H
   go_wp2_with (((with_reducible refine gW ?_);refine gF 32 (some 27) rfl ?_;refine gS Tryz.func32 (JTi w0 _ kI kH aI.out) ?_;rintro w20 ⟨hi,hb,hk⟩;replace a1:=tI a1 hk;replace HK:=kT hk;replace HB:=am hb;replace HI0:=am hi;(try clear hb);(try clear hk);(try clear hi);obtain⟨b0,aX,rfl⟩:=Kd.JB a1.out;have aF:((a5):Int)≤((a0.length:Int):Int):=oD (by assumption);obtain⟨i022,hi022,_,hsz22,_⟩:=info_parts yT;have hcut22:=b6f (P:=Tryz.prog) 24 33 .i64 Tryz.underlying24 hi022 b0 a0.length aX (a5) (oD (by assumption)) aF (Kd.JA a1.out).2.1;have hr22:=Kd.R_take (m:=((a5):Int).toNat) a1.out oM;have aG:aC.length=((a5):Int).toNat:=(by rw[aA.out,List.length_take];omega);rw[← aA.out]at hr22;rw[← aG]at hr22 hcut22;clear aG hi022 hsz22 a1;have aJ:=am hr22;clear hr22;replace aF:=eq_true aF))
   go_roundg b8
   case measure=>have:=aB.out;have:=aO.out;omega
   case rel=>exact⟨aC,(wrap64 (a6+1)),aR,aQ,rfl,H,⟨by have:=aB.out;have:=aO.out;omega⟩,⟨sR<|aJ.out⟩,⟨kI⟩,⟨kB⟩,⟨kH⟩⟩
mutual
def wW:Nat→List Int→Int→List Int→Int→Int→Option (List Int×Int×Int)
 | 0,_,_,_,_,_=>none
 | k+1,x3,x4,a2,a1,a0=>vO k x3 x4 0 a2 a1 a0
def vO:Nat→List Int→Int→Int→List Int→Int→Int→Option (List Int×Int×Int)
 | 0,_,_,_,_,_,_=>none
 | k+1,x3,x4,x5,a2,a1,a0=>if x5<x4 then((kV a2 a1 a0 4).bind fun a3=>(if x3.length<17592186044416 then(vO k (x3++[a3.1]) x4 (wrap64 (x5+1)) a2 a3.2.1 a3.2.2)else(none)))else(some (x3,a1,a0))
end
def zB(k:Nat)(a1:List Int)(a4:Int)(a3:Int):Option (List Int×Int×Int):=(some (([]:List Int):List Int)).bind fun a2=>((rT a1 a4 a3 20).bind fun a0=>(if a0.1=true then(wW k a2 7 a1 a0.2.1 a0.2.2)else(wW k a2 8 a1 a0.2.1 a0.2.2)))
theorem XBi{k g:Nat}{a1:List Int}{aM aK:Int}{r1:List Int}{r2 r3:Int}(w0 w:World)(hI:IsS93 w0 w g a1 aM aK)(hB:Below w0.heap.size w0 w)(h:zB k a1 aM aK=some (r1,r2,r3)) :
  Calls Tryz.prog 13 #[.pointer (some ⟨g,0,none⟩)] w fun e w' =>∃aU:Value,e= .returned (aU)∧Kd.R (Kd.int .i64) 3 w' w.heap.size (fun _=>True) aU r1∧IsS93 w0 w' g a1 r2 r3∧Below w0.heap.size w0 w'∧KeepBut w w' g none:=by
 have HI0:=am hI
 have HK:=am (KeepBut.refl w g none)
 have HL:=am hB.size
 clear hI
 have HW0:=am hB.size
 have HB:=am hB
 clear hB
 have H:=h
 clear h
 unfold zB at H
 replace H:=oS H;obtain⟨aD,aJ,H⟩:=H
 replace H:=oA H;obtain⟨⟨b3,aH,aG⟩,A2,H⟩:=H
 try dsimp only at H
 have aN:=am H;clear H
 go_enter Tryz.func13,Tryz.ntmps13
 go_upto_if 8 with(((with_reducible refine gW ?_);first|((with_reducible refine pU (N:=6) rfl ?_);refine Kd.YC (Kd.int .i64) _ 3 ?hg (N:=6) ?hd (xs:=([]:List Int)) (inner:=[]) (ok:=fun _=>True) (okp:=fun _=>True) ?hr ?hp (fun _ hk=>hk) trivial (Below.refl _ _) (Nat.le_refl _) (by simp) ?_;(case hd=>rfl);(case hg=>rfl);(case hr=>first|(go_simp;done)|(go_simp;rfl));(case hp=>exact(Reps.none _ _));intro aZ w4 aC hb hg_ hnew_;clear hg_ hnew_;(first|rw[← aJ.out]at aC|(simp only[Int.reduceToNat]at aC;rw[← aJ.out]at aC));have aB:=am (Kd.JF aC (sE (w:=w) (g:=g) (row:=none) (by exact kB)));have aA:=am (IsS93.below (by exact kI) hb);have a9:=kT (qD hb g none);have a8:=hX hb (by exact kH);clear HI0;clear HK;clear HB;have a4:=aB;have HI0:=aA;have HK:=a9;have HB:=a8;clear aB aA a9 a8;clear hb aC)|(refine gF 32 (some 8) rfl ?_;refine gS Tryz.func32 (JTi w0 _ kI kH A2.out) ?_;rintro w6 ⟨hi,hb,hk⟩;replace a4:=tI a4 hk;replace HK:=kT hk;replace HB:=am hb;replace HI0:=am hi;(try clear hi))));clear hb hk
 (try simp only[Act.put,List.setIfInBounds_toArray,List.set_cons_zero,List.set_cons_succ])
 go_cut [4] (fun v4 wc =>∃(kq:Nat) (a7:Int),v4= .int .i64 a7∧Aside0 (wW kq aD a7 a1 aH aG=some (r1,r2,r3))∧Aside0 (kq≤k)∧Aside0 (Kd.R (Kd.int .i64) 3 wc w.heap.size (fun _=>True) aZ aD)∧Aside0 (IsS93 w0 wc g a1 aH aG)∧Aside0 (KeepBut w wc g none)∧Aside0 (Below w0.heap.size w0 wc))
 case first =>
  have H:=aN.out
  clear aN
  replace H:=iB H;rcases H with⟨rfl,H⟩|⟨rfl,H⟩
  ·replace H:=am H
   go_wp2
   go_meet
   case rel=>exact⟨_,7,rfl,H,⟨oM⟩,⟨sR<|a4.out⟩,⟨kI⟩,⟨kB⟩,⟨kH⟩⟩
  replace H:=am H
  go_wp2
  go_meet
  case rel=>exact⟨_,8,rfl,H,⟨oM⟩,⟨sR<|a4.out⟩,⟨kI⟩,⟨kB⟩,⟨kH⟩⟩
 clear aN
 obtain⟨kq,a7,rfl,HA,aX,a0,HI0,HK,HB⟩:=hcut
 cases kq with
 | zero=>cases HA.out
 | succ aV =>
  obtain⟨H⟩:=HA
  simp only[wW]at H
  replace H:=am H
  go_wp2
  go_loopg [3,5] aV (fun kq v3 v5 w' =>∃(a5:List Int) (a6:Int) (a3:Int) (a2:Int),v5= .int .i64 a6∧Aside0 (vO kq a5 a7 a6 a1 a3 a2=some (r1,r2,r3))∧Aside0 (kq≤aV)∧Aside0 (Kd.R (Kd.int .i64) 3 w' w.heap.size (fun _=>True) v3 a5)∧Aside0 (IsS93 w0 w' g a1 a3 a2)∧Aside0 (KeepBut w w' g none)∧Aside0 (Below w0.heap.size w0 w'))
  case atStart=>exact⟨aD,0,aH,aG,rfl,H,⟨Nat.le_refl _⟩,⟨sR<|a0.out⟩,⟨kI⟩,⟨kB⟩,⟨kH⟩⟩
  clear H
  obtain⟨a5,a6,a3,a2,rfl,HA,aW,a0,HI0,HK,HB⟩:=hrel
  cases gk with
  | zero=>cases HA.out
  | succ k2 =>
   obtain⟨H⟩:=HA
   simp only[vO]at H
   replace H:=iD H;rcases H with⟨b1,H⟩|⟨b1,H⟩
   ·replace H:=oA H;obtain⟨⟨aE,b0,a_⟩,A9,H⟩:=H
    try dsimp only at H
    replace H:=iP H;obtain⟨c10,H⟩:=H
    have aR:=am c10
    clear c10
    generalize aI:a5++[aE]=aY at H
    have aQ:=am aI.symm;clear aI
    replace H:=am H
    go_wp2_with (((with_reducible refine gW ?_);first|(refine gF 33 (some 16) rfl ?_;refine gS Tryz.func33 (JEi _ _ _ _ _ _ _ _ w0 _ kI kH A9.out) ?_;rintro w11 ⟨hi,hb,hk⟩;replace a0:=tI a0 hk;replace HK:=kT hk;replace HB:=am hb;replace HI0:=am hi;(try clear hb);(try clear hk);(try clear hi))|((with_reducible refine kZ (b:= .append) (xs:= #[.tmp 14,.tmp 17]) rfl ?_);at_builtin;refine Kd.JQ (Kd.int .i64) w.heap.size rfl (.tmp 14) (.tmp 17) 25 3 (.int .i64 0) 8 rfl Tryz.underlying25 a4h rfl (by decide) oM u3 a5 aE [.int .i64 aE] (fun _=>True) (fun _=>False) rfl rfl ?aP (fun _ hk=>hk.elim) ?aF ?aO (Below.refl _ _) ?aS ?aL ?_;(case aP=>exact rfl);(case aF=>exact(fun _ _=>trivial));(case aO=>exact(by exact sR<|a0.out));(case aS=>exact(sE (w:=w) (g:=g) (row:=none) (by exact kB)));(case aL=>have:=aR.out;omega);intro b2 w12 ho hb hg hat;rw[← aQ.out]at ho;have aB:=am (IsS93.grown (by exact kI) hg (pA HI0.out a0.out (by decide)));have aA:=am (a6h (by exact kH) HL.out hb);have a9:=am (KeepBut.trans (by exact kB) (uD hg g) (Kd.YW a0.out));have a8:=am (ho);clear HI0;clear HB;clear HK;clear a0;have HI0:=aB;have HB:=aA;have HK:=a9;have aT:=a8;clear aB aA a9 a8;clear ho hb hg hat)))
    go_roundg k2
    case measure=>have:=aX.out;have:=aW.out;omega
    case rel=>exact⟨aY,(wrap64 (a6+1)),b0,a_,rfl,H,⟨by have:=aX.out;have:=aW.out;omega⟩,⟨sR<|aT.out⟩,⟨kI⟩,⟨kB⟩,⟨kH⟩⟩
   simp only[Option.some.injEq,Prod.mk.injEq]at H
   obtain⟨rfl,rfl,rfl⟩:=H
   go_wp2
   go_ret
   exact⟨_,rfl,sR<|a0.out,kI,kH,kB⟩
def wQ(k:Nat)(l0:List Int):Option ((List (S31))×List Int):=(zD k l0).bind fun a0=>((yG k a0.1 a0.2.1 a0.2.2).bind fun a1=>((zB k a0.1 a1.2.1 a1.2.2).bind fun a2=>(some (a1.1,a2.1))))
theorem XSi{k:Nat}{A0:Option Addr}{c0:Nat}{l0:List Int}{r1:List (S31)}{r2:List Int}{w:World}(hr0:Kd.C (Kd.int .u8) w A0 l0.length l0)(hc0:l0.length≤c0)(h:wQ k l0=some (r1,r2)) :
  Calls Tryz.prog 5 #[.slice A0 l0.length c0] w fun e w' =>∃a6 a5:Value,e= .returned (.tuple #[a6,a5])∧Kd.R k31 33 w' w.heap.size (fun _=>True) a6 r1∧Kd.R (Kd.int .i64) 3 w' w.heap.size (fun _=>True) a5 r2∧Below w.heap.size w w':=by
 have aA:=am hr0
 have aB:=am hc0
 clear hr0 hc0
 have HB:=am (Below.refl w.heap.size w)
 have H:=h
 clear h
 unfold wQ at H
 replace H:=oA H;obtain⟨⟨a9,aJ,aI⟩,A2,H⟩:=H
 try dsimp only at H
 replace H:=oA H;obtain⟨⟨aH,a8,a7⟩,A3,H⟩:=H
 try dsimp only at H
 replace H:=oA H;obtain⟨⟨aG,aF,aE⟩,A4,H⟩:=H
 try dsimp only at H
 simp only[Option.some.injEq,Prod.mk.injEq]at H
 obtain⟨rfl,rfl⟩:=H
 go_enter Tryz.func5,Tryz.ntmps5
 go_wp2_with (((with_reducible refine gW ?_);first|(refine gF 11 (some 7) rfl ?_;refine gT Tryz.func11 (XEi w _ (sW HB.out) aA.out aB.out A2.out) ?_;rintro a3 w5 ⟨hi,hb,hb2⟩;replace HB:=am hb;have a0:=am hi;(try clear hb);(try clear hb2);(try clear hi))|(refine gC 12 (some 9) Tryz.func12 #[.pointer (some ⟨a3,0,none⟩)] ?_;(with_reducible refine(YAi w _ ?side1 ?side2 A3.out).mono ?_);(case side1=>repeat(first|(with_reducible first|exact a0.out|apply IsS93.alloc|apply IsS93.drewN|apply IsS93.drew|apply a2w|apply a2v)|exact a0.out));(case side2=>repeat(first|(with_reducible first|exact HB.out|apply kO|apply kM|apply kQ|refine kR ?_ (a2x a0.out))|exact HB.out));rintro e w6 ⟨aD,rfl,a2,hi,hb,hk⟩;refine⟨_,rfl,?_⟩;have a1:=am (Kd.JF a2 (kG (by repeat(first|(with_reducible first|exact HB.out|apply kO|apply kM|apply kQ|refine kR ?_ (a2x a0.out))|exact HB.out))));replace HB:=am hb;replace a0:=am hi;(try clear hb);(try clear hk);(try clear hi);(try clear a2))|(refine gC 13 (some 12) Tryz.func13 #[.pointer (some ⟨a3,0,none⟩)] ?_;(with_reducible refine(XBi w _ ?side1 ?side2 A4.out).mono ?_);(case side1=>repeat(first|(with_reducible first|exact a0.out|apply IsS93.alloc|apply IsS93.drewN|apply IsS93.drew|apply a2w|apply a2v)|exact a0.out));(case side2=>repeat(first|(with_reducible first|exact HB.out|apply kO|apply kM|apply kQ|refine kR ?_ (a2x a0.out))|exact HB.out));rintro e w7 ⟨aC,rfl,a2,hi,hb,hk⟩;refine⟨_,rfl,?_⟩;replace a1:=am (Kd.JC (Kd.YF (IsS93.apart (show IsS93 w _ a3 a9 a8 a7 from by repeat(first|(with_reducible first|exact a0.out|apply IsS93.alloc|apply IsS93.drewN|apply IsS93.drew|apply a2w|apply a2v)|exact a0.out)) (by exact sR<|a1.out) (by decide)) hk (fun _ h=>h.2)) (fun _ h=>h.1));have a4:=am (Kd.JF a2 (kG (by repeat(first|(with_reducible first|exact HB.out|apply kO|apply kM|apply kQ|refine kR ?_ (a2x a0.out))|exact HB.out))));replace HB:=am hb;replace a0:=am hi;(try clear hb);(try clear hk);(try clear hi);(try clear a2))))
 go_ret2
 exact⟨_,_,rfl,sR<|a1.out,sR<|a4.out,by repeat(first|(with_reducible first|exact HB.out|apply kO|apply kM|apply kQ|refine kR ?_ (a2x a0.out))|exact HB.out)⟩
def qE(a0:Int)(a1:Int)(a2:Int):Option (Bool):=if a0≥a1 then(some (decide (a0≤a2)))else(some false)
theorem c5p{P:Prop}(h:P:=by
 clear c4
 obtain rfl:=oI H
 go_enter Tryz.func28,Tryz.ntmps28
 go_wp2
 go_ret
 exact⟨rfl,dR⟩):P:=h
theorem JBi{a0 a1 a2:Int}{r:Bool}{w:World}(h:qE a0 a1 a2=some r) :
  Calls Tryz.prog 28 #[.int .i64 a0,.int .i64 a1,.int .i64 a2] w fun e w'=>e= .returned (.bool r)∧Drawn0 w w':=by
 have H:=h
 clear h
 unfold qE at H
 by_cases c4:a0≥a1
 ·rw[if_pos c4]at H
  have a3:decide (a1≤a0)=true:=decide_eq_true c4
  exact c5p
 rw[if_neg c4]at H
 have a3:decide (a1≤a0)=false:=decide_eq_false c4
 exact c5p
def tP(a0:Int):Option (Bool):=(qE a0 1 8).bind fun a1=>(some a1)
theorem JFi{a0:Int}{r:Bool}{w:World}(h:tP a0=some r) :
  Calls Tryz.prog 27 #[.int .i64 a0] w fun e w'=>e= .returned (.bool r)∧Drawn0 w w':=by
 have H:=h
 clear h
 unfold tP at H
 replace H:=oA H;obtain⟨a1,A2,H⟩:=H
 obtain rfl:=oI H
 go_enter Tryz.func27,Tryz.ntmps27
 go_wp2_with (((with_reducible refine gW ?_);refine gD (some 4) Tryz.func28 rfl (JBi A2.out) fun nd=>?_))
 go_ret
 exact⟨rfl,dR⟩
def rP(a0:Int)(a1:Int):Option (Bool):=(tP a0).bind fun a3=>(if a3=true then(if 0≤(IntKind.u64.wrap (a0))then((qE a1 0 (wrap64 ((shl .i64 1 (IntKind.u64.wrap (a0)))-1))).bind fun a2=>(some a2))else(none))else(some false))
theorem JDi(a0 a1:Int)(r:Bool)(w:World)(h:rP a0 a1=some r) :
  Calls Tryz.prog 9 #[.int .i64 a0,.int .i64 a1] w fun e w'=>e= .returned (.bool r)∧Drawn0 w w':=by
 have H:=h
 clear h
 unfold rP at H
 replace H:=oA H;obtain⟨aD,A3,H⟩:=H
 replace H:=iB H;rcases H with⟨rfl,H⟩|⟨rfl,H⟩
 ·generalize a7:IntKind.u64.wrap (a0)=a2 at H
  (try rw[a7]at A3)
  replace H:=iTD H;obtain⟨aF,aE,H⟩:=H
  generalize a4:shl .i64 1 (a2)=a3 at H
  (try rw[a4]at A3)
  have a6:(IntKind.i64.wrap (1*2 ^ min (a2).toNat 64))=a3:=a4
  have a5:(a2)≤64→(IntKind.i64.wrap (1*2 ^ (a2).toNat))=a3:=zY a4
  have aB:(IntKind.i64.wrap (2 ^ min (a2).toNat 64))=a3:=by have h_:=a6;rw[Int.one_mul]at h_;exact h_
  have aA:(a2)≤64→(IntKind.i64.wrap (2 ^ (a2).toNat))=a3:=fun hle_=>by have h_:=a5 hle_;rw[Int.one_mul]at h_;exact h_
  have a8:(wrap64 (1*2 ^ min (a2).toNat 64))=a3:=(vB _).symm.trans a6
  have a9:(a2)≤64→(wrap64 (1*2 ^ (a2).toNat))=a3:=fun h_=>(vB _).symm.trans (a5 h_)
  replace H:=oA H;obtain⟨aC,A8,H⟩:=H
  obtain rfl:=oI H
  go_enter Tryz.func9,Tryz.ntmps9
  go_wp2_with (first|(go_at_call 28;refine cD (JBi A8.out) fun nd=>?_)|((with_reducible refine gW ?_);refine gD (some 6) Tryz.func27 rfl (JFi A3.out) fun nd=>?_))
  go_ret
  exact⟨rfl,dR⟩
 obtain rfl:=oI H
 go_enter Tryz.func9,Tryz.ntmps9
 go_wp2_with (((with_reducible refine gW ?_);refine gD (some 6) Tryz.func27 rfl (JFi A3.out) fun nd=>?_))
 go_ret
 exact⟨rfl,dR⟩
def rK(a0:Int)(a5:Int)(a4:Int)(a3:Int)(a2:Int)(a1:Int):Option (Bool):=if a0=19 then(some true)else(some (a0==20))
theorem c5g{P:Prop}(h:P:=by
 obtain rfl:=oI H
 go_enter Tryz.func36,Tryz.ntmps36
 go_wp2_with (((with_reducible refine gW ?_);refine bX 1 33 #[.int .i64 a5,.int .i64 a4,.int .i64 a3,.int .i64 a2,.int .i64 a1,.int .i64 a0] ?_;intro a9 hg aD hbox hb;have a6:=am hbox;have aA:=gw hg;have aB:=gw hg;replace HB:=hB HB hb;clear hb hbox hg;have aC:=cf6 a6.out))
 go_ret
 exact⟨rfl,bW⟩):P:=h
theorem JJi{a5 a4 a3 a2 a1 a0:Int}(r:Bool)(w:World)(h:rK a5 a4 a3 a2 a1 a0=some r) :
  Calls Tryz.prog 36 #[.agg #[.int .i64 a5,.int .i64 a4,.int .i64 a3,.int .i64 a2,.int .i64 a1,.int .i64 a0]] w fun e w'=>e= .returned (.bool r)∧Below w.heap.size w w':=by
 have hu31:=Tryz.underlying33
 have HB:=am (Below.refl w.heap.size w)
 have H:=h
 clear h
 unfold rK at H
 replace H:=iE H;rcases H with⟨a8,a7,H⟩|⟨a8,a7,H⟩
 ·exact c5g
 exact c5g
def yA:Nat→Bool→Int→Int→Int→Int→Int→Int→Option (List Int)
 | 0,_,_,_,_,_,_,_=>none
 | k+1,x3,a2,a6,a5,a0,a1,a3=>if x3=true then(some (([a0]:List Int)))else((qE a2 3 16).bind fun a4=>(if a4=true then(some (([a0,a1]:List Int)))else(if a2=18 then(some (([a0,a1,a3]:List Int)))else(some (([]:List Int))))))
def wI(k:Nat)(a0:Int)(a5:Int)(a4:Int)(a3:Int)(a2:Int)(a1:Int):Option (List Int):=if a0=2 then(yA k true a0 a5 a4 a3 a2 a1)else(if a0=17 then(yA k true a0 a5 a4 a3 a2 a1)else((rK a0 a5 a4 a3 a2 a1).bind fun a6=>(yA k a6 a0 a5 a4 a3 a2 a1)))
theorem c4z{P:Prop}(h:P:=by
 replace H:=am H
 have bJ:=cf6 a0.out
 go_wp2
 go_meet
 case rel=>exact⟨_,true,rfl,H,⟨oM⟩,⟨sB<|a0.out⟩,⟨bW⟩⟩):P:=h
theorem JIi(k:Nat)(a6 a5 a4 a1 a2 a3:Int)(r:List Int)(w:World)(h:wI k a6 a5 a4 a1 a2 a3=some r) :
  Calls Tryz.prog 40 #[.agg #[.int .i64 a6,.int .i64 a5,.int .i64 a4,.int .i64 a1,.int .i64 a2,.int .i64 a3]] w fun e w' =>∃aU:Value,e= .returned (aU)∧Kd.R (Kd.int .i64) 3 w' w.heap.size (fun _=>True) aU r∧Below w.heap.size w w':=by
 have hu31:=Tryz.underlying33
 have HB:=am (Below.refl w.heap.size w)
 have H:=h
 clear h
 unfold wI at H
 have aG:=am H;clear H
 go_enter Tryz.func40,Tryz.ntmps40
 go_upto_region 1 with(((with_reducible refine pU (N:=1) rfl ?_);refine wG ?hg (N:=1) ?hd (cs:= #[.int .i64 a6,.int .i64 a5,.int .i64 a4,.int .i64 a1,.int .i64 a2,.int .i64 a3]) (t:=33) ?hr ?_;(case hd=>rfl);(case hg=>rfl);(case hr=>(go_simp;done));intro aI hg w3 hbox hb;have aY:=am (zP (by exact sW HB.out) hb);have aX:=am (hbox);have aW:=gw hg;have aV:=gw hg;clear HB;have HB:=aY;have a0:=aX;have b8:=aW;have b9:=aV;clear aY aX aW aV;clear hb hbox hg))
 (try simp only[Act.put,List.setIfInBounds_toArray,List.set_cons_zero,List.set_cons_succ])
 go_cut [3] (fun v3 wc =>∃(kq:Nat) (a7:Bool),v3= .bool a7∧Aside0 (yA kq a7 a6 a5 a4 a1 a2 a3=some r)∧Aside0 (kq≤k)∧Aside0 (wc.heap[aI]? = some (.cells #[.int .i64 a6,.int .i64 a5,.int .i64 a4,.int .i64 a1,.int .i64 a2,.int .i64 a3] 33 (0,0)))∧Aside0 (Below w.heap.size w wc))
 case first =>
  have H:=aG.out
  clear aG
  replace H:=iE H;rcases H with⟨b2,b1,H⟩|⟨b2,b1,H⟩
  ·exact c4z
  replace H:=iE H;rcases H with⟨b0,a_,H⟩|⟨b0,a_,H⟩
  ·exact c4z
  replace H:=oA H;obtain⟨aZ,A8,H⟩:=H
  replace H:=am H
  have b7:=cf6 a0.out
  go_wp2_with ((go_at_call 36;refine(JJi _ _ A8.out).mono ?_;rintro e w10 ⟨rfl,hb⟩;replace a0:=gB a0 hb;replace HB:=hX hb;(try clear hb)))
  go_meet
  case rel=>exact⟨_,aZ,rfl,H,⟨oM⟩,⟨sB<|a0.out⟩,⟨bW⟩⟩
 clear aG
 obtain⟨kq,a7,rfl,HA,bL,a0,HB⟩:=hcut
 cases kq with
 | zero=>cases HA.out
 | succ bK =>
  obtain⟨H⟩:=HA
  simp only[yA]at H
  replace H:=iB H;rcases H with⟨rfl,H⟩|⟨rfl,H⟩
  ·generalize aF:([a1]:List Int)=bD at H
   have aO:=am aF.symm;clear aF
   obtain rfl:=oI H
   have b6:=cf6 a0.out
   go_wp2_with (((with_reducible refine pU (N:=18) rfl ?_);refine Kd.YC (Kd.int .i64) _ 3 ?hg (N:=18) ?hd (xs:=([a1]:List Int)) (inner:=[.int .i64 a1]) (ok:=fun _=>True) (okp:=fun _=>True) ?hr ?hp (fun _ hk=>hk) trivial (Below.refl _ _) (Nat.le_refl _) (by simp) ?_;(case hd=>rfl);(case hg=>rfl);(case hr=>(go_simp;done));(case hp=>exact(Reps.one (show Kd.M (Kd.int .i64) _ _ _ a1 [.int .i64 a1]from rfl) (Reps.none _ _)));intro bH w13 aB hb hg_ hnew_;clear hg_ hnew_;(rw[← aO.out]at aB);have aT:=am (Kd.JF aB (kG (by exact bW)));replace a0:=gB a0 hb;replace HB:=hX hb;clear hb aB))
   go_ret
   exact⟨_,rfl,sR<|aT.out,bW⟩
  replace H:=oA H;obtain⟨bI,aH,H⟩:=H
  replace H:=iB H;rcases H with⟨rfl,H⟩|⟨rfl,H⟩
  ·generalize aE:([a1,a2]:List Int)=bC at H
   have aN:=am aE.symm;clear aE
   obtain rfl:=oI H
   have b5:=cf6 a0.out
   go_wp2_with (((with_reducible refine gW ?_);first|(refine gD (some 22) Tryz.func28 rfl (JBi aH.out) fun nd=>?_)|((with_reducible refine pU (N:=27) rfl ?_);refine Kd.YC (Kd.int .i64) _ 3 ?hg (N:=27) ?hd (xs:=([a1,a2]:List Int)) (inner:=[.int .i64 a1,.int .i64 a2]) (ok:=fun _=>True) (okp:=fun _=>True) ?hr ?hp (fun _ hk=>hk) trivial (Below.refl _ _) (Nat.le_refl _) (by simp) ?_;(case hd=>rfl);(case hg=>rfl);(case hr=>(go_simp;done));(case hp=>exact(Reps.one (show Kd.M (Kd.int .i64) _ _ _ a1 [.int .i64 a1]from rfl) (Reps.one (show Kd.M (Kd.int .i64) _ _ _ a2 [.int .i64 a2]from rfl) (Reps.none _ _))));intro bG w18 aA hb hg_ hnew_;clear hg_ hnew_;(rw[← aN.out]at aA);have aS:=am (Kd.JF aA (kG (by exact bW)));replace a0:=gB a0 hb;replace HB:=hX hb;clear hb aA)))
   go_ret
   exact⟨_,rfl,sR<|aS.out,bW⟩
  replace H:=iE H;rcases H with⟨aK,aJ,H⟩|⟨aK,aJ,H⟩
  ·generalize aD:([a1,a2,a3]:List Int)=bB at H
   have aM:=am aD.symm;clear aD
   obtain rfl:=oI H
   have b4:=cf6 a0.out
   go_wp2_with (((with_reducible refine gW ?_);first|(refine gD (some 22) Tryz.func28 rfl (JBi aH.out) fun nd=>?_)|((with_reducible refine pU (N:=38) rfl ?_);refine Kd.YC (Kd.int .i64) _ 3 ?hg (N:=38) ?hd (xs:=([a1,a2,a3]:List Int)) (inner:=[.int .i64 a1,.int .i64 a2,.int .i64 a3]) (ok:=fun _=>True) (okp:=fun _=>True) ?hr ?hp (fun _ hk=>hk) trivial (Below.refl _ _) (Nat.le_refl _) (by simp) ?_;(case hd=>rfl);(case hg=>rfl);(case hr=>(go_simp;done));(case hp=>exact(Reps.one (show Kd.M (Kd.int .i64) _ _ _ a1 [.int .i64 a1]from rfl) (Reps.one (show Kd.M (Kd.int .i64) _ _ _ a2 [.int .i64 a2]from rfl) (Reps.one (show Kd.M (Kd.int .i64) _ _ _ a3 [.int .i64 a3]from rfl) (Reps.none _ _)))));intro bF w22 a9 hb hg_ hnew_;clear hg_ hnew_;(rw[← aM.out]at a9);have aR:=am (Kd.JF a9 (kG (by exact bW)));replace a0:=gB a0 hb;replace HB:=hX hb;clear hb a9)))
   go_ret
   exact⟨_,rfl,sR<|aR.out,bW⟩
  generalize aC:([]:List Int)=bA at H
  have aL:=am aC.symm;clear aC
  obtain rfl:=oI H
  have b3:=cf6 a0.out
  go_wp2_with (((with_reducible refine gW ?_);first|(refine gD (some 22) Tryz.func28 rfl (JBi aH.out) fun nd=>?_)|(refine lE (Kd.int .i64) 3 39 ?_;intro bE w25 a8 hb;(rw[← aL.out]at a8);have aQ:=am (Kd.JF a8 (kG (by exact bW)));replace a0:=gB a0 hb;replace HB:=hX hb;clear hb a8)))
  go_ret
  exact⟨_,rfl,sR<|aQ.out,bW⟩
theorem d1s(d:Nat)(w:World)(x0 y0 x1 y1 x2 y2 x3 y3 x4 y4 x5 y5:Int) :
  (Op.equalIn (d+2) 33 (.agg #[.int .i64 x0,.int .i64 x1,.int .i64 x2,.int .i64 x3,.int .i64 x4,.int .i64 x5]) (.agg #[.int .i64 y0,.int .i64 y1,.int .i64 y2,.int .i64 y3,.int .i64 y4,.int .i64 y5])).run Tryz.prog w= .ok (x0==y0&&(x1==y1&&(x2==y2&&(x3==y3&&(x4==y4&&(x5==y5)))))) w:=by
 refine d6k Tryz.underlying33 (by kernel_rfl) ?_
 refine a5f (by rfl) (by go_simp;rfl) (by go_simp;rfl) (by go_simp) ?_
 refine a5f (by rfl) (by go_simp;rfl) (by go_simp;rfl) (by go_simp) ?_
 refine a5f (by rfl) (by go_simp;rfl) (by go_simp;rfl) (by go_simp) ?_
 refine a5f (by rfl) (by go_simp;rfl) (by go_simp;rfl) (by go_simp) ?_
 refine a5f (by rfl) (by go_simp;rfl) (by go_simp;rfl) (by go_simp) ?_
 exact c3y (by rfl) (by go_simp;rfl) (by go_simp;rfl) (by go_simp)
end Go.Proofs.YtkpipmojkhikaaaGreat.PAll
