/- Go functions as Lean functions: a call comes to what they say. -/
import Derived.Test.YtkpipmojkhikaaaGreatVValues0
namespace Go.Proofs.YtkpipmojkhikaaaGreat.PAll
open Go.RowKit Go.A_ Go.B_ Go.C_ Go.D_
attribute [local go_sem] rF rC tE tD qK qJ rD rA
set_option linter.unusedVariables false
set_option maxHeartbeats 8000000
set_option maxRecDepth 100000
set_option linter.unusedSimpArgs false
mutual
def tS:Nat→List (S31)→Int→List Int→Int→Int→Int→Int→Int→Int→Int→Option (Bool)
 | 0,_,_,_,_,_,_,_,_,_,_=>none
 | k+1,x0,x1,x6,x7,a2,a0,a1,a5,a4,a3=>if x7<(x6.length:Int)then(if 0≤x7 then((pX (rd x6 x7) 0 (wrap64 (x1-1))).bind fun aE=>(if aE=true then(tS k x0 x1 x6 (wrap64 (x7+1)) a2 a0 a1 a5 a4 a3)else(some false)))else(none))else((pX a0 1 8).bind fun aD=>(if aD=true then(sL k x0 x6 (([]:List Int)) 0 a2 a0 a1 a5 a4 a3)else(some false)))
def sL:Nat→List (S31)→List Int→List Int→Int→Int→Int→Int→Int→Int→Int→Option (Bool)
 | 0,_,_,_,_,_,_,_,_,_,_=>none
 | k+1,x0,x6,x8,x9,a2,a0,a1,a5,a4,a3=>if x9<(x6.length:Int)then(if 0≤x9 then(if 0≤(rd x6 x9)then(if(rd x6 x9)<(x0.length:Int)then(if x8.length<17592186044416 then(sL k x0 x6 (x8++[(kA x0 (rd x6 x9)).f1]) (wrap64 (x9+1)) a2 a0 a1 a5 a4 a3)else(none))else(none))else(none))else(none))else(if a2=0 then((rV k a0 a1).bind fun aC=>(if aC=true then(if a5=0 then(if a4=0 then(some (a3==0))else(some false))else(some false))else(some false)))else(if a2=1 then((pX a1 0 7).bind fun aB=>(if aB=true then(if a5=0 then(if a4=0 then(some (a3==0))else(some false))else(some false))else(some false)))else(if a2=2 then(if 0<(x8.length:Int)then(if(rd x8 0)=a0 then(if a1=0 then(if a4=0 then(some (a3==0))else(some false))else(some false))else(some false))else(none))else((pX a2 3 12).bind fun aA=>(if aA=true then(if 0<(x8.length:Int)then(if(rd x8 0)=a0 then(if 1<(x8.length:Int)then(if(rd x8 1)=a0 then(if a1=0 then(some (a3==0))else(some false))else(some false))else(none))else(some false))else(none))else((pX a2 13 15).bind fun a9=>(if a9=true then(if 0<(x8.length:Int)then(if 1<(x8.length:Int)then(if(rd x8 0)=(rd x8 1)then(if a0=1 then(if a1=0 then(some (a3==0))else(some false))else(some false))else(some false))else(none))else(none))else(if a2=16 then(if 0<(x8.length:Int)then(if 1<(x8.length:Int)then(if(wrap64 ((rd x8 0)+(rd x8 1)))=a0 then(if a1=0 then(some (a3==0))else(some false))else(some false))else(none))else(none))else(if a2=17 then(if a1≥0 then(if 0<(x8.length:Int)then(if a1≤(wrap64 ((rd x8 0)-a0))then(if a4=0 then(some (a3==0))else(some false))else(some false))else(none))else(some false))else(if a2=18 then(if 0<(x8.length:Int)then(if(rd x8 0)=1 then(if 1<(x8.length:Int)then(if(rd x8 1)=a0 then(if 2<(x8.length:Int)then(if(rd x8 2)=a0 then(some (a1==0))else(some false))else(none))else(some false))else(none))else(some false))else(none))else(if a2=19 then(xF k x8 true a2 a0 a1 a5 a4 a3)else(xF k x8 (a2==20) a2 a0 a1 a5 a4 a3))))))))))))
def xF:Nat→List Int→Bool→Int→Int→Int→Int→Int→Int→Option (Bool)
 | 0,_,_,_,_,_,_,_,_=>none
 | k+1,x8,a6,a2,a0,a1,a5,a4,a3=>if a6=true then((pX a1 0 7).bind fun a8=>(if a8=true then((pX a4 1 8).bind fun a7=>(if a7=true then(if 0<(x8.length:Int)then(if(rd x8 0)=1 then(if a0=1 then(some (a3==0))else(some false))else(some false))else(none))else(some false)))else(some false)))else(some false)
end
def yH(k:Nat)(l0:List (S31))(a1:Int):Option (Bool):=if 0≤a1 then(if a1<(l0.length:Int)then((sZ k ((kA l0 a1).f0) ((kA l0 a1).f1) ((kA l0 a1).f2) ((kA l0 a1).f3) ((kA l0 a1).f4) ((kA l0 a1).f5)).bind fun a0=>(tS k l0 a1 a0 0 ((kA l0 a1).f0) ((kA l0 a1).f1) ((kA l0 a1).f2) ((kA l0 a1).f3) ((kA l0 a1).f4) ((kA l0 a1).f5)))else(none))else(none)
theorem b5q{P:Prop}(h:P:=by
 obtain rfl:=oI H
 have bB:=cf6 a4.out
 go_wp2_with (first|(go_at_call 42;refine cD (JAi a7.out) fun nd=>?_;(try exact dq))|(go_at_call 42;refine cD (JAi a9.out) fun nd=>?_;(try exact dq);obtain⟨aQ,aN,rfl⟩:=Kd.JB a2.out;obtain⟨dC,bJ,b7,rfl,aJ⟩:=iy (Kd.JD (Kd.JA a2.out).2.2 0);have cM:(0<a0.length)=True:=oQ bJ;(try rw[tn0]at aJ);(try rw[Addr.add_zero']at aJ);obtain⟨dB,bI,b6,bP,aI⟩:=iy (Kd.JD (Kd.JA a2.out).2.2 1);obtain rfl:b7=b6:=(by injection bP);(try simp only[show(1:Int).toNat=1 from rfl,Nat.reduceMul,Nat.reduceEqDiff,Go.Addr.add,↓reduceIte]at aI);have cL:(1<a0.length)=True:=oQ bI;(try rw[show((1:Int)).toNat=1 from rfl]at aI)))
 repeat(go_quiet (first|(go_at_call 42;refine cD (JAi a7.out) fun nd=>?_;(try exact dq))|(go_at_call 42;refine cD (JAi a9.out) fun nd=>?_;(try exact dq);obtain⟨aQ,aN,rfl⟩:=Kd.JB a2.out;obtain⟨dC,bJ,b7,rfl,aJ⟩:=iy (Kd.JD (Kd.JA a2.out).2.2 0);have cM:(0<a0.length)=True:=oQ bJ;(try rw[tn0]at aJ);(try rw[Addr.add_zero']at aJ);obtain⟨dB,bI,b6,bP,aI⟩:=iy (Kd.JD (Kd.JA a2.out).2.2 1);obtain rfl:b7=b6:=(by injection bP);(try simp only[show(1:Int).toNat=1 from rfl,Nat.reduceMul,Nat.reduceEqDiff,Go.Addr.add,↓reduceIte]at aI);have cL:(1<a0.length)=True:=oQ bI;(try rw[show((1:Int)).toNat=1 from rfl]at aI)));try go_wp2_with (first|(go_at_call 42;refine cD (JAi a7.out) fun nd=>?_;(try exact dq))|(go_at_call 42;refine cD (JAi a9.out) fun nd=>?_;(try exact dq);obtain⟨aQ,aN,rfl⟩:=Kd.JB a2.out;obtain⟨dC,bJ,b7,rfl,aJ⟩:=iy (Kd.JD (Kd.JA a2.out).2.2 0);have cM:(0<a0.length)=True:=oQ bJ;(try rw[tn0]at aJ);(try rw[Addr.add_zero']at aJ);obtain⟨dB,bI,b6,bP,aI⟩:=iy (Kd.JD (Kd.JA a2.out).2.2 1);obtain rfl:b7=b6:=(by injection bP);(try simp only[show(1:Int).toNat=1 from rfl,Nat.reduceMul,Nat.reduceEqDiff,Go.Addr.add,↓reduceIte]at aI);have cL:(1<a0.length)=True:=oQ bI;(try rw[show((1:Int)).toNat=1 from rfl]at aI))))
 go_ret
 exact⟨rfl,bW⟩):P:=h
theorem b8i{P:Prop}(h:P:=by
 obtain rfl:=oI H
 have bB:=cf6 a4.out
 go_wp2_with (first|(go_at_call 42;refine cD (JAi a7.out) fun nd=>?_;(try exact dq))|(go_at_call 42;refine cD (JAi a9.out) fun nd=>?_;(try exact dq);obtain⟨aQ,aN,rfl⟩:=Kd.JB a2.out;obtain⟨dA,bH,b5,rfl,aH⟩:=iy (Kd.JD (Kd.JA a2.out).2.2 0);have cK:(0<a0.length)=True:=oQ bH;(try rw[tn0]at aH);(try rw[Addr.add_zero']at aH);obtain⟨d9,bG,b4,bO,aG⟩:=iy (Kd.JD (Kd.JA a2.out).2.2 1);obtain rfl:b5=b4:=(by injection bO);(try simp only[show(1:Int).toNat=1 from rfl,Nat.reduceMul,Nat.reduceEqDiff,Go.Addr.add,↓reduceIte]at aG);have cJ:(1<a0.length)=True:=oQ bG;(try rw[show((1:Int)).toNat=1 from rfl]at aG)))
 repeat(go_quiet (first|(go_at_call 42;refine cD (JAi a7.out) fun nd=>?_;(try exact dq))|(go_at_call 42;refine cD (JAi a9.out) fun nd=>?_;(try exact dq);obtain⟨aQ,aN,rfl⟩:=Kd.JB a2.out;obtain⟨dA,bH,b5,rfl,aH⟩:=iy (Kd.JD (Kd.JA a2.out).2.2 0);have cK:(0<a0.length)=True:=oQ bH;(try rw[tn0]at aH);(try rw[Addr.add_zero']at aH);obtain⟨d9,bG,b4,bO,aG⟩:=iy (Kd.JD (Kd.JA a2.out).2.2 1);obtain rfl:b5=b4:=(by injection bO);(try simp only[show(1:Int).toNat=1 from rfl,Nat.reduceMul,Nat.reduceEqDiff,Go.Addr.add,↓reduceIte]at aG);have cJ:(1<a0.length)=True:=oQ bG;(try rw[show((1:Int)).toNat=1 from rfl]at aG)));try go_wp2_with (first|(go_at_call 42;refine cD (JAi a7.out) fun nd=>?_;(try exact dq))|(go_at_call 42;refine cD (JAi a9.out) fun nd=>?_;(try exact dq);obtain⟨aQ,aN,rfl⟩:=Kd.JB a2.out;obtain⟨dA,bH,b5,rfl,aH⟩:=iy (Kd.JD (Kd.JA a2.out).2.2 0);have cK:(0<a0.length)=True:=oQ bH;(try rw[tn0]at aH);(try rw[Addr.add_zero']at aH);obtain⟨d9,bG,b4,bO,aG⟩:=iy (Kd.JD (Kd.JA a2.out).2.2 1);obtain rfl:b5=b4:=(by injection bO);(try simp only[show(1:Int).toNat=1 from rfl,Nat.reduceMul,Nat.reduceEqDiff,Go.Addr.add,↓reduceIte]at aG);have cJ:(1<a0.length)=True:=oQ bG;(try rw[show((1:Int)).toNat=1 from rfl]at aG))))
 go_ret
 exact⟨rfl,bW⟩):P:=h
theorem b8f{P:Prop}(h:P:=by
 obtain rfl:=oI H
 have bB:=cf6 a4.out
 go_wp2_with ((go_at_call 42;refine cD (JAi a7.out) fun nd=>?_;(try exact dq);obtain⟨aQ,aN,rfl⟩:=Kd.JB a2.out;obtain⟨bM,aU,aX,rfl,a6⟩:=iy (Kd.JD (Kd.JA a2.out).2.2 0);have b2:(0<a0.length)=True:=oQ aU;(try rw[tn0]at a6);(try rw[Addr.add_zero']at a6);obtain⟨dD,bK,b8,bQ,aK⟩:=iy (Kd.JD (Kd.JA a2.out).2.2 1);obtain rfl:aX=b8:=(by injection bQ);(try simp only[show(1:Int).toNat=1 from rfl,Nat.reduceMul,Nat.reduceEqDiff,Go.Addr.add,↓reduceIte]at aK);have cN:(1<a0.length)=True:=oQ bK;(try rw[show((1:Int)).toNat=1 from rfl]at aK)))
 repeat(go_quiet ((go_at_call 42;refine cD (JAi a7.out) fun nd=>?_;(try exact dq);obtain⟨aQ,aN,rfl⟩:=Kd.JB a2.out;obtain⟨bM,aU,aX,rfl,a6⟩:=iy (Kd.JD (Kd.JA a2.out).2.2 0);have b2:(0<a0.length)=True:=oQ aU;(try rw[tn0]at a6);(try rw[Addr.add_zero']at a6);obtain⟨dD,bK,b8,bQ,aK⟩:=iy (Kd.JD (Kd.JA a2.out).2.2 1);obtain rfl:aX=b8:=(by injection bQ);(try simp only[show(1:Int).toNat=1 from rfl,Nat.reduceMul,Nat.reduceEqDiff,Go.Addr.add,↓reduceIte]at aK);have cN:(1<a0.length)=True:=oQ bK;(try rw[show((1:Int)).toNat=1 from rfl]at aK)));try go_wp2_with ((go_at_call 42;refine cD (JAi a7.out) fun nd=>?_;(try exact dq);obtain⟨aQ,aN,rfl⟩:=Kd.JB a2.out;obtain⟨bM,aU,aX,rfl,a6⟩:=iy (Kd.JD (Kd.JA a2.out).2.2 0);have b2:(0<a0.length)=True:=oQ aU;(try rw[tn0]at a6);(try rw[Addr.add_zero']at a6);obtain⟨dD,bK,b8,bQ,aK⟩:=iy (Kd.JD (Kd.JA a2.out).2.2 1);obtain rfl:aX=b8:=(by injection bQ);(try simp only[show(1:Int).toNat=1 from rfl,Nat.reduceMul,Nat.reduceEqDiff,Go.Addr.add,↓reduceIte]at aK);have cN:(1<a0.length)=True:=oQ bK;(try rw[show((1:Int)).toNat=1 from rfl]at aK))))
 go_ret
 exact⟨rfl,bW⟩):P:=h
theorem c5b{P:Prop}(h:P:=by
 obtain rfl:=oI H
 have bB:=cf6 a4.out
 go_wp2_with (first|(go_at_call 42;refine cD (JAi a7.out) fun nd=>?_;(try exact dq))|(go_at_call 42;refine cD (JAi a9.out) fun nd=>?_;(try exact dq);obtain⟨aQ,aN,rfl⟩:=Kd.JB a2.out;obtain⟨aZ,aA,a8,rfl,a3⟩:=iy (Kd.JD (Kd.JA a2.out).2.2 0);have aW:(0<a0.length)=True:=oQ aA;(try rw[tn0]at a3);(try rw[Addr.add_zero']at a3);obtain⟨bL,aT,aM,aV,a5⟩:=iy (Kd.JD (Kd.JA a2.out).2.2 1);obtain rfl:a8=aM:=(by injection aV);(try simp only[show(1:Int).toNat=1 from rfl,Nat.reduceMul,Nat.reduceEqDiff,Go.Addr.add,↓reduceIte]at a5);have b1:(1<a0.length)=True:=oQ aT;(try rw[show((1:Int)).toNat=1 from rfl]at a5);obtain⟨d7,bE,b3,bN,aD⟩:=iy (Kd.JD (Kd.JA a2.out).2.2 2);obtain rfl:a8=b3:=(by injection bN);(try simp only[show(2:Int).toNat=2 from rfl,Nat.reduceMul,Nat.reduceEqDiff,Go.Addr.add,↓reduceIte]at aD);have cH:(2<a0.length)=True:=oQ bE;(try rw[show((2:Int)).toNat=2 from rfl]at aD)))
 repeat(go_quiet (first|(go_at_call 42;refine cD (JAi a7.out) fun nd=>?_;(try exact dq))|(go_at_call 42;refine cD (JAi a9.out) fun nd=>?_;(try exact dq);obtain⟨aQ,aN,rfl⟩:=Kd.JB a2.out;obtain⟨aZ,aA,a8,rfl,a3⟩:=iy (Kd.JD (Kd.JA a2.out).2.2 0);have aW:(0<a0.length)=True:=oQ aA;(try rw[tn0]at a3);(try rw[Addr.add_zero']at a3);obtain⟨bL,aT,aM,aV,a5⟩:=iy (Kd.JD (Kd.JA a2.out).2.2 1);obtain rfl:a8=aM:=(by injection aV);(try simp only[show(1:Int).toNat=1 from rfl,Nat.reduceMul,Nat.reduceEqDiff,Go.Addr.add,↓reduceIte]at a5);have b1:(1<a0.length)=True:=oQ aT;(try rw[show((1:Int)).toNat=1 from rfl]at a5);obtain⟨d7,bE,b3,bN,aD⟩:=iy (Kd.JD (Kd.JA a2.out).2.2 2);obtain rfl:a8=b3:=(by injection bN);(try simp only[show(2:Int).toNat=2 from rfl,Nat.reduceMul,Nat.reduceEqDiff,Go.Addr.add,↓reduceIte]at aD);have cH:(2<a0.length)=True:=oQ bE;(try rw[show((2:Int)).toNat=2 from rfl]at aD)));try go_wp2_with (first|(go_at_call 42;refine cD (JAi a7.out) fun nd=>?_;(try exact dq))|(go_at_call 42;refine cD (JAi a9.out) fun nd=>?_;(try exact dq);obtain⟨aQ,aN,rfl⟩:=Kd.JB a2.out;obtain⟨aZ,aA,a8,rfl,a3⟩:=iy (Kd.JD (Kd.JA a2.out).2.2 0);have aW:(0<a0.length)=True:=oQ aA;(try rw[tn0]at a3);(try rw[Addr.add_zero']at a3);obtain⟨bL,aT,aM,aV,a5⟩:=iy (Kd.JD (Kd.JA a2.out).2.2 1);obtain rfl:a8=aM:=(by injection aV);(try simp only[show(1:Int).toNat=1 from rfl,Nat.reduceMul,Nat.reduceEqDiff,Go.Addr.add,↓reduceIte]at a5);have b1:(1<a0.length)=True:=oQ aT;(try rw[show((1:Int)).toNat=1 from rfl]at a5);obtain⟨d7,bE,b3,bN,aD⟩:=iy (Kd.JD (Kd.JA a2.out).2.2 2);obtain rfl:a8=b3:=(by injection bN);(try simp only[show(2:Int).toNat=2 from rfl,Nat.reduceMul,Nat.reduceEqDiff,Go.Addr.add,↓reduceIte]at aD);have cH:(2<a0.length)=True:=oQ bE;(try rw[show((2:Int)).toNat=2 from rfl]at aD))))
 go_ret
 exact⟨rfl,bW⟩):P:=h
theorem b8b{P:Prop}(h:P:=by
 obtain rfl:=oI H
 have bB:=cf6 a4.out
 go_wp2_with (first|(go_at_call 42;refine cD (JAi a7.out) fun nd=>?_;(try exact dq))|(go_at_call 42;refine cD (JAi a9.out) fun nd=>?_;(try exact dq);obtain⟨aQ,aN,rfl⟩:=Kd.JB a2.out;obtain⟨d8,bF,cW,rfl,aE⟩:=iy (Kd.JD (Kd.JA a2.out).2.2 0);have cI:(0<a0.length)=True:=oQ bF;(try rw[tn0]at aE);(try rw[Addr.add_zero']at aE)))
 repeat(go_quiet (first|(go_at_call 42;refine cD (JAi a7.out) fun nd=>?_;(try exact dq))|(go_at_call 42;refine cD (JAi a9.out) fun nd=>?_;(try exact dq);obtain⟨aQ,aN,rfl⟩:=Kd.JB a2.out;obtain⟨d8,bF,cW,rfl,aE⟩:=iy (Kd.JD (Kd.JA a2.out).2.2 0);have cI:(0<a0.length)=True:=oQ bF;(try rw[tn0]at aE);(try rw[Addr.add_zero']at aE)));try go_wp2_with (first|(go_at_call 42;refine cD (JAi a7.out) fun nd=>?_;(try exact dq))|(go_at_call 42;refine cD (JAi a9.out) fun nd=>?_;(try exact dq);obtain⟨aQ,aN,rfl⟩:=Kd.JB a2.out;obtain⟨d8,bF,cW,rfl,aE⟩:=iy (Kd.JD (Kd.JA a2.out).2.2 0);have cI:(0<a0.length)=True:=oQ bF;(try rw[tn0]at aE);(try rw[Addr.add_zero']at aE))))
 go_ret
 exact⟨rfl,bW⟩):P:=h
theorem b5h{P:Prop}(h:P:=by
 obtain rfl:=oI H
 have bB:=cf6 a4.out
 obtain⟨aQ,aN,rfl⟩:=Kd.JB a2.out
 have cC:0≤(0:Int):=oM
 have cB:0<(a0.length:Int):=oD (by assumption)
 obtain⟨h_,gI,bS⟩:=Kd.JD (Kd.JA a2.out).2.2 0 cC cB
 cases gI
 have h9:(0<a0.length)=True:=eq_true oM
 (try rw[tn0]at bS)
 (try rw[Addr.add_zero']at bS)
 replace cC:=eq_true cC
 replace cB:=eq_true cB
 go_wp2
 repeat(go_quiet (fail);try go_wp2)
 go_ret
 exact⟨rfl,bW⟩):P:=h
theorem b7x{P:Prop}(h:P:=by
 obtain rfl:=oI H
 have bB:=cf6 a4.out
 go_wp2_with (first|(go_at_call 42;refine cD (JAi cG.out) fun nd=>?_;(try exact dq))|(go_at_call 42;refine cD (JAi e4.out) fun nd=>?_;(try exact dq);obtain⟨aQ,aN,rfl⟩:=Kd.JB a2.out;obtain⟨iJ,g0,hZ,rfl,bR⟩:=iy (Kd.JD (Kd.JA a2.out).2.2 0);have h8:(0<a0.length)=True:=oQ g0;(try rw[tn0]at bR);(try rw[Addr.add_zero']at bR)))
 go_ret
 exact⟨rfl,bW⟩):P:=h
theorem b5f{P:Prop}(h:P:=by
 obtain rfl:=oI H
 have bB:=cf6 a4.out
 go_wp2_with ((go_at_call 47;refine cD (JGi h7.out) fun nd=>?_;(try exact dq)))
 go_ret
 exact⟨rfl,bW⟩):P:=h
theorem b5e{P:Prop}(h:P:=by
 obtain rfl:=oI H
 have bB:=cf6 a4.out
 go_wp2_with ((go_at_call 42;refine cD (JAi h6.out) fun nd=>?_;(try exact dq)))
 go_ret
 exact⟨rfl,bW⟩):P:=h
theorem KOi{k:Nat}{A0:Option Addr}{c0:Nat}{l0:List (S31)}{a1:Int}{r:Bool}{w:World}(hr0:Kd.C k31 w A0 l0.length l0)(hc0:l0.length≤c0)(h:yH k l0 a1=some r) :
  Calls Tryz.prog 43 #[.slice A0 l0.length c0,.int .i64 a1] w fun e w'=>e= .returned (.bool r)∧Below w.heap.size w w':=by
 have hu31:=Tryz.underlying33
 have fU:=am hr0
 have iX:=am hc0
 clear hr0 hc0
 have HB:=am (Below.refl w.heap.size w)
 have H:=h
 clear h
 unfold yH at H
 replace H:=iN H;obtain⟨gL,H⟩:=H
 replace H:=iN H;obtain⟨gK,H⟩:=H
 replace H:=oA H;obtain⟨aR,A5,H⟩:=H
 replace H:=am H
 obtain⟨g4,g2,fE,rfl,d5,d4,d3,d2,d1,d0⟩:=ix (pE fU.out a1)
 go_enter Tryz.func43,Tryz.ntmps43
 go_wp2_with (first|(go_at_call 45;refine(JRi A5.out).mono ?_;rintro e w8 ⟨f_,rfl,fL,hb⟩;have fK:=am (Kd.JF fL (kG (by exact bW)));replace a4:=am (kJ (by exact sB<|pn (by exact sB<|a4.out)) hb);replace HB:=hX hb;(try clear hb);(try clear fL))|((with_reducible refine gW ?_);refine bX 5 33 #[.int .i64 0,.int .i64 0,.int .i64 0,.int .i64 0,.int .i64 0,.int .i64 0] ?_;intro bV hg w6 hbox hb;have a4:=am hbox;have i1:=gw hg;have i2:=gw hg;replace HB:=hB HB hb;clear hb hbox hg;have dE:=cf6 a4.out))
 go_loopg [7] k (fun kq v7 w' =>∃(b9:Int),v7= .int .i64 b9∧Aside0 (tS kq l0 a1 aR b9 ((kA l0 a1).f0) ((kA l0 a1).f1) ((kA l0 a1).f2) ((kA l0 a1).f3) ((kA l0 a1).f4) ((kA l0 a1).f5)=some r)∧Aside0 (kq≤k)∧Aside0 (Kd.R (Kd.int .i64) 3 w' w.heap.size (fun _=>True) f_ aR)∧Aside0 (w'.heap[bV]? = some (.cells #[.int .i64 ((kA l0 a1).f0),.int .i64 ((kA l0 a1).f1),.int .i64 ((kA l0 a1).f2),.int .i64 ((kA l0 a1).f3),.int .i64 ((kA l0 a1).f4),.int .i64 ((kA l0 a1).f5)] 33 (0,0)))∧Aside0 (Below w.heap.size w w'))
 case atStart=>exact⟨0,rfl,H,⟨Nat.le_refl _⟩,⟨sR<|fK.out⟩,⟨sB<|a4.out⟩,⟨bW⟩⟩
 clear H
 clear gL gK dE d5 d4 d3 d2 d1 d0 g4 g2
 obtain⟨b9,rfl,HA,bT,aC,a4,HB⟩:=hrel
 cases gk with
 | zero=>cases HA.out
 | succ k1 =>
  obtain⟨H⟩:=HA
  simp only[tS]at H
  replace H:=iD H;rcases H with⟨dG,H⟩|⟨dG,H⟩
  ·replace H:=iN H;obtain⟨hW,H⟩:=H
   replace H:=oA H;obtain⟨iG,fW,H⟩:=H
   replace H:=iB H;rcases H with⟨rfl,H⟩|⟨rfl,H⟩
   ·replace H:=am H
    obtain⟨iW,iO,rfl⟩:=Kd.JB aC.out
    obtain⟨g3,g1,fD,rfl,c_⟩:=ix (Kd.JD (Kd.JA aC.out).2.2 b9)
    go_wp2_with ((go_at_call 42;refine cD (JAi fW.out) fun nd=>?_;(try exact dq)))
    go_roundg k1
    case measure=>have:=bT.out;omega
    case rel=>exact⟨(wrap64 (b9+1)),rfl,H,⟨by have:=bT.out;omega⟩,⟨sR<|aC.out⟩,⟨sB<|a4.out⟩,⟨bW⟩⟩
   obtain rfl:=oI H
   obtain⟨iV,iM,rfl⟩:=Kd.JB aC.out
   obtain⟨g3,g1,fD,rfl,c_⟩:=ix (Kd.JD (Kd.JA aC.out).2.2 b9)
   go_wp2_with ((go_at_call 42;refine cD (JAi fW.out) fun nd=>?_;(try exact dq)))
   go_ret
   exact⟨rfl,bW⟩
  replace H:=oA H;obtain⟨iF,fV,H⟩:=H
  replace H:=iB H;rcases H with⟨rfl,H⟩|⟨rfl,H⟩
  rotate_left
  ·obtain rfl:=oI H
   obtain⟨i3,hC,rfl⟩:=Kd.JB aC.out
   have g5:=cf6 a4.out
   go_wp2_with ((go_at_call 42;refine cD (JAi fV.out) fun nd=>?_;(try exact dq)))
   go_ret
   exact⟨rfl,bW⟩
  generalize cP:([]:List Int)=fY at H
  have fG:=am cP.symm;clear cP
  replace H:=am H
  obtain⟨e3,cF,rfl⟩:=Kd.JB aC.out
  have d6:=cf6 a4.out
  go_wp2_with (first|(go_at_call 42;refine cD (JAi fV.out) fun nd=>?_;(try exact dq))|((with_reducible refine gW ?_);refine lE (Kd.int .i64) 3 34 ?_;intro i5 w19 bU hb;(rw[← fG.out]at bU);have fJ:=am (Kd.JF (Kd.JN bU (Kd.JM (by exact sR<|aC.out))) (kG (by exact bW)));replace aC:=rE aC bU hb;replace a4:=gB a4 hb;replace HB:=hX hb;clear hb bU))
  go_loopg [8,9] k1 (fun kq v8 v9 w' =>∃(a0:List Int) (aY:Int),v9= .int .i64 aY∧Aside0 (sL kq l0 aR a0 aY ((kA l0 a1).f0) ((kA l0 a1).f1) ((kA l0 a1).f2) ((kA l0 a1).f3) ((kA l0 a1).f4) ((kA l0 a1).f5)=some r)∧Aside0 (kq≤k1)∧Aside0 (Kd.R (Kd.int .i64) 3 w' w.heap.size (fun k_=>some k_≠(v8:Value).ownBlock) (.slice e3 aR.length cF) aR)∧Aside0 (Kd.R (Kd.int .i64) 3 w' w.heap.size (fun k_=>some k_≠((.slice e3 aR.length cF):Value).ownBlock) v8 a0)∧Aside0 (w'.heap[bV]? = some (.cells #[.int .i64 ((kA l0 a1).f0),.int .i64 ((kA l0 a1).f1),.int .i64 ((kA l0 a1).f2),.int .i64 ((kA l0 a1).f3),.int .i64 ((kA l0 a1).f4),.int .i64 ((kA l0 a1).f5)] 33 (0,0)))∧Aside0 (Below w.heap.size w w'))
  case atStart=>exact⟨fY,0,rfl,H,⟨Nat.le_refl _⟩,⟨sR<|Kd.JC aC.out (fun _ hk=>hk.2)⟩,⟨sR<|Kd.JC fJ.out (fun _ hk=>hk.2)⟩,⟨sB<|a4.out⟩,⟨bW⟩⟩
  clear H
  clear dG d6
  obtain⟨a0,aY,rfl,HA,cX,aC,a2,a4,HB⟩:=hrel
  cases gk with
  | zero=>cases HA.out
  | succ k2 =>
   obtain⟨H⟩:=HA
   simp only[sL]at H
   replace H:=iD H;rcases H with⟨fA,H⟩|⟨fA,H⟩
   ·replace H:=iN H;obtain⟨hT,H⟩:=H
    replace H:=iN H;obtain⟨hS,H⟩:=H
    replace H:=iN H;obtain⟨hR,H⟩:=H
    replace H:=iP H;obtain⟨fT,H⟩:=H
    have fH:=am fT
    clear fT
    generalize cO:a0++[(kA l0 (rd aR aY)).f1]=fX at H
    have fF:=am cO.symm;clear cO
    replace H:=am H
    obtain⟨iL,iI,fC,rfl,gU⟩:=ix (Kd.JD (Kd.JA aC.out).2.2 aY)
    obtain⟨iK,iH,fB,gJ,gR,gQ,gP,gO,gN,gM⟩:=ix (pE (Kd.JE fU.out HB.out) (rd aR aY))
    obtain rfl:fE=fB:=(by injection gJ)
    go_wp2_with (((with_reducible refine kZ (b:= .append) (xs:= #[.tmp 41,.tmp 50]) rfl ?_);at_builtin;refine Kd.JQ (Kd.int .i64) (w0:=w) w.heap.size rfl (.tmp 41) (.tmp 50) 25 3 (.int .i64 0) 8 rfl Tryz.underlying25 a4h rfl (by decide) oM u8 a0 ((kA l0 (rd aR aY)).f1) [.int .i64 ((kA l0 (rd aR aY)).f1)] (fun k_=>some k_≠(.slice (some fC) aR.length cF:Value).ownBlock) (fun _=>False) rfl rfl ?aP (fun _ hk=>hk.elim) ?aF ?aO ?aB ?aS ?aL ?_;(case aP=>exact rfl);(case aB=>exact(by exact bW));(case aF=>exact(fun k_ hk=>Kd.JV (Kd.JM (by exact sR<|aC.out)) k_ hk));(case aO=>exact(by exact sR<|a2.out));(case aS=>exact(kG (by exact bW)));(case aL=>have:=fH.out;omega);intro i4 w26 ho hb hg hat;rw[← fF.out]at ho;replace aC:=am (Kd.JW (ok:=(fun _=>True)) (by exact sR<|Kd.JC aC.out (fun _ hk=>⟨trivial,hk⟩)) hg hat);replace a4:=gG a4 hg a2;replace HB:=am hb;have fI:=am ho;clear a2;clear ho hb hg hat))
    go_roundg k2
    case measure=>have:=bT.out;have:=cX.out;omega
    case rel=>exact⟨fX,(wrap64 (aY+1)),rfl,H,⟨by have:=bT.out;have:=cX.out;omega⟩,⟨sR<|Kd.JC aC.out (fun _ hk=>hk.2)⟩,⟨sR<|fI.out⟩,⟨sB<|a4.out⟩,⟨bW⟩⟩
   replace H:=iE H;rcases H with⟨f9,f8,H⟩|⟨f9,f8,H⟩
   ·replace H:=oA H;obtain⟨iC,h7,H⟩:=H
    replace H:=iB H;rcases H with⟨rfl,H⟩|⟨rfl,H⟩
    ·replace H:=iE H;rcases H with⟨f7,f6,H⟩|⟨f7,f6,H⟩
     ·replace H:=iE H;rcases H with⟨e_,eZ,H⟩|⟨e_,eZ,H⟩
      ·exact b5f
      exact b5f
     exact b5f
    exact b5f
   replace H:=iE H;rcases H with⟨eY,eX,H⟩|⟨eY,eX,H⟩
   ·replace H:=oA H;obtain⟨iA,h6,H⟩:=H
    replace H:=iB H;rcases H with⟨rfl,H⟩|⟨rfl,H⟩
    ·replace H:=iE H;rcases H with⟨eW,eV,H⟩|⟨eW,eV,H⟩
     ·replace H:=iE H;rcases H with⟨eU,eT,H⟩|⟨eU,eT,H⟩
      ·exact b5e
      exact b5e
     exact b5e
    exact b5e
   replace H:=iE H;rcases H with⟨eS,eR,H⟩|⟨eS,eR,H⟩
   ·replace H:=iP H;obtain⟨fS,H⟩:=H
    have hQ:decide (0<(a0.length:Int))=true:=decide_eq_true fS
    have hP:decide (0<a0.length)=true:=decide_eq_true oM
    have iU:0<a0.length:=by omega
    clear fS
    replace H:=iE H;rcases H with⟨eQ,eP,H⟩|⟨eQ,eP,H⟩
    ·replace H:=iE H;rcases H with⟨eO,eN,H⟩|⟨eO,eN,H⟩
     ·replace H:=iE H;rcases H with⟨eM,eL,H⟩|⟨eM,eL,H⟩
      ·exact b5h
      exact b5h
     exact b5h
    exact b5h
   replace H:=oA H;obtain⟨i9,a7,H⟩:=H
   replace H:=iB H;rcases H with⟨rfl,H⟩|⟨rfl,H⟩
   ·replace H:=iP H;obtain⟨fR,H⟩:=H
    have hO:decide (0<(a0.length:Int))=true:=decide_eq_true fR
    have hN:decide (0<a0.length)=true:=decide_eq_true oM
    have iS:0<a0.length:=by omega
    clear fR
    replace H:=iE H;rcases H with⟨eK,eJ,H⟩|⟨eK,eJ,H⟩
    ·replace H:=iP H;obtain⟨fQ,H⟩:=H
     have hM:decide (1<(a0.length:Int))=true:=decide_eq_true fQ
     have hL:decide (1<a0.length)=true:=decide_eq_true oM
     clear fQ
     replace H:=iE H;rcases H with⟨eI,eH,H⟩|⟨eI,eH,H⟩
     ·replace H:=iE H;rcases H with⟨eG,eF,H⟩|⟨eG,eF,H⟩
      ·exact b8f
      exact b8f
     exact b8f
    obtain rfl:=oI H
    have gV:=cf6 a4.out
    go_wp2_with ((go_at_call 42;refine cD (JAi a7.out) fun nd=>?_;(try exact dq);obtain⟨e2,dF,rfl⟩:=Kd.JB a2.out;obtain⟨bM,aU,aX,rfl,a6⟩:=iy (Kd.JD (Kd.JA a2.out).2.2 0);have b2:(0<a0.length)=True:=oQ aU;(try rw[tn0]at a6);(try rw[Addr.add_zero']at a6)))
    repeat(go_quiet ((go_at_call 42;refine cD (JAi a7.out) fun nd=>?_;(try exact dq);obtain⟨e2,dF,rfl⟩:=Kd.JB a2.out;obtain⟨bM,aU,aX,rfl,a6⟩:=iy (Kd.JD (Kd.JA a2.out).2.2 0);have b2:(0<a0.length)=True:=oQ aU;(try rw[tn0]at a6);(try rw[Addr.add_zero']at a6)));try go_wp2_with ((go_at_call 42;refine cD (JAi a7.out) fun nd=>?_;(try exact dq);obtain⟨e2,dF,rfl⟩:=Kd.JB a2.out;obtain⟨bM,aU,aX,rfl,a6⟩:=iy (Kd.JD (Kd.JA a2.out).2.2 0);have b2:(0<a0.length)=True:=oQ aU;(try rw[tn0]at a6);(try rw[Addr.add_zero']at a6))))
    go_ret
    exact⟨rfl,bW⟩
   replace H:=oA H;obtain⟨i8,a9,H⟩:=H
   replace H:=iB H;rcases H with⟨rfl,H⟩|⟨rfl,H⟩
   ·replace H:=iP H;obtain⟨fP,H⟩:=H
    have hK:decide (0<(a0.length:Int))=true:=decide_eq_true fP
    have hJ:decide (0<a0.length)=true:=decide_eq_true oM
    have iR:0<a0.length:=by omega
    clear fP
    replace H:=iP H;obtain⟨fO,H⟩:=H
    have hI:decide (1<(a0.length:Int))=true:=decide_eq_true fO
    have hH:decide (1<a0.length)=true:=decide_eq_true oM
    clear fO
    replace H:=iE H;rcases H with⟨eE,eD,H⟩|⟨eE,eD,H⟩
    ·replace H:=iE H;rcases H with⟨eC,eB,H⟩|⟨eC,eB,H⟩
     ·replace H:=iE H;rcases H with⟨eA,e9,H⟩|⟨eA,e9,H⟩
      ·exact b5q
      exact b5q
     exact b5q
    exact b5q
   by_cases bD:((kA l0 a1).f0)=16
   ·rw[if_pos bD]at H
    have cV:(((kA l0 a1).f0)==16)=true:=beq_iff_eq.mpr bD
    have cU:(((kA l0 a1).f0)!=16)=false:=bne_eq_false_iff_eq.mpr bD
    clear bD
    replace H:=iP H;obtain⟨fN,H⟩:=H
    have hG:decide (0<(a0.length:Int))=true:=decide_eq_true fN
    have hF:decide (0<a0.length)=true:=decide_eq_true oM
    have iQ:0<a0.length:=by omega
    clear fN
    replace H:=iP H;obtain⟨fM,H⟩:=H
    have hE:decide (1<(a0.length:Int))=true:=decide_eq_true fM
    have hD:decide (1<a0.length)=true:=decide_eq_true oM
    clear fM
    replace H:=iE H;rcases H with⟨e8,e7,H⟩|⟨e8,e7,H⟩
    ·replace H:=iE H;rcases H with⟨e6,e5,H⟩|⟨e6,e5,H⟩
     ·exact b8i
     exact b8i
    exact b8i
   rw[if_neg bD]at H
   have cV:(((kA l0 a1).f0)==16)=false:=beq_eq_false_iff_ne.mpr bD
   have cU:(((kA l0 a1).f0)!=16)=true:=bne_iff_ne.mpr bD
   by_cases bC:((kA l0 a1).f0)=17
   ·rw[if_pos bC]at H
    have cT:(((kA l0 a1).f0)==17)=true:=beq_iff_eq.mpr bC
    have cS:(((kA l0 a1).f0)!=17)=false:=bne_eq_false_iff_eq.mpr bC
    clear bC
    by_cases bA:((kA l0 a1).f2)≥0
    ·rw[if_pos bA]at H
     have e1:decide (0≤((kA l0 a1).f2))=true:=decide_eq_true bA
     clear bA
     replace H:=iP H;obtain⟨e0,H⟩:=H
     have h5:decide (0<(a0.length:Int))=true:=decide_eq_true e0
     have h4:decide (0<a0.length)=true:=decide_eq_true oM
     have hY:0<a0.length:=by omega
     clear e0
     replace H:=iD H;rcases H with⟨d_,H⟩|⟨d_,H⟩
     ·replace H:=iE H;rcases H with⟨dZ,dY,H⟩|⟨dZ,dY,H⟩
      ·exact b8b
      exact b8b
     exact b8b
    rw[if_neg bA]at H
    have e1:decide (0≤((kA l0 a1).f2))=false:=decide_eq_false bA
    clear bA
    obtain rfl:=oI H
    have gH:=cf6 a4.out
    go_wp2_with (first|(go_at_call 42;refine cD (JAi a7.out) fun nd=>?_;(try exact dq))|(go_at_call 42;refine cD (JAi a9.out) fun nd=>?_;(try exact dq)))
    repeat(go_quiet (first|(go_at_call 42;refine cD (JAi a7.out) fun nd=>?_;(try exact dq))|(go_at_call 42;refine cD (JAi a9.out) fun nd=>?_;(try exact dq)));try go_wp2_with (first|(go_at_call 42;refine cD (JAi a7.out) fun nd=>?_;(try exact dq))|(go_at_call 42;refine cD (JAi a9.out) fun nd=>?_;(try exact dq))))
    go_ret
    exact⟨rfl,bW⟩
   rw[if_neg bC]at H
   have cT:(((kA l0 a1).f0)==17)=false:=beq_eq_false_iff_ne.mpr bC
   have cS:(((kA l0 a1).f0)!=17)=true:=bne_iff_ne.mpr bC
   by_cases a_:((kA l0 a1).f0)=18
   ·rw[if_pos a_]at H
    have c1:(((kA l0 a1).f0)==18)=true:=beq_iff_eq.mpr a_
    have b_:(((kA l0 a1).f0)!=18)=false:=bne_eq_false_iff_eq.mpr a_
    clear a_
    replace H:=iP H;obtain⟨dX,H⟩:=H
    have h3:decide (0<(a0.length:Int))=true:=decide_eq_true dX
    have h2:decide (0<a0.length)=true:=decide_eq_true oM
    have hV:0<a0.length:=by omega
    clear dX
    replace H:=iE H;rcases H with⟨dW,dV,H⟩|⟨dW,dV,H⟩
    ·replace H:=iP H;obtain⟨dU,H⟩:=H
     have h1:decide (1<(a0.length:Int))=true:=decide_eq_true dU
     have h0:decide (1<a0.length)=true:=decide_eq_true oM
     clear dU
     replace H:=iE H;rcases H with⟨dT,dS,H⟩|⟨dT,dS,H⟩
     ·replace H:=iP H;obtain⟨dQ,H⟩:=H
      have g_:decide (2<(a0.length:Int))=true:=decide_eq_true dQ
      have gZ:decide (2<a0.length)=true:=decide_eq_true oM
      clear dQ
      replace H:=iE H;rcases H with⟨dP,dO,H⟩|⟨dP,dO,H⟩
      ·exact c5b
      exact c5b
     obtain rfl:=oI H
     have gE:=cf6 a4.out
     go_wp2_with (first|(go_at_call 42;refine cD (JAi a7.out) fun nd=>?_;(try exact dq))|(go_at_call 42;refine cD (JAi a9.out) fun nd=>?_;(try exact dq);obtain⟨cZ,cR,rfl⟩:=Kd.JB a2.out;obtain⟨aZ,aA,a8,rfl,a3⟩:=iy (Kd.JD (Kd.JA a2.out).2.2 0);have aW:(0<a0.length)=True:=oQ aA;(try rw[tn0]at a3);(try rw[Addr.add_zero']at a3);obtain⟨bL,aT,aM,aV,a5⟩:=iy (Kd.JD (Kd.JA a2.out).2.2 1);obtain rfl:a8=aM:=(by injection aV);(try simp only[show(1:Int).toNat=1 from rfl,Nat.reduceMul,Nat.reduceEqDiff,Go.Addr.add,↓reduceIte]at a5);have b1:(1<a0.length)=True:=oQ aT;(try rw[show((1:Int)).toNat=1 from rfl]at a5)))
     repeat(go_quiet (first|(go_at_call 42;refine cD (JAi a7.out) fun nd=>?_;(try exact dq))|(go_at_call 42;refine cD (JAi a9.out) fun nd=>?_;(try exact dq);obtain⟨cZ,cR,rfl⟩:=Kd.JB a2.out;obtain⟨aZ,aA,a8,rfl,a3⟩:=iy (Kd.JD (Kd.JA a2.out).2.2 0);have aW:(0<a0.length)=True:=oQ aA;(try rw[tn0]at a3);(try rw[Addr.add_zero']at a3);obtain⟨bL,aT,aM,aV,a5⟩:=iy (Kd.JD (Kd.JA a2.out).2.2 1);obtain rfl:a8=aM:=(by injection aV);(try simp only[show(1:Int).toNat=1 from rfl,Nat.reduceMul,Nat.reduceEqDiff,Go.Addr.add,↓reduceIte]at a5);have b1:(1<a0.length)=True:=oQ aT;(try rw[show((1:Int)).toNat=1 from rfl]at a5)));try go_wp2_with (first|(go_at_call 42;refine cD (JAi a7.out) fun nd=>?_;(try exact dq))|(go_at_call 42;refine cD (JAi a9.out) fun nd=>?_;(try exact dq);obtain⟨cZ,cR,rfl⟩:=Kd.JB a2.out;obtain⟨aZ,aA,a8,rfl,a3⟩:=iy (Kd.JD (Kd.JA a2.out).2.2 0);have aW:(0<a0.length)=True:=oQ aA;(try rw[tn0]at a3);(try rw[Addr.add_zero']at a3);obtain⟨bL,aT,aM,aV,a5⟩:=iy (Kd.JD (Kd.JA a2.out).2.2 1);obtain rfl:a8=aM:=(by injection aV);(try simp only[show(1:Int).toNat=1 from rfl,Nat.reduceMul,Nat.reduceEqDiff,Go.Addr.add,↓reduceIte]at a5);have b1:(1<a0.length)=True:=oQ aT;(try rw[show((1:Int)).toNat=1 from rfl]at a5))))
     go_ret
     exact⟨rfl,bW⟩
    obtain rfl:=oI H
    have gA:=cf6 a4.out
    go_wp2_with (first|(go_at_call 42;refine cD (JAi a7.out) fun nd=>?_;(try exact dq))|(go_at_call 42;refine cD (JAi a9.out) fun nd=>?_;(try exact dq);obtain⟨cY,cQ,rfl⟩:=Kd.JB a2.out;obtain⟨aZ,aA,a8,rfl,a3⟩:=iy (Kd.JD (Kd.JA a2.out).2.2 0);have aW:(0<a0.length)=True:=oQ aA;(try rw[tn0]at a3);(try rw[Addr.add_zero']at a3)))
    repeat(go_quiet (first|(go_at_call 42;refine cD (JAi a7.out) fun nd=>?_;(try exact dq))|(go_at_call 42;refine cD (JAi a9.out) fun nd=>?_;(try exact dq);obtain⟨cY,cQ,rfl⟩:=Kd.JB a2.out;obtain⟨aZ,aA,a8,rfl,a3⟩:=iy (Kd.JD (Kd.JA a2.out).2.2 0);have aW:(0<a0.length)=True:=oQ aA;(try rw[tn0]at a3);(try rw[Addr.add_zero']at a3)));try go_wp2_with (first|(go_at_call 42;refine cD (JAi a7.out) fun nd=>?_;(try exact dq))|(go_at_call 42;refine cD (JAi a9.out) fun nd=>?_;(try exact dq);obtain⟨cY,cQ,rfl⟩:=Kd.JB a2.out;obtain⟨aZ,aA,a8,rfl,a3⟩:=iy (Kd.JD (Kd.JA a2.out).2.2 0);have aW:(0<a0.length)=True:=oQ aA;(try rw[tn0]at a3);(try rw[Addr.add_zero']at a3))))
    go_ret
    exact⟨rfl,bW⟩
   rw[if_neg a_]at H
   have c1:(((kA l0 a1).f0)==18)=false:=beq_eq_false_iff_ne.mpr a_
   have b_:(((kA l0 a1).f0)!=18)=true:=bne_iff_ne.mpr a_
   have bZ:=am H;clear H
   have cE:=cf6 a4.out
   go_upto_region 31 with(first|(go_at_call 42;refine cD (JAi a7.out) fun nd=>?_;(try exact dq))|(go_at_call 42;refine cD (JAi a9.out) fun nd=>?_;(try exact dq)))
   repeat(go_quiet (first|(go_at_call 42;refine cD (JAi a7.out) fun nd=>?_;(try exact dq))|(go_at_call 42;refine cD (JAi a9.out) fun nd=>?_;(try exact dq)));go_upto_region 31 with(first|(go_at_call 42;refine cD (JAi a7.out) fun nd=>?_;(try exact dq))|(go_at_call 42;refine cD (JAi a9.out) fun nd=>?_;(try exact dq))))
   (try simp only[Act.put,List.setIfInBounds_toArray,List.set_cons_zero,List.set_cons_succ])
   go_cut [258] (fun fZ wc =>∃(kq:Nat) (b0:Bool),fZ= .bool b0∧Aside0 (xF kq a0 b0 ((kA l0 a1).f0) ((kA l0 a1).f1) ((kA l0 a1).f2) ((kA l0 a1).f3) ((kA l0 a1).f4) ((kA l0 a1).f5)=some r)∧Aside0 (kq≤k2)∧Aside0 (Kd.R (Kd.int .i64) 3 wc w.heap.size (fun _=>True) u8 a0)∧Aside0 (wc.heap[bV]? = some (.cells #[.int .i64 ((kA l0 a1).f0),.int .i64 ((kA l0 a1).f1),.int .i64 ((kA l0 a1).f2),.int .i64 ((kA l0 a1).f3),.int .i64 ((kA l0 a1).f4),.int .i64 ((kA l0 a1).f5)] 33 (0,0)))∧Aside0 (Below w.heap.size w wc))
   case first =>
    have H:=bZ.out
    clear bZ
    replace H:=iE H;rcases H with⟨dN,dM,H⟩|⟨dN,dM,H⟩
    ·replace H:=am H
     have g9:=cf6 a4.out
     go_wp2
     repeat(go_quiet (fail);try go_wp2)
     go_meet
     case rel=>exact⟨_,true,rfl,H,⟨by have:=bT.out;have:=cX.out;omega⟩,⟨sR<|Kd.JC a2.out (fun _ hk=>trivial)⟩,⟨sB<|a4.out⟩,⟨bW⟩⟩
    replace H:=am H
    have g8:=cf6 a4.out
    go_wp2
    repeat(go_quiet (fail);try go_wp2)
    go_meet
    case rel=>exact⟨_,((((kA l0 a1).f0)==20)),rfl,H,⟨by have:=bT.out;have:=cX.out;omega⟩,⟨sR<|Kd.JC a2.out (fun _ hk=>trivial)⟩,⟨sB<|a4.out⟩,⟨bW⟩⟩
   clear bZ
   clear bD cV cU bC cT cS a_ c1 b_ cE
   obtain⟨kq,b0,rfl,HA,i0,a2,a4,HB⟩:=hcut
   cases kq with
   | zero=>cases HA.out
   | succ hA =>
    obtain⟨H⟩:=HA
    simp only[xF]at H
    replace H:=iB H;rcases H with⟨rfl,H⟩|⟨rfl,H⟩
    rotate_left
    ·obtain rfl:=oI H
     go_wp2
     repeat(go_quiet (fail);try go_wp2)
     go_ret
     exact⟨rfl,bW⟩
    replace H:=oA H;obtain⟨i7,cG,H⟩:=H
    replace H:=iB H;rcases H with⟨rfl,H⟩|⟨rfl,H⟩
    ·replace H:=oA H;obtain⟨i6,e4,H⟩:=H
     replace H:=iB H;rcases H with⟨rfl,H⟩|⟨rfl,H⟩
     ·replace H:=iP H;obtain⟨dL,H⟩:=H
      have gY:decide (0<(a0.length:Int))=true:=decide_eq_true dL
      have gX:decide (0<a0.length)=true:=decide_eq_true oM
      have hU:0<a0.length:=by omega
      clear dL
      replace H:=iE H;rcases H with⟨dK,dJ,H⟩|⟨dK,dJ,H⟩
      ·replace H:=iE H;rcases H with⟨dI,dH,H⟩|⟨dI,dH,H⟩
       ·exact b7x
       exact b7x
      exact b7x
     obtain rfl:=oI H
     have g7:=cf6 a4.out
     go_wp2_with (first|(go_at_call 42;refine cD (JAi cG.out) fun nd=>?_;(try exact dq))|(go_at_call 42;refine cD (JAi e4.out) fun nd=>?_;(try exact dq)))
     go_ret
     exact⟨rfl,bW⟩
    obtain rfl:=oI H
    have g6:=cf6 a4.out
    go_wp2_with ((go_at_call 42;refine cD (JAi cG.out) fun nd=>?_;(try exact dq)))
    go_ret
    exact⟨rfl,bW⟩
end Go.Proofs.YtkpipmojkhikaaaGreat.PAll
