/- Go functions as Lean functions: a call comes to what they say. -/
import Derived.Test.YtkpipmojkhikaaaGreatVValues14
import Derived.Test.YtkpipmojkhikaaaGreatVValues23
import Derived.Test.YtkpipmojkhikaaaGreatVValues24
namespace Go.Proofs.YtkpipmojkhikaaaGreat.PAll
open Go.RowKit Go.A_ Go.B_ Go.C_ Go.D_
attribute [local go_sem] rF rC tE tD qK qJ rD rA
set_option linter.unusedVariables false
set_option linter.unusedSimpArgs false
set_option maxHeartbeats 8000000
set_option maxRecDepth 100000
section
attribute [local go_sem high] d1s
@[reducible] def d3p:Array Bool:= #[false,false,false,false,false,false,false,false]
@[reducible] def d3m:Array Bool:= #[true,false,false,false,false,false,false,false]
@[reducible] def d3j:Array Bool:= #[true,false,true,false,false,false,false,false]
@[reducible] def d3g:Array Bool:= #[true,true,true,false,false,false,false,false]
@[reducible] def d3d:Array Bool:= #[true,true,true,false,true,false,false,false]
@[reducible] def d3a:Array Bool:= #[true,true,true,true,true,false,false,false]
@[reducible] def d2x:Array Bool:= #[true,true,true,true,true,true,false,false]
@[reducible] def d2u:Array Bool:= #[true,true,true,true,true,true,true,false]
@[reducible] def d2r:Array Bool:= #[true,true,true,true,true,true,true,true]
variable {Ax:Option Addr} {cx:Nat}
abbrev RdV:=Int→List (S31)→Int→Int→Option ((Int×Bool)×Int×List (S31)×Int×Int)
def b1t(s:ByteArray)(V:RdV):Prop :=
 ∀(g:Nat) (a:Int) (l:List (S31)) (code bad p:Int) (ok:Bool) (a':Int) (l':List (S31)) (code' bad':Int) (A:Option Addr) (c:Nat) (w0 w:World),b0h w0 w g s a l code bad A c→l.length≤80→V a l code bad=some ((p,ok),a',l',code',bad')→
  Calls Tryz.prog 53 #[.pointer (some ⟨g,0,none⟩)] w fun e w'=>e= .returned (.tuple #[.int .i64 p,.bool ok])∧Left w0 w w' g s a' l' code' bad' A c l.length
def b3a(V:RdV)(s:ByteArray)(frm:Int):Nat→Int→List (S31)→Int→Int→List Int→Option (Bool×List Int×Int×List (S31)×Int×Int)
 | 0,a,l,c,b,acc=>some (true,acc,a,l,c,b)
 | m+1,a,l,c,b,acc=>(goF s a l c b 32).bind fun g=>if g.1=true then(V g.2 l c b).bind fun r=>(if r.1.2=true then b3a V s frm m r.2.1 r.2.2.1 r.2.2.2.1 r.2.2.2.2 (acc++[r.1.1])else some (false,acc,r.2.1,r.2.2.1,r.2.2.2.1,r.2.2.2.2))else some (false,acc,g.2,l,2,frm)
def b3b(k:Nat)(V:RdV)(s:ByteArray)(a:Int)(l:List (S31))(code bad frm:Int):Option ((Int×Bool)×Int×List (S31)×Int×Int) :=
 (wF k s a l code bad).bind fun w1=>(a1c k w1.1).bind fun o=>if o.2=true then
  (a4z k s w1.2 l code bad ⟨o.1,0,0,0,0,0⟩).bind fun m=>(if m.1=true then
   (b3a V s frm (kL m.2.2.f0 m.2.2.f3 m.2.2.f4 m.2.2.f5).length m.2.1 l code bad []).bind fun q=>(if q.1=true then
    (goF s q.2.2.1 q.2.2.2.1 q.2.2.2.2.1 q.2.2.2.2.2 41).bind fun e=>(if e.1=true then
     (qH k s e.2 q.2.2.2.1 q.2.2.2.2.1 q.2.2.2.2.2 m.2.2.f0 m.2.2.f1 m.2.2.f2 (rd q.2.1 0) (if m.2.2.f0=19∨m.2.2.f0=20 then m.2.2.f4 else rd q.2.1 1) (rd q.2.1 2)).bind fun wd =>
      some (c2l q.2.2.2.1 q.2.2.2.2.1 q.2.2.2.2.2 ⟨m.2.2.f0,wd.1,m.2.2.f2,rd q.2.1 0,if m.2.2.f0=19∨m.2.2.f0=20 then m.2.2.f4 else rd q.2.1 1,rd q.2.1 2⟩ frm e.2)
    else some ((0,false),e.2,q.2.2.2.1,2,frm))
   else some ((0,false),q.2.2.1,q.2.2.2.1,q.2.2.2.2.1,q.2.2.2.2.2))
  else some ((0,false),m.2.1,l,2,frm))
 else some ((0,false),w1.2,l,2,frm)
theorem a1l(k g:Nat)(V:RdV)(s:ByteArray)(hV:b1t s V)(a a1:Int)(l:List (S31))(code bad p:Int)(ok:Bool)(a':Int)(l':List (S31))(code' bad':Int)(A:Option Addr)(c:Nat)(w0 w:World)(hI:b0h w0 w g s a l code bad A c)(hl:l.length≤80)(hg:goF s a l code bad 40=some (true,a1))
  (hf:b3b k V s a1 l code bad a=some ((p,ok),a',l',code',bad')) :
  Calls Tryz.prog 53 #[.pointer (some ⟨g,0,none⟩)] w fun e w'=>e= .returned (.tuple #[.int .i64 p,.bool ok])∧Left w0 w w' g s a' l' code' bad' A c l.length:=by
 obtain⟨hS,hR,hB⟩:=hI
 have HV:=am hV
 have HS:=am hS;have HR:=am hR;have HB:=am hB;have HL:=am hl;have HG:=am hg
 unfold b3b at hf
 obtain⟨⟨v1,a2⟩,aB,hf⟩:=oB hf
 obtain⟨⟨op,f1⟩,aC,hf⟩:=oB hf
 have HW:=am aB;have HP:=am aC;have HF:=am hf
 obtain⟨A2,c2,hbg,_,_,_⟩:=hS
 have g1:=(kE hbg 1)
 have g1:w.cell? ⟨g,1,none⟩=some (.int .i64 a):=g1.trans rfl
 have HK:=am (Kept.refl w (fun k=>k=g∨some k=(Value.slice A l.length c).ownBlock))
 clear hR hB hl hg aB aC hf hbg hV
 go_enter Tryz.func53,Tryz.ntmps53
 go_wp2_with fail
 refine(b4o g s a l code bad 40 true a1 w0 _ HS.out HB.out HG.out).mono ?_
 rintro e w1 ⟨rfl,hi,hb,hk⟩
 have HS:=am hi;have HR:=am (Kd.YF HR.out hk (fun _ h=>h));have HB:=am hb;have HK:=am (qW HK.out hk (.inl (.inl rfl)))
 clear hi hb hk g1
 go_wp2_with fail
 refine(b8y k g s a1 l code bad v1 a2 w0 _ HS.out HB.out HW.out).mono ?_
 rintro e w2 ⟨rfl,hi,hb,hk⟩
 have HS:=am hi;have HR:=am (Kd.YF HR.out hk (fun _ h=>h));have HB:=am hb;have HK:=am (qW HK.out hk (.inl (.inl rfl)))
 clear hi hb hk
 go_wp2_with fail
 refine(ZMi k v1 op f1 _ HP.out).mono ?_
 rintro e w3 ⟨rfl,hd⟩
 have HS:=am (IsS84.below HS.out hd);have HR:=am (Kd.JK HR.out hd);have HB:=am (HB.out.trans (hd.mono HB.out.size));have HK:=am (HK.out.below hd)
 clear hd
 have BN:=am (heap_alloc_new w3 (Obj.cells #[Value.int .i64 op,Value.int .i64 0,Value.int .i64 0,Value.int .i64 0,Value.int .i64 0,Value.int .i64 0] 33))
 have hA:=kO (Below.refl w3.heap.size w3) (Obj.cells #[Value.int .i64 op,Value.int .i64 0,Value.int .i64 0,Value.int .i64 0,Value.int .i64 0,Value.int .i64 0] 33)
 have HNO:=am (show ∀k,(Value.slice A l.length c).ownBlock=some k→k<w3.heap.size from fun k e=>Kd.JM HR.out k e)
 have HB3:=am (kG HB.out)
 have HW3:=am (show w.heap.size≤w3.heap.size from HK.out.1)
 have HS:=am (IsS84.below HS.out hA);have HR:=am (Kd.JK HR.out hA);have HB:=am (HB.out.trans (hA.mono HB.out.size));have HK:=am (HK.out.below hA)
 cases f1 with
 | false =>
  have hf:=HF.out
  rw[if_neg (by decide)]at hf
  simp only[Option.some.injEq,Prod.mk.injEq]at hf
  obtain⟨⟨rfl,rfl⟩,rfl,rfl,rfl,rfl⟩:=hf
  clear hA
  go_wp2_with fail
  refine(JSi g s a2 l code bad 2 a 0 false s a2 2 a w0 _ HS.out HB.out rfl).mono ?_
  rintro e w5 ⟨rfl,hi,hb,hk⟩
  have HS:=am hi;have HR:=am (Kd.YF HR.out hk (fun _ h=>h));have HB:=am hb;have HK:=am (qW HK.out hk (.inl (.inl rfl)))
  clear hi hb hk
  go_wp2_with fail
  refine bodyPost_ret (pN (rs:=[.tmp 2,.tmp 3]) rfl (by simp) (.tmp (.tmp .nil))) rfl ?_
  exact⟨rfl,⟨A,c,⟨HS.out,HR.out,HB.out⟩,fun k e=> .inl e.symm⟩,HK.out,HL.out⟩
 | true =>
  have hf:=HF.out
  rw[if_pos rfl]at hf
  obtain⟨⟨f2,a3,n1⟩,hm,hf⟩:=oB hf
  have HM:=am hm;have HF:=am hf
  clear hm hf hA
  go_wp2_with fail
  refine(YYi k g w3.heap.size s a2 l code bad ⟨op,0,0,0,0,0⟩ f2 a3 n1 A c w0 _ ⟨HS.out,HB.out,BN.out,Kept.refl _ _⟩ HB3.out HM.out).mono ?_
  rintro e w5 ⟨rfl,hS5,hB5,hN5,hK5⟩
  have HR:=am (Kd.JC (Kd.XL (Kd.JC (Kd.JL rfl HR.out) (ok':=fun k=>k≠g∧k≠w3.heap.size) (fun k e=>⟨HR.out.1 k e.symm,by have:=HNO.out k e.symm;omega⟩)) hK5 (fun k hk hs=>by rcases hs with h|h;exact hk.1 h;exact hk.2 h)) (fun _ h=>h.1))
  have HK:=am (HK.out.then_ hK5 (fun k h=>by rcases h with h|h;exact .inl (.inl h);exact .inr (by have:=HW3.out;omega)))
  have HS:=am hS5;have HB:=am hB5;have BN:=am hN5
  clear hS5 hB5 hN5 hK5
  cases f2 with
  | false =>
   have hf:=HF.out
   rw[if_neg (by decide)]at hf
   simp only[Option.some.injEq,Prod.mk.injEq]at hf
   obtain⟨⟨rfl,rfl⟩,rfl,rfl,rfl,rfl⟩:=hf
   go_wp2_with fail
   refine(JSi g s a3 l code bad 2 a 0 false s a3 2 a w0 _ HS.out HB.out rfl).mono ?_
   rintro e w6 ⟨rfl,hi,hb,hk⟩
   have HS:=am hi;have HR:=am (Kd.YF HR.out hk (fun _ h=>h));have HB:=am hb;have HK:=am (qW HK.out hk (.inl (.inl rfl)))
   clear hi hb hk
   go_wp2_with fail
   refine bodyPost_ret (pN (rs:=[.tmp 2,.tmp 3]) rfl (by simp) (.tmp (.tmp .nil))) rfl ?_
   exact⟨rfl,⟨A,c,⟨HS.out,HR.out,HB.out⟩,fun k e=> .inl e.symm⟩,HK.out,HL.out⟩
  | true =>
   have hf:=HF.out
   rw[if_pos rfl]at hf
   have HF:=am hf
   clear hf
   obtain⟨⟨m0,m1,m2,m3,m4,m5⟩,hn1⟩ :∃n,n1=n:=⟨_,rfl⟩
   subst hn1
   have BP:=am (heap_alloc_new w5 (Obj.cells #[Value.int .i64 0,Value.int .i64 0,Value.int .i64 0] 68))
   have hA:=kO (Below.refl w5.heap.size w5) (Obj.cells #[Value.int .i64 0,Value.int .i64 0,Value.int .i64 0] 68)
   have HNP:=am (show ∀k,(Value.slice A l.length c).ownBlock=some k→k<w5.heap.size from fun k e=>Kd.JM HR.out k e)
   have HHP:=am (show w3.heap.size<w5.heap.size from vD BN.out)
   have HW5:=am (show w.heap.size≤w5.heap.size from HK.out.1)
   have HB5:=am (kG HB.out)
   have HS:=am (IsS84.below HS.out hA);have HR:=am (Kd.JK HR.out hA);have HB:=am (HB.out.trans (hA.mono HB.out.size));have HK:=am (HK.out.below hA);have BN:=am (kJ BN.out hA)
   obtain⟨q0,q1,q2,q3,q4,q5⟩:=a3d BN.out
   clear hA
   go_wp2_with fail
   refine(JIi 1 m0 m1 m2 m3 m4 m5 (kL m0 m3 m4 m5) _ (a6a m0 m1 m2 m3 m4 m5 (Nat.le_refl 1))).mono ?_
   rintro e w6 ⟨v6,rfl,hO,hb6⟩
   obtain⟨A6,c6,e6⟩:=Kd.JB hO
   subst e6
   have HS:=am (IsS84.below HS.out hb6);have HR:=am (Kd.JK HR.out hb6);have HB:=am (HB.out.trans (hb6.mono HB.out.size));have HK:=am (HK.out.below hb6);have BN:=am (kJ BN.out hb6);have BP:=am (kJ BP.out hb6)
   have HPL:=am (qF m0 m3 m4 m5)
   clear hO hb6 q0 q1 q2 q3 q4 q5
   have hf:=HF.out
   obtain⟨⟨fq,acc,aq,lq,cq,bq⟩,hkq,hf⟩:=oB hf
   try simp only[]at hkq
   have HKQ:=am hkq;have HF:=am hf
   clear hf hkq
   have HOW:=am (show ∀k,(Value.slice A l.length c).ownBlock=some k→(some k=(Value.slice A l.length c).ownBlock∨w.heap.size≤k)∧k≠w3.heap.size∧k≠w5.heap.size from fun k e=>⟨.inl e.symm,by have:=HNO.out k e;omega,by have:=HNP.out k e;omega⟩)
   have BP:=am (show w6.heap[w5.heap.size]? = some (.cells (xc []) 68 (0,0))from BP.out)
   go_wp2_with fail
   go_loopg [13,14,15,84] (kL m0 m3 m4 m5).length (fun gk u13 u14 u15 u84 w' =>∃(i:Nat) (acc1:List Int) (at1:Int) (l1:List (S31)) (c1 b1:Int) (A1:Option Addr) (cc1:Nat),u84= .int .i64 (i:Int)∧Aside0 (gk+i=(kL m0 m3 m4 m5).length∧acc1.length=i)∧Aside0 (b3a V s a gk at1 l1 c1 b1 acc1=some (fq,acc,aq,lq,cq,bq))∧Aside0 (b0h w0 w' g s at1 l1 c1 b1 A1 cc1)∧Aside0 (∀k,(Value.slice A1 l1.length cc1).ownBlock=some k→(some k=(Value.slice A l.length c).ownBlock∨w.heap.size≤k)∧k≠w3.heap.size∧k≠w5.heap.size)∧Aside0 (Kept w w' (fun k=>k=g∨some k=(Value.slice A l.length c).ownBlock))∧Aside0 (l1.length≤80)∧Aside0 (w'.heap[w3.heap.size]? = some (.cells #[.int .i64 m0,.int .i64 m1,.int .i64 m2,.int .i64 m3,.int .i64 m4,.int .i64 m5] 33 (0,0)))∧Aside0 (w'.heap[w5.heap.size]? = some (.cells (xc acc1) 68 (0,0))))
   case atStart=>exact⟨0,[],a3,l,code,bad,A,c,rfl,⟨rfl,rfl⟩,HKQ,⟨HS.out,HR.out,HB.out⟩,HOW,HK,HL,BN,BP⟩
   case round =>
    obtain⟨i,acc1,at1,l1,c1,b1,A1,cc1,rfl,HJ,HKQ,HI,HOW,HK,HL1,BN,BP⟩:=hrel
    by_cases hi:i<(kL m0 m3 m4 m5).length
    ·have t2:decide ((i:Int)<((kL m0 m3 m4 m5).length:Int))=true:=decide_eq_true oM
     obtain⟨gk2,rfl⟩ :∃g2,gk=g2+1:=⟨gk-1,by have:=HJ.out.1;omega⟩
     have hh:=HKQ.out
     unfold b3a at hh
     obtain⟨⟨fg,at2⟩,hg1,hh⟩:=oB hh
     have HG1:=am hg1;have HH:=am hh
     clear hg1 hh HKQ
     go_wp2_with fail
     refine(b4o g s at1 l1 c1 b1 32 fg at2 w0 _ HI.out.1 HI.out.2.2 HG1.out).mono ?_
     rintro e w7 ⟨rfl,hi7,hb7,hk7⟩
     have a7:=am (Kd.YF HI.out.2.1 hk7 (fun _ h=>h))
     have hgh:g≠w3.heap.size:=xR HI.out.1 BN.out (by decide)
     have hgp:g≠w5.heap.size:=xR HI.out.1 BP.out (by decide)
     have BN:=am ((hk7.2 _ (vD BN.out) (fun e=>hgh e.symm) (by simp)).trans BN.out)
     have BP:=am ((hk7.2 _ (vD BP.out) (fun e=>hgp e.symm) (by simp)).trans BP.out)
     have HK:=am (qW HK.out hk7 (.inl (.inl rfl)))
     have HI:=am (show b0h w0 w7 g s at2 l1 c1 b1 A1 cc1 from⟨hi7,a7.out,hb7⟩)
     clear hi7 hb7 hk7 a7
     cases fg with
     | false =>
      have hh:=HH.out
      rw[if_neg (by decide)]at hh
      simp only[Option.some.injEq,Prod.mk.injEq]at hh
      obtain⟨rfl,rfl,rfl,rfl,rfl,rfl⟩:=hh
      have hf:=HF.out
      rw[if_neg (by decide)]at hf
      simp only[Option.some.injEq,Prod.mk.injEq]at hf
      obtain⟨⟨rfl,rfl⟩,rfl,rfl,rfl,rfl⟩:=hf
      go_wp2_with fail
      refine(JSi g s at2 l1 c1 b1 2 a 0 false s at2 2 a w0 w7 HI.out.1 HI.out.2.2 rfl).mono ?_
      rintro e w8 ⟨rfl,hi8,hb8,hk8⟩
      have aA:=am (show b0h w0 w8 g s at2 l1 2 a A1 cc1 from⟨hi8,Kd.YF HI.out.2.1 hk8 (fun _ h=>h),hb8⟩)
      have HK:=am (qW HK.out hk8 (.inl (.inl rfl)))
      clear hi8 hb8 hk8
      go_wp2_with fail
      refine bodyPost_ret (pN (rs:=[.tmp 2,.tmp 3]) rfl (by simp) (.tmp (.tmp .nil))) rfl ?_
      exact⟨rfl,⟨A1,cc1,aA.out,fun k e=>(HOW.out k e).1⟩,HK.out,HL1.out⟩
     | true =>
      have hh:=HH.out
      rw[if_pos rfl]at hh
      obtain⟨⟨⟨pv,okv⟩,at3,l3,c3,b3⟩,hv,hh⟩:=oB hh
      have HVV:=am hv;have HH:=am hh
      clear hv hh
      go_wp2_with fail
      refine(HV.out g at2 l1 c1 b1 pv okv at3 l3 c3 b3 A1 cc1 w0 w7 HI.out HL1.out HVV.out).mono ?_
      rintro e w8 ⟨rfl,⟨A3,cc3,hI8,hO8⟩,hK8,hL8⟩
      have HHN:=am (show w3.heap.size<w7.heap.size from vD BN.out)
      have HPN:=am (show w5.heap.size<w7.heap.size from vD BP.out)
      have HW7:=am (show w.heap.size≤w7.heap.size from HK.out.1)
      have BN:=am (xD BN.out hK8 (fun hs=>by rcases hs with h|h;exact hgh h.symm;exact(HOW.out _ h.symm).2.1 rfl))
      have BP:=am (xD BP.out hK8 (fun hs=>by rcases hs with h|h;exact hgp h.symm;exact(HOW.out _ h.symm).2.2 rfl))
      have HK:=am (HK.out.then_ hK8 (fun k h=>by
       rcases h with h|h
       ·exact .inl (.inl h)
       ·rcases(HOW.out k h.symm).1 with h2|h2
        ·exact .inl (.inr h2)
        ·exact .inr h2))
      have HOW:=am (show ∀k,(Value.slice A3 l3.length cc3).ownBlock=some k→(some k=(Value.slice A l.length c).ownBlock∨w.heap.size≤k)∧k≠w3.heap.size∧k≠w5.heap.size from fun k e=>by
       rcases hO8 k e with h|h
       ·exact HOW.out k h.symm
       ·exact⟨.inr (Nat.le_trans HW7.out h),by have:=HHN.out;omega,by have:=HPN.out;omega⟩)
      have HI:=am hI8;have HL3:=am hL8
      clear hI8 hO8 hK8 hL8
      cases okv with
      | false =>
       have hh:=HH.out
       rw[if_neg (by decide)]at hh
       simp only[Option.some.injEq,Prod.mk.injEq]at hh
       obtain⟨rfl,rfl,rfl,rfl,rfl,rfl⟩:=hh
       have hf:=HF.out
       rw[if_neg (by decide)]at hf
       simp only[Option.some.injEq,Prod.mk.injEq]at hf
       obtain⟨⟨rfl,rfl⟩,rfl,rfl,rfl,rfl⟩:=hf
       go_wp2_with fail
       refine bodyPost_ret (pN (rs:=[.tmp 2,.tmp 3]) rfl (by simp) (.tmp (.tmp .nil))) rfl ?_
       exact⟨rfl,⟨A3,cc3,HI.out,fun k e=>(HOW.out k e).1⟩,HK.out,HL3.out⟩
      | true =>
       have hh:=HH.out
       rw[if_pos rfl]at hh
       have HKQ:=am hh
       clear hh HH
       have hi3:i<3:=by have:=HPL.out;omega
       have t3:decide ((i:Int)<3)=true:=decide_eq_true oM
       obtain⟨xv,hxv⟩:=c6x acc1 i hi3
       have hxx:=(kE BP.out i).trans hxv
       have hfx:=kF BP.out i
       have kk:(0:Int)≤(i:Int)∧(i:Int)<3:=by omega
       have BN:=am (uH (p:=⟨w5.heap.size,i,none⟩) BN.out (by have:=HHP.out;show w3.heap.size≠w5.heap.size;omega) (.int .i64 pv))
       have BP1:=tF BP.out i (.int .i64 pv)
       rw[← HJ.out.2,c6w acc1 pv (by rw[HJ.out.2];exact hi3),HJ.out.2]at BP1
       have BP:=am BP1
       have HI:=am (show b0h w0 (w8.setCell ⟨w5.heap.size,i,none⟩ (.int .i64 pv)) g s at3 l3 c3 b3 A3 cc3 from⟨xS HI.out.1 hgp _,Kd.JC (Kd.JT (p:=⟨w5.heap.size,i,none⟩) (Kd.JC (Kd.JL rfl HI.out.2.1) (ok':=fun k=>k≠g∧k≠w5.heap.size) (fun k e=>⟨HI.out.2.1.1 k e.symm,(HOW.out k e.symm).2.2⟩)) (fun k h=>h.2) (.int .i64 pv)) (fun k h=>h.1),kR HI.out.2.2 HB5.out⟩)
       have HK:=am (HK.out.setCell (p:=⟨w5.heap.size,i,none⟩) (.inr HW5.out) (.int .i64 pv))
       clear BP1 hxv
       go_wp2_with fail
       clear hxx hfx kk t3
       go_roundg gk2
       case measure=>omega
       case rel=>exact⟨i+1,acc1++[pv],at3,l3,c3,b3,A3,cc3,by go_num,⟨by have:=HJ.out.1;omega,by have:=HJ.out.2;simp;omega⟩,HKQ,HI,HOW,HK,HL3,BN,BP⟩
    ·obtain rfl:i=(kL m0 m3 m4 m5).length:=by have:=HJ.out.1;omega
     have hgk:gk=0:=by have:=HJ.out.1;omega
     subst hgk
     have t2:decide (((kL m0 m3 m4 m5).length:Int)<((kL m0 m3 m4 m5).length:Int))=false:=decide_eq_false oM
     have hh:=HKQ.out
     unfold b3a at hh
     simp only[Option.some.injEq,Prod.mk.injEq]at hh
     obtain⟨rfl,rfl,rfl,rfl,rfl,rfl⟩:=hh
     have hf:=HF.out
     rw[if_pos rfl]at hf
     obtain⟨⟨fe,ae⟩,hge,hf⟩:=oB hf
     have HGE:=am hge;have HF:=am hf
     clear hge hf HKQ
     go_wp2_with fail
     refine(b4o g s at1 l1 c1 b1 41 fe ae w0 _ HI.out.1 HI.out.2.2 HGE.out).mono ?_
     rintro e w7 ⟨rfl,hi7,hb7,hk7⟩
     have a7:=am (Kd.YF HI.out.2.1 hk7 (fun _ h=>h))
     have hgh:g≠w3.heap.size:=xR HI.out.1 BN.out (by decide)
     have hgp:g≠w5.heap.size:=xR HI.out.1 BP.out (by decide)
     have BN:=am ((hk7.2 _ (vD BN.out) (fun e=>hgh e.symm) (by simp)).trans BN.out)
     have BP:=am ((hk7.2 _ (vD BP.out) (fun e=>hgp e.symm) (by simp)).trans BP.out)
     have HK:=am (qW HK.out hk7 (.inl (.inl rfl)))
     have HI:=am (show b0h w0 w7 g s ae l1 c1 b1 A1 cc1 from⟨hi7,a7.out,hb7⟩)
     clear hi7 hb7 hk7 a7
     cases fe with
     | false =>
      have hf:=HF.out
      rw[if_neg (by decide)]at hf
      simp only[Option.some.injEq,Prod.mk.injEq]at hf
      obtain⟨⟨rfl,rfl⟩,rfl,rfl,rfl,rfl⟩:=hf
      go_wp2_with fail
      refine(JSi g s ae l1 c1 b1 2 a 0 false s ae 2 a w0 w7 HI.out.1 HI.out.2.2 rfl).mono ?_
      rintro e w8 ⟨rfl,hi8,hb8,hk8⟩
      have aA:=am (show b0h w0 w8 g s ae l1 2 a A1 cc1 from⟨hi8,Kd.YF HI.out.2.1 hk8 (fun _ h=>h),hb8⟩)
      have HK:=am (qW HK.out hk8 (.inl (.inl rfl)))
      clear hi8 hb8 hk8
      go_wp2_with fail
      refine bodyPost_ret (pN (rs:=[.tmp 2,.tmp 3]) rfl (by simp) (.tmp (.tmp .nil))) rfl ?_
      exact⟨rfl,⟨A1,cc1,aA.out,fun k e=>(HOW.out k e).1⟩,HK.out,HL1.out⟩
     | true =>
      have hf:=HF.out
      rw[if_pos rfl]at hf
      obtain⟨⟨wd,wd2,wd3,wd4,wd5⟩,hwd,hf⟩:=oB hf
      have HWD:=am hwd;have HF9:=am hf
      clear hwd hf
      go_wp2_with fail
      obtain⟨r0,r1,r2,r3,r4,r5⟩:=a3d BN.out
      have hz35:=kF BN.out 5
      have hz33:=kF BN.out 3
      have p0:w7.cell? ⟨w5.heap.size,0,none⟩=some (.int .i64 (rd acc1 0)):=(kE BP.out 0).trans rfl
      have p2:w7.cell? ⟨w5.heap.size,2,none⟩=some (.int .i64 (rd acc1 2)):=(kE BP.out 2).trans rfl
      refine vC (n:=8) (S:=fun w'=>w'.cell? ⟨w5.heap.size,0,none⟩=some (.int .i64 (rd acc1 0))∧w'.cell? ⟨w5.heap.size,2,none⟩=some (.int .i64 (rd acc1 2))) (ds:=[]) d3p (by kernel_rfl) rfl rfl ⟨p0,p2⟩ (fun hHeld=>?_)
      refine pS (i:=0) (N:=some 114) d3m ?_
      refine pS (i:=2) (N:=some 116) d3j ?_
      refine qY (i:=1) (N:=some 115) (v:=?_) (a':=?_) d3g rfl rfl (by kernel_rfl) (fun _ _ _ h=>h) (Or.inl ⟨by rfl,?_⟩) hHeld ?_ ?_
      rotate_left
      ·rintro w' ⟨s0,s1⟩
       go_simp
       with_reducible rfl
      rotate_left
      ·simp only[Act.put,List.setIfInBounds_toArray,List.set_cons_zero,List.set_cons_succ,vB,a3w]
       rfl
      refine pS (i:=4) (N:=some 118) d3d ?_
      refine qY (i:=3) (N:=some 117) (v:=?_) (a':=?_) d3a rfl rfl (by kernel_rfl) (fun _ _ _ h=>h) (Or.inl ⟨by rfl,?_⟩) hHeld ?_ ?_
      rotate_left
      ·rintro w' ⟨s0,s1⟩
       go_simp
       with_reducible rfl
      rotate_left
      ·simp only[Act.put,List.setIfInBounds_toArray,List.set_cons_zero,List.set_cons_succ,vB,a3w]
       rfl
      refine a1t (i:=5) (N:=none) d2x rfl rfl (by kernel_rfl) (by decide) (fun K hK=>?_)
      have BN:=am (kW BN.out)
      have BP:=am (kW BP.out)
      refine b0v (w1:=?_) (by rfl) rfl ?_ ?_
      rotate_left
      ·go_simp
       rfl
      have BP:=am (uH (p:=⟨w3.heap.size,3,none⟩) BP.out (by have:=HHP.out;show w5.heap.size≠w3.heap.size;omega) (.int .i64 (rd acc1 0)))
      have BN:=am (show(w7.drew.setCell ⟨w3.heap.size,3,none⟩ (.int .i64 (rd acc1 0))).heap[w3.heap.size]? = some (.cells #[.int .i64 m0,.int .i64 m1,.int .i64 m2,.int .i64 (rd acc1 0),.int .i64 m4,.int .i64 m5] 33 (0,0))from by simpa using tF BN.out 3 (.int .i64 (rd acc1 0)))
      refine hK.out _ _ ⟨((kE BP.out 0).trans rfl),((kE BP.out 2).trans rfl)⟩ (fun hHeld=>?_)
      clear hK K
      refine pS (i:=6) (N:=some 119) d2u ?_
      refine a1t (i:=7) (N:=none) d2r rfl rfl (by kernel_rfl) (by decide) (fun K hK=>?_)
      refine b0v (w1:=?_) (by rfl) rfl ?_ ?_
      rotate_left
      ·go_simp
       rfl
      have BP:=am (uH (p:=⟨w3.heap.size,5,none⟩) BP.out (by have:=HHP.out;show w5.heap.size≠w3.heap.size;omega) (.int .i64 (rd acc1 2)))
      have BN:=am (show((w7.drew.setCell ⟨w3.heap.size,3,none⟩ (.int .i64 (rd acc1 0))).setCell ⟨w3.heap.size,5,none⟩ (.int .i64 (rd acc1 2))).heap[w3.heap.size]? = some (.cells #[.int .i64 m0,.int .i64 m1,.int .i64 m2,.int .i64 (rd acc1 0),.int .i64 m4,.int .i64 (rd acc1 2)] 33 (0,0))from by simpa using tF BN.out 5 (.int .i64 (rd acc1 2)))
      refine hK.out _ _ ⟨((kE BP.out 0).trans rfl),((kE BP.out 2).trans rfl)⟩ (fun hHeld=>?_)
      clear hK K
      refine a1s (by kernel_rfl) ?_
      have HI:=am (show b0h w0 ((w7.setCell ⟨w3.heap.size,3,none⟩ (.int .i64 (rd acc1 0))).setCell ⟨w3.heap.size,5,none⟩ (.int .i64 (rd acc1 2))).drew g s ae l1 c1 b1 A1 cc1 from⟨IsS84.drew (xS (xS HI.out.1 hgh _) hgh _),Kd.JR (Kd.JC (Kd.JT (p:=⟨w3.heap.size,5,none⟩) (Kd.JT (p:=⟨w3.heap.size,3,none⟩) (Kd.JC (Kd.JL rfl HI.out.2.1) (ok':=fun k=>k≠g∧k≠w3.heap.size) (fun k e=>⟨HI.out.2.1.1 k e.symm,(HOW.out k e.symm).2.1⟩)) (fun k h=>h.2) _) (fun k h=>h.2) _) (fun k h=>h.1)),kQ (kR (kR HI.out.2.2 HB3.out) HB3.out)⟩)
      have HK:=am (show Kept w ((w7.setCell ⟨w3.heap.size,3,none⟩ (.int .i64 (rd acc1 0))).setCell ⟨w3.heap.size,5,none⟩ (.int .i64 (rd acc1 2))).drew (fun k=>k=g∨some k=(Value.slice A l.length c).ownBlock)from Kept.drew ((HK.out.setCell (p:=⟨w3.heap.size,3,none⟩) (.inr HW3.out) _).setCell (p:=⟨w3.heap.size,5,none⟩) (.inr HW3.out) _))
      have BN:=am (show((w7.setCell ⟨w3.heap.size,3,none⟩ (.int .i64 (rd acc1 0))).setCell ⟨w3.heap.size,5,none⟩ (.int .i64 (rd acc1 2))).drew.heap[w3.heap.size]? = some (.cells #[.int .i64 m0,.int .i64 m1,.int .i64 m2,.int .i64 (rd acc1 0),.int .i64 m4,.int .i64 (rd acc1 2)] 33 (0,0))from BN.out)
      have BP:=am (show((w7.setCell ⟨w3.heap.size,3,none⟩ (.int .i64 (rd acc1 0))).setCell ⟨w3.heap.size,5,none⟩ (.int .i64 (rd acc1 2))).drew.heap[w5.heap.size]? = some (.cells (xc acc1) 68 (0,0))from BP.out)
      clear r0 r1 r2 r3 r4 r5 hz35 hz33 p0 p2 hHeld
      generalize ((w7.setCell ⟨w3.heap.size,3,none⟩ (.int .i64 (rd acc1 0))).setCell ⟨w3.heap.size,5,none⟩ (.int .i64 (rd acc1 2))).drew=w8 at *
      obtain⟨q0,q1,q2,q3,q4,q5⟩:=a3d BN.out
      obtain⟨qb,hqb⟩ :∃qb,((m0==19) || (m0==20))=qb:=⟨_,rfl⟩
      have HQB:=am hqb
      clear hqb
      go_wp2_with fail
      refine(JJi qb _ (by rw[a0n,HQB.out])).mono ?_
      rintro e w9 ⟨rfl,hd⟩
      have HI:=am (show b0h w0 w9 g s ae l1 c1 b1 A1 cc1 from⟨IsS84.below HI.out.1 hd,Kd.JK HI.out.2.1 hd,HI.out.2.2.trans (hd.mono HI.out.2.2.size)⟩)
      have HK:=am (HK.out.below hd);have BN:=am (kJ BN.out hd);have BP:=am (kJ BP.out hd)
      clear hd q0 q1 q2 q3 q4 q5
      have a0:qH k s ae l1 c1 b1 m0 m1 m2 (rd acc1 0) (if m0=19∨m0=20 then m4 else rd acc1 1) (rd acc1 2)=some (wd,wd2,wd3,wd4,wd5):=HWD.out
      have hf0:some (c2l l1 c1 b1 ⟨m0,wd,m2,rd acc1 0,if m0=19∨m0=20 then m4 else rd acc1 1,rd acc1 2⟩ a ae)=some ((p,ok),a',l',code',bad'):=HF9.out
      obtain⟨e2,e3,e4,e5⟩:=b4c a0
      rw[e2,e3,e4,e5]at a0
      unfold c2l at hf0
      simp only[Option.some.injEq,Prod.mk.injEq]at hf0
      obtain⟨a6,rfl,a5⟩:=hf0
      clear HWD HF9 e2 e3 e4 e5
      cases qb with
      | true =>
       have hB:(if m0=19∨m0=20 then m4 else rd acc1 1)=m4:=if_pos (by have:=HQB.out;simpa using this)
       rw[hB]at a0 a6 a5
       have HWD:=am a0;have HQ:=am (show a5s l1 c1 b1 ⟨m0,wd,m2,rd acc1 0,m4,rd acc1 2⟩ a=((p,ok),l',code',bad')from Prod.ext a6 a5)
       clear a0 a6 a5 hB
       obtain⟨q0,q1,q2,q3,q4,q5⟩:=a3d BN.out
       go_wp2_with fail
       refine(KPi k g s ae l1 c1 b1 m0 m1 m2 (rd acc1 0) m4 (rd acc1 2) wd s ae c1 b1 w0 _ HI.out.1 HI.out.2.2 (Kd.C_foot_own HI.out.2.1 (fun _ h=>h)) HWD.out).mono ?_
       rintro e w10 ⟨rfl,hi,hb,hk⟩
       have a4:=am (Kd.YF HI.out.2.1 hk (fun _ h=>h))
       have BN:=am ((hk.2 _ (vD BN.out) (fun e=>hgh e.symm) (by simp)).trans BN.out)
       have HK:=am (qW HK.out hk (.inl (.inl rfl)))
       have HI:=am (show b0h w0 w10 g s ae l1 c1 b1 A1 cc1 from⟨hi,a4.out,hb⟩)
       clear hi hb hk a4 q0 q1 q2 q3 q4 q5
       have hz1:=kF BN.out 1
       obtain⟨u0,u1,u2,u3,u4,u5⟩:=a3d BN.out
       have HI:=am (show b0h w0 (w10.setCell ⟨w3.heap.size,1,none⟩ (.int .i64 wd)) g s ae l1 c1 b1 A1 cc1 from⟨xS HI.out.1 hgh _,Kd.JC (Kd.JT (p:=⟨w3.heap.size,1,none⟩) (Kd.JC (Kd.JL rfl HI.out.2.1) (ok':=fun k=>k≠g∧k≠w3.heap.size) (fun k e=>⟨HI.out.2.1.1 k e.symm,(HOW.out k e.symm).2.1⟩)) (fun k h=>h.2) _) (fun k h=>h.1),kR HI.out.2.2 HB3.out⟩)
       have HK:=am (HK.out.setCell (p:=⟨w3.heap.size,1,none⟩) (.inr HW3.out) (.int .i64 wd))
       have BN:=am (show(w10.setCell ⟨w3.heap.size,1,none⟩ (.int .i64 wd)).heap[w3.heap.size]? = some (.cells #[.int .i64 m0,.int .i64 wd,.int .i64 m2,.int .i64 (rd acc1 0),.int .i64 m4,.int .i64 (rd acc1 2)] 33 (0,0))from by simpa using tF BN.out 1 (.int .i64 wd))
       obtain⟨q0,q1,q2,q3,q4,q5⟩:=a3d BN.out
       go_wp2_with fail
       refine(KBi g s ae l1 c1 b1 m0 wd m2 (rd acc1 0) m4 (rd acc1 2) a p ok l' code' bad' A1 cc1 w0 _ HI.out HL1.out HQ.out).mono ?_
       rintro e w12 ⟨rfl,⟨A',c',hI,ho⟩,hk⟩
       have a9:=am hI;have HO:=am ho;have a8:=am hk
       clear hI ho hk
       have HLN:=am (show l'.length≤80 from by have:=a4v (code:=c1) (bad:=b1) (n:=⟨m0,wd,m2,rd acc1 0,m4,rd acc1 2⟩) (frm:=a) HL1.out;rw[HQ.out]at this;exact this)
       go_wp2_with fail
       refine bodyPost_ret (pN (rs:=[.tmp 2,.tmp 3]) rfl (by simp) (.tmp (.tmp .nil))) rfl ?_
       refine⟨rfl,⟨A',c',a9.out,fun k e=>?_⟩,HK.out.then_ a8.out (fun k h=>?_),HLN.out⟩
       ·rcases HO.out k e with h|h
        ·exact(HOW.out k h.symm).1
        ·exact .inr (Nat.le_trans HK.out.1 h)
       ·rcases h with h|h
        ·exact .inl (.inl h)
        ·rcases(HOW.out k h.symm).1 with h2|h2
         ·exact .inl (.inr h2)
         ·exact .inr h2
      | false =>
       have hB:(if m0=19∨m0=20 then m4 else rd acc1 1)=rd acc1 1:=if_neg (by have:=HQB.out;simpa using this)
       rw[hB]at a0 a6 a5
       have HWD:=am a0;have HQ:=am (show a5s l1 c1 b1 ⟨m0,wd,m2,rd acc1 0,rd acc1 1,rd acc1 2⟩ a=((p,ok),l',code',bad')from Prod.ext a6 a5)
       clear a0 a6 a5 hB
       have hz4:=kF BN.out 4
       have p1:w9.cell? ⟨w5.heap.size,1,none⟩=some (.int .i64 (rd acc1 1)):=(kE BP.out 1).trans rfl
       obtain⟨u0,u1,u2,u3,u4,u5⟩:=a3d BN.out
       have HI:=am (show b0h w0 (w9.setCell ⟨w3.heap.size,4,none⟩ (.int .i64 (rd acc1 1))) g s ae l1 c1 b1 A1 cc1 from⟨xS HI.out.1 hgh _,Kd.JC (Kd.JT (p:=⟨w3.heap.size,4,none⟩) (Kd.JC (Kd.JL rfl HI.out.2.1) (ok':=fun k=>k≠g∧k≠w3.heap.size) (fun k e=>⟨HI.out.2.1.1 k e.symm,(HOW.out k e.symm).2.1⟩)) (fun k h=>h.2) _) (fun k h=>h.1),kR HI.out.2.2 HB3.out⟩)
       have HK:=am (HK.out.setCell (p:=⟨w3.heap.size,4,none⟩) (.inr HW3.out) (.int .i64 (rd acc1 1)))
       have BN:=am (show(w9.setCell ⟨w3.heap.size,4,none⟩ (.int .i64 (rd acc1 1))).heap[w3.heap.size]? = some (.cells #[.int .i64 m0,.int .i64 m1,.int .i64 m2,.int .i64 (rd acc1 0),.int .i64 (rd acc1 1),.int .i64 (rd acc1 2)] 33 (0,0))from by simpa using tF BN.out 4 (.int .i64 (rd acc1 1)))
       obtain⟨q0,q1,q2,q3,q4,q5⟩:=a3d BN.out
       go_wp2_with fail
       clear u0 u1 u2 u3 u4 u5 p1 hz4
       refine(KPi k g s ae l1 c1 b1 m0 m1 m2 (rd acc1 0) (rd acc1 1) (rd acc1 2) wd s ae c1 b1 w0 _ HI.out.1 HI.out.2.2 (Kd.C_foot_own HI.out.2.1 (fun _ h=>h)) HWD.out).mono ?_
       rintro e w10 ⟨rfl,hi,hb,hk⟩
       have a4:=am (Kd.YF HI.out.2.1 hk (fun _ h=>h))
       have BN:=am ((hk.2 _ (vD BN.out) (fun e=>hgh e.symm) (by simp)).trans BN.out)
       have HK:=am (qW HK.out hk (.inl (.inl rfl)))
       have HI:=am (show b0h w0 w10 g s ae l1 c1 b1 A1 cc1 from⟨hi,a4.out,hb⟩)
       clear hi hb hk a4 q0 q1 q2 q3 q4 q5
       have hz1:=kF BN.out 1
       obtain⟨u0,u1,u2,u3,u4,u5⟩:=a3d BN.out
       have HI:=am (show b0h w0 (w10.setCell ⟨w3.heap.size,1,none⟩ (.int .i64 wd)) g s ae l1 c1 b1 A1 cc1 from⟨xS HI.out.1 hgh _,Kd.JC (Kd.JT (p:=⟨w3.heap.size,1,none⟩) (Kd.JC (Kd.JL rfl HI.out.2.1) (ok':=fun k=>k≠g∧k≠w3.heap.size) (fun k e=>⟨HI.out.2.1.1 k e.symm,(HOW.out k e.symm).2.1⟩)) (fun k h=>h.2) _) (fun k h=>h.1),kR HI.out.2.2 HB3.out⟩)
       have HK:=am (HK.out.setCell (p:=⟨w3.heap.size,1,none⟩) (.inr HW3.out) (.int .i64 wd))
       have BN:=am (show(w10.setCell ⟨w3.heap.size,1,none⟩ (.int .i64 wd)).heap[w3.heap.size]? = some (.cells #[.int .i64 m0,.int .i64 wd,.int .i64 m2,.int .i64 (rd acc1 0),.int .i64 (rd acc1 1),.int .i64 (rd acc1 2)] 33 (0,0))from by simpa using tF BN.out 1 (.int .i64 wd))
       obtain⟨q0,q1,q2,q3,q4,q5⟩:=a3d BN.out
       go_wp2_with fail
       refine(KBi g s ae l1 c1 b1 m0 wd m2 (rd acc1 0) (rd acc1 1) (rd acc1 2) a p ok l' code' bad' A1 cc1 w0 _ HI.out HL1.out HQ.out).mono ?_
       rintro e w12 ⟨rfl,⟨A',c',hI,ho⟩,hk⟩
       have a9:=am hI;have HO:=am ho;have a8:=am hk
       clear hI ho hk
       have HLN:=am (show l'.length≤80 from by have:=a4v (code:=c1) (bad:=b1) (n:=⟨m0,wd,m2,rd acc1 0,(rd acc1 1),rd acc1 2⟩) (frm:=a) HL1.out;rw[HQ.out]at this;exact this)
       go_wp2_with fail
       refine bodyPost_ret (pN (rs:=[.tmp 2,.tmp 3]) rfl (by simp) (.tmp (.tmp .nil))) rfl ?_
       refine⟨rfl,⟨A',c',a9.out,fun k e=>?_⟩,HK.out.then_ a8.out (fun k h=>?_),HLN.out⟩
       ·rcases HO.out k e with h|h
        ·exact(HOW.out k h.symm).1
        ·exact .inr (Nat.le_trans HK.out.1 h)
       ·rcases h with h|h
        ·exact .inl (.inl h)
        ·rcases(HOW.out k h.symm).1 with h2|h2
         ·exact .inl (.inr h2)
         ·exact .inr h2
variable {Ax:Option Addr} {cx:Nat}
def nodeR(k:Nat)(V:RdV)(s:ByteArray):RdV:=fun a l c b=>(goF s a l c b 40).bind fun g=>if g.1=true then b3b k V s g.2 l c b a else b7f k s g.2 l c b a
def nodeF(s:ByteArray):Nat→RdV
 | 0=>fun _ _ _ _=>none
 | n+1=>nodeR (n+1) (nodeF s n) s
theorem YLi(k:Nat)(V:RdV)(s:ByteArray)(hV:b1t s V):b1t s (nodeR k V s):=by
 intro g a l code bad p ok a' l' code' bad' A c w0 w hI hl h
 unfold nodeR at h
 obtain⟨⟨f,a1⟩,hg,h⟩:=oB h
 cases f with
 | true =>
  rw[if_pos rfl]at h
  exact a1l k g V s hV a a1 l code bad p ok a' l' code' bad' A c w0 w hI hl hg h
 | false =>
  rw[if_neg (show ¬(false=true) by decide)]at h
  exact impl_termReader_node.leaf k g s a a1 l code bad p ok a' l' code' bad' A c w0 w hI hl hg h
theorem KJi(s:ByteArray) :∀n,b1t s (nodeF s n)
 | 0=>by
  intro g a l code bad p ok a' l' code' bad' A c w0 w hI hl h
  exact absurd h (by simp[nodeF])
 | n+1=>YLi (n+1) (nodeF s n) s (KJi s n)
@[reducible] def d3o:Array Bool:= #[false,false,false,false,false,false,false,false,false,false,false,false,false]
@[reducible] def d3l:Array Bool:= #[true,false,false,false,false,false,false,false,false,false,false,false,false]
@[reducible] def d3i:Array Bool:= #[true,true,false,false,false,false,false,false,false,false,false,false,false]
@[reducible] def d3f:Array Bool:= #[true,true,true,false,false,false,false,false,false,false,false,false,false]
@[reducible] def d3c:Array Bool:= #[true,true,true,true,false,false,false,false,false,false,false,false,false]
@[reducible] def d2z:Array Bool:= #[true,true,true,true,false,true,false,false,false,false,false,false,false]
@[reducible] def d2w:Array Bool:= #[true,true,true,true,false,true,true,false,false,false,false,false,false]
@[reducible] def d2t:Array Bool:= #[true,true,true,true,false,true,true,true,false,false,false,false,false]
@[reducible] def d2q:Array Bool:= #[true,true,true,true,false,true,true,true,true,false,false,false,false]
@[reducible] def d2o:Array Bool:= #[true,true,true,true,false,true,true,true,true,false,true,false,false]
@[reducible] def c7z:Array Bool:= #[true,true,true,true,true,true,true,true,true,false,true,false,false]
@[reducible] def c7x:Array Bool:= #[true,true,true,true,true,true,true,true,true,false,true,true,false]
@[reducible] def c7w:Array Bool:= #[true,true,true,true,true,true,true,true,true,true,true,true,false]
@[reducible] def c7v:Array Bool:= #[true,true,true,true,true,true,true,true,true,true,true,true,true]
variable {Ax:Option Addr} {cx:Nat}
def b9y(k:Nat)(s:ByteArray):Option (List (S31)×Int×Int) :=
 if(s.size:Int)>4000 then some ([],1,0)else(nodeF s k 0 [] 0 0).bind fun r=>if r.1.2=true then(if r.2.1<(s.size:Int)then some ([],5,r.2.1)else some (r.2.2.1,0,0))else some ([],r.2.2.2.1,r.2.2.2.2)
theorem yN{P:Prop}(h:P:=by
 simp only[Act.put,List.setIfInBounds_toArray,List.set_cons_zero,List.set_cons_succ,vB,a3w]
 rfl):P:=h
theorem c5l{P:Prop}(h:P:=by
 refine a1s (by kernel_rfl) ?_
 go_wp2_with fail
 refine bodyPost_ret (pN (rs:=[.tmp 2,.tmp 3,.tmp 4]) rfl (by simp) (.tmp (.tmp (.tmp .nil)))) rfl ?_
 exact⟨_,rfl,Kd.XM ..,by exact kQ HB.out⟩):P:=h
theorem XPi(k:Nat)(s:ByteArray)(r1:List (S31))(r2 r3:Int)(w:World)(h:b9y k s=some (r1,r2,r3)) :
  Calls Tryz.prog 30 #[.string s] w fun e w' =>∃a0:Value,e= .returned (.tuple #[a0,.int .i64 r2,.int .i64 r3])∧Kd.R k31 33 w' w.heap.size (fun _=>True) a0 r1∧Below w.heap.size w w':=by
 unfold b9y at h
 by_cases hs:(s.size:Int)>4000
 ·rw[if_pos hs]at h
  simp only[Option.some.injEq,Prod.mk.injEq]at h
  obtain⟨rfl,rfl,rfl⟩:=h
  have t1:decide (4000<(s.size:Int))=true:=decide_eq_true hs
  clear hs
  go_enter Tryz.func30,Tryz.ntmps30
  go_wp2_with fail
  refine bodyPost_ret (pN (rs:=[.tmp 2,.tmp 3,.tmp 4]) rfl (by simp) (.tmp (.tmp (.tmp .nil)))) rfl ?_
  exact⟨_,rfl,Kd.XM ..,by exact Below.refl _ _⟩
 rw[if_neg hs]at h
 obtain⟨⟨⟨p,ok⟩,a1,l1,c1,b1⟩,hn,h⟩:=oB h
 have HN:=am hn;have HF:=am h
 have t1:decide (4000<(s.size:Int))=false:=decide_eq_false oM
 clear hn h hs
 go_enter Tryz.func30,Tryz.ntmps30
 go_wp2_with fail
 have hI:b0h w (w.alloc (Obj.cells #[.string s,.int .i64 0,.slice none 0 0,.int .i64 0,.int .i64 0] 81)) w.heap.size s 0 [] 0 0 none 0:=⟨⟨none,0,heap_alloc_new w _,Nat.le_refl _,rfl,rfl⟩,Kd.XM ..,kO (Below.refl _ _) _⟩
 refine(KJi s k w.heap.size 0 [] 0 0 p ok a1 l1 c1 b1 none 0 w _ hI (by simp) HN.out).mono ?_
 rintro e w2 ⟨rfl,⟨A2,c2,hI2,ho⟩,hk,hl⟩
 obtain⟨⟨A3,c3,hbg,hg0,hA,hc⟩,hR,hB⟩:=hI2
 subst hA hc
 have BG:=am hbg;have HR:=am hR;have HB:=am hB
 clear hbg hg0 hR hB ho hk hl hI
 have f1:w2.cell? ⟨w.heap.size,1,none⟩=some (.int .i64 a1):=(kE BG.out 1).trans rfl
 have f2:w2.cell? ⟨w.heap.size,2,none⟩=some (.slice A3 l1.length c3):=(kE BG.out 2).trans rfl
 have f3:w2.cell? ⟨w.heap.size,3,none⟩=some (.int .i64 c1):=(kE BG.out 3).trans rfl
 have f4:w2.cell? ⟨w.heap.size,4,none⟩=some (.int .i64 b1):=(kE BG.out 4).trans rfl
 cases ok with
 | false =>
  have hf:=HF.out
  rw[if_neg (show ¬(false=true) by decide)]at hf
  simp only[Option.some.injEq,Prod.mk.injEq]at hf
  obtain⟨rfl,rfl,rfl⟩:=hf
  go_wp2_with fail
  refine vC (n:=13) (S:=fun w'=>w'.cell? ⟨w.heap.size,3,none⟩=some (.int .i64 c1)∧w'.cell? ⟨w.heap.size,4,none⟩=some (.int .i64 b1)) (ds:=[]) d3o (by kernel_rfl) rfl rfl ⟨f3,f4⟩ (fun hHeld=>?_)
  refine qO (i:=0) (N:=some 21) (v:=?_) (a':=?_) d3l rfl rfl (by kernel_rfl) (fun _ _ _ h=>h) (Or.inl ⟨by rfl,?_⟩) ?_ ?_
  rotate_left
  ·intro w'
   go_simp
   with_reducible rfl
  rotate_left
  ·exact yN
  refine qO (i:=1) (N:=some 22) (v:=?_) (a':=?_) d3i rfl rfl (by kernel_rfl) (fun _ _ _ h=>h) (Or.inl ⟨by rfl,?_⟩) ?_ ?_
  rotate_left
  ·intro w'
   go_simp
   with_reducible rfl
  rotate_left
  ·exact yN
  refine qO (i:=2) (N:=some 23) (v:=?_) (a':=?_) d3f rfl rfl (by kernel_rfl) (fun _ _ _ h=>h) (Or.inl ⟨by rfl,?_⟩) ?_ ?_
  rotate_left
  ·intro w'
   go_simp
   with_reducible rfl
  rotate_left
  ·exact yN
  refine qO (i:=3) (N:=some 24) (v:=?_) (a':=?_) d3c rfl rfl (by kernel_rfl) (fun _ _ _ h=>h) (Or.inl ⟨by rfl,?_⟩) ?_ ?_
  rotate_left
  ·intro w'
   go_simp
   with_reducible rfl
  rotate_left
  ·exact yN
  refine qO (i:=5) (N:=some 26) (v:=?_) (a':=?_) d2z rfl rfl (by kernel_rfl) (fun _ _ _ h=>h) (Or.inl ⟨by rfl,?_⟩) ?_ ?_
  rotate_left
  ·intro w'
   go_simp
   with_reducible rfl
  rotate_left
  ·exact yN
  refine qO (i:=6) (N:=some 27) (v:=?_) (a':=?_) d2w rfl rfl (by kernel_rfl) (fun _ _ _ h=>h) (Or.inl ⟨by rfl,?_⟩) ?_ ?_
  rotate_left
  ·intro w'
   go_simp
   with_reducible rfl
  rotate_left
  ·exact yN
  refine qO (i:=7) (N:=some 28) (v:=?_) (a':=?_) d2t rfl rfl (by kernel_rfl) (fun _ _ _ h=>h) (Or.inl ⟨by rfl,?_⟩) ?_ ?_
  rotate_left
  ·intro w'
   go_simp
   with_reducible rfl
  rotate_left
  ·exact yN
  refine qO (i:=8) (N:=some 29) (v:=?_) (a':=?_) d2q rfl rfl (by kernel_rfl) (fun _ _ _ h=>h) (Or.inl ⟨by rfl,?_⟩) ?_ ?_
  rotate_left
  ·intro w'
   go_simp
   with_reducible rfl
  rotate_left
  ·exact yN
  refine qO (i:=10) (N:=some 2) (v:=?_) (a':=?_) d2o rfl rfl (by kernel_rfl) (fun _ _ _ h=>h) (Or.inl ⟨by rfl,?_⟩) ?_ ?_
  rotate_left
  ·intro w'
   go_simp
   with_reducible rfl
  rotate_left
  ·exact yN
  refine qY (i:=4) (N:=some 25) (v:=?_) (a':=?_) c7z rfl rfl (by kernel_rfl) (fun _ _ _ h=>h) (Or.inl ⟨by rfl,?_⟩) hHeld ?_ ?_
  rotate_left
  ·rintro w' ⟨s0,s1⟩
   go_simp
   with_reducible rfl
  rotate_left
  ·exact yN
  refine qO (i:=11) (N:=some 3) (v:=?_) (a':=?_) c7x rfl rfl (by kernel_rfl) (fun _ _ _ h=>h) (Or.inl ⟨by rfl,?_⟩) ?_ ?_
  rotate_left
  ·intro w'
   go_simp
   with_reducible rfl
  rotate_left
  ·exact yN
  refine qY (i:=9) (N:=some 30) (v:=?_) (a':=?_) c7w rfl rfl (by kernel_rfl) (fun _ _ _ h=>h) (Or.inl ⟨by rfl,?_⟩) hHeld ?_ ?_
  rotate_left
  ·rintro w' ⟨s0,s1⟩
   go_simp
   with_reducible rfl
  rotate_left
  ·exact yN
  refine qO (i:=12) (N:=some 4) (v:=?_) (a':=?_) c7v rfl rfl (by kernel_rfl) (fun _ _ _ h=>h) (Or.inl ⟨by rfl,?_⟩) ?_ ?_
  rotate_left
  ·intro w'
   go_simp
   with_reducible rfl
  rotate_left
  ·exact yN
  exact c5l
 | true =>
  have hf:=HF.out
  rw[if_pos rfl]at hf
  by_cases ha:a1<(s.size:Int)
  rotate_left
  ·have t2:decide (a1<(s.size:Int))=false:=decide_eq_false ha
   rw[if_neg ha]at hf
   simp only[Option.some.injEq,Prod.mk.injEq]at hf
   obtain⟨rfl,rfl,rfl⟩:=hf
   clear ha
   go_wp2_with fail
   refine bodyPost_ret (pN (rs:=[.tmp 2,.tmp 3,.tmp 4]) rfl (by simp) (.tmp (.tmp (.tmp .nil)))) rfl ?_
   exact⟨_,rfl,Kd.JC HR.out (fun _ _=>trivial),HB.out⟩
  have t2:decide (a1<(s.size:Int))=true:=decide_eq_true ha
  rw[if_pos ha]at hf
  simp only[Option.some.injEq,Prod.mk.injEq]at hf
  obtain⟨rfl,rfl,rfl⟩:=hf
  clear ha
  go_wp2_with fail
  refine vC (n:=7) (S:=fun w'=>w'.cell? ⟨w.heap.size,1,none⟩=some (.int .i64 a1)) (ds:=[]) #[false,false,false,false,false,false,false] (by kernel_rfl) rfl rfl (f1) (fun hHeld=>?_)
  refine qO (i:=0) (N:=some 38) (v:=?_) (a':=?_) #[true,false,false,false,false,false,false] rfl rfl (by kernel_rfl) (fun _ _ _ h=>h) (Or.inl ⟨by rfl,?_⟩) ?_ ?_
  rotate_left
  ·intro w'
   go_simp
   with_reducible rfl
  rotate_left
  ·exact yN
  refine qO (i:=1) (N:=some 39) (v:=?_) (a':=?_) #[true,true,false,false,false,false,false] rfl rfl (by kernel_rfl) (fun _ _ _ h=>h) (Or.inl ⟨by rfl,?_⟩) ?_ ?_
  rotate_left
  ·intro w'
   go_simp
   with_reducible rfl
  rotate_left
  ·exact yN
  refine qO (i:=2) (N:=some 40) (v:=?_) (a':=?_) #[true,true,true,false,false,false,false] rfl rfl (by kernel_rfl) (fun _ _ _ h=>h) (Or.inl ⟨by rfl,?_⟩) ?_ ?_
  rotate_left
  ·intro w'
   go_simp
   with_reducible rfl
  rotate_left
  ·exact yN
  refine qO (i:=4) (N:=some 2) (v:=?_) (a':=?_) #[true,true,true,false,true,false,false] rfl rfl (by kernel_rfl) (fun _ _ _ h=>h) (Or.inl ⟨by rfl,?_⟩) ?_ ?_
  rotate_left
  ·intro w'
   go_simp
   with_reducible rfl
  rotate_left
  ·exact yN
  refine qO (i:=5) (N:=some 3) (v:=?_) (a':=?_) #[true,true,true,false,true,true,false] rfl rfl (by kernel_rfl) (fun _ _ _ h=>h) (Or.inl ⟨by rfl,?_⟩) ?_ ?_
  rotate_left
  ·intro w'
   go_simp
   with_reducible rfl
  rotate_left
  ·exact yN
  refine qY (i:=3) (N:=some 41) (v:=?_) (a':=?_) #[true,true,true,true,true,true,false] rfl rfl (by kernel_rfl) (fun _ _ _ h=>h) (Or.inl ⟨by rfl,?_⟩) hHeld ?_ ?_
  rotate_left
  ·intro w' s0
   go_simp
   with_reducible rfl
  rotate_left
  ·exact yN
  refine qO (i:=6) (N:=some 4) (v:=?_) (a':=?_) #[true,true,true,true,true,true,true] rfl rfl (by kernel_rfl) (fun _ _ _ h=>h) (Or.inl ⟨by rfl,?_⟩) ?_ ?_
  rotate_left
  ·intro w'
   go_simp
   with_reducible rfl
  rotate_left
  ·exact yN
  exact c5l
variable {Ax:Option Addr} {cx:Nat}
def xL(k:Nat)(l0:List (S31)):Option (List (S31)) :=
 (xK k l0).bind fun t=>if t.2=true then(b9y k t.1).bind fun r=>some r.1 else some []
theorem KVi{k:Nat}{A0:Option Addr}{c0:Nat}{l0 r:List (S31)}{w:World}(hr0:Kd.C k31 w A0 l0.length l0)(hc0:l0.length≤c0)(h:xL k l0=some r) :
  Calls Tryz.prog 10 #[.slice A0 l0.length c0] w fun e w' =>∃a0:Value,e= .returned (a0)∧Kd.R k31 33 w' w.heap.size (fun _=>True) a0 r∧Below w.heap.size w w':=by
 unfold xL at h
 obtain⟨⟨s,ok⟩,hs,h⟩:=oB h
 have a1:=am hr0;have a2:=am hc0;have HS:=am hs;have HF:=am h
 clear hr0 hc0 hs h
 go_enter Tryz.func10,Tryz.ntmps10
 go_wp2_with fail
 refine(YPi k A0 c0 l0 s ok w a1.out a2.out HS.out).mono ?_
 rintro e w1 ⟨rfl,hb⟩
 have HB:=am hb
 clear hb
 cases ok with
 | false =>
  have hf:=HF.out
  rw[if_neg (show ¬(false=true) by decide)]at hf
  obtain rfl:=oI hf
  go_wp2_with fail
  go_ret
  exact⟨_,rfl,Kd.XM ..,HB.out⟩
 | true =>
  have hf:=HF.out
  rw[if_pos rfl]at hf
  obtain⟨⟨r1,r2,r3⟩,hr,hf⟩:=oB hf
  obtain rfl:=oI hf
  have HR:=am hr
  clear hr hf
  go_wp2_with fail
  refine(XPi k s r1 r2 r3 _ HR.out).mono ?_
  rintro e w2 ⟨v0,rfl,hR,hb⟩
  have HO:=am (Kd.JF hR HB.out.size);have HB:=am (HB.out.trans (hb.mono HB.out.size))
  clear hR hb
  go_wp2_with fail
  go_ret
  exact⟨_,rfl,HO.out,HB.out⟩
end
def a4u(g:Int→Int)(n:S31):S31:=⟨n.f0,n.f1,n.f2,if 0<(kL n.f0 n.f3 n.f4 n.f5).length then g n.f3 else n.f3,if 1<(kL n.f0 n.f3 n.f4 n.f5).length then g n.f4 else n.f4,if 2<(kL n.f0 n.f3 n.f4 n.f5).length then g n.f5 else n.f5⟩
theorem b0e{w:World}{g T:Nat}{a b c d e f:Int}(h:w.heap[g]? = some (.cells #[.int .i64 a,.int .i64 b,.int .i64 c,.int .i64 d,.int .i64 e,.int .i64 f] T (0,0))) :
  (w.cell? ⟨g,0,none⟩=some (.int .i64 a)∧w.cell? ⟨g,1,none⟩=some (.int .i64 b)∧w.cell? ⟨g,2,none⟩=some (.int .i64 c)∧w.cell? ⟨g,3,none⟩=some (.int .i64 d)∧w.cell? ⟨g,4,none⟩=some (.int .i64 e)∧w.cell? ⟨g,5,none⟩=some (.int .i64 f))∧
  (w.frozen? ⟨g,0,none⟩=false∧w.frozen? ⟨g,1,none⟩=false∧w.frozen? ⟨g,2,none⟩=false∧w.frozen? ⟨g,3,none⟩=false∧w.frozen? ⟨g,4,none⟩=false∧w.frozen? ⟨g,5,none⟩=false) :=
 ⟨⟨(kE h 0).trans rfl,(kE h 1).trans rfl,(kE h 2).trans rfl,(kE h 3).trans rfl,(kE h 4).trans rfl,(kE h 5).trans rfl⟩,kF h 0,kF h 1,kF h 2,kF h 3,kF h 4,kF h 5⟩
theorem b5m{P:Prop}(h:P:=by
 exact kR (kR (kR (kR (kR (kR HB.out oM) oM) oM) oM) oM) oM):P:=h
theorem YTi(F:Nat)(cp:Array Value)(g:Int→Int)(ok:Int→Prop)(op W K A B C:Int)(w:World)(eg :∀args w,(callFunc F args).run Tryz.prog w= .ok (.enter F args) w)
  (hp :∀(W':World) (i:Int),Below w.heap.size w W'→ok i→Calls Tryz.prog F (#[.int .i64 i]++cp) W' fun e w'=>e= .returned (.int .i64 (g i))∧Below W'.heap.size W' w') (hok :∀p∈kL op A B C,ok p) (A' B' C':Int) (hA:A'=if 0<(kL op A B C).length then g A else A) (hB:B'=if 1<(kL op A B C).length then g B else B) (hC:C'=if 2<(kL op A B C).length then g C else C) :
  Calls Tryz.prog 49 #[.agg #[.int .i64 op,.int .i64 W,.int .i64 K,.int .i64 A,.int .i64 B,.int .i64 C],.func (.func F) #[] cp] w fun e w' =>
   e= .returned (.agg #[.int .i64 op,.int .i64 W,.int .i64 K,.int .i64 A',.int .i64 B',.int .i64 C'])∧Below w.heap.size w w':=by
 have HP:=am hp
 clear hp
 have h3:1≤(kL op A B C).length→A∈kL op A B C:=by unfold kL;split<;>(try split)<;>(try split)<;>simp
 have h4:2≤(kL op A B C).length→B∈kL op A B C:=by unfold kL;split<;>(try split)<;>(try split)<;>simp
 have h5:3≤(kL op A B C).length→C∈kL op A B C:=by unfold kL;split<;>(try split)<;>(try split)<;>simp
 have H3:=am (fun h=>hok _ (h3 h));have H4:=am (fun h=>hok _ (h4 h));have H5:=am (fun h=>hok _ (h5 h))
 have hps3:=qF op A B C
 have HA:=am hA;have HBB:=am hB;have HC:=am hC
 clear h3 h4 h5 hok hA hB hC
 go_enter Tryz.func49,Tryz.ntmps49
 go_wp2_with fail
 have bk0:=heap_alloc_new w (Obj.cells #[Value.int .i64 op,Value.int .i64 W,Value.int .i64 K,Value.int .i64 A,Value.int .i64 B,Value.int .i64 C] 33)
 refine(JIi 1 _ _ _ _ _ _ _ _ (a6a _ _ _ _ _ _ oM)).mono ?_
 rintro e w2 ⟨v0,rfl,HO,hb⟩
 obtain⟨A5,c5,rfl,_,_⟩:=Kd.YL HO
 have bk:=kJ (oZ bk0 (Obj.cells #[Value.int .i64 0,Value.int .i64 0,Value.int .i64 0,Value.int .i64 0,Value.int .i64 0,Value.int .i64 0] 33)) hb
 have bz:=kJ (heap_alloc_new (w.alloc (Obj.cells #[Value.int .i64 op,Value.int .i64 W,Value.int .i64 K,Value.int .i64 A,Value.int .i64 B,Value.int .i64 C] 33)) (Obj.cells #[Value.int .i64 0,Value.int .i64 0,Value.int .i64 0,Value.int .i64 0,Value.int .i64 0,Value.int .i64 0] 33)) hb
 rw[show(w.alloc (Obj.cells #[Value.int .i64 op,Value.int .i64 W,Value.int .i64 K,Value.int .i64 A,Value.int .i64 B,Value.int .i64 C] 33)).heap.size=w.heap.size+1 from by simp]at bz
 have BK:=am bk;have BZ:=am bz
 have HB:=am (show Below w.heap.size w w2 from Below.trans (kO (kO (Below.refl _ _) _) _) (hb.mono (by simp;omega)))
 have GN :∀w':World,Below w.heap.size w w'→w.heap.size≤w.heap.size:=fun _ _=>Nat.le_refl _
 clear GN bk bz bk0 HO hb
 obtain⟨m,hm⟩ :∃m,(kL op A B C).length=m:=⟨_,rfl⟩
 rw[hm]at hps3 H3 H4 H5 HA HBB HC
 try rw[hm]
 have hm':m=0∨m=1∨m=2∨m=3:=by omega
 have HM:=am hm
 clear hm hps3
 rcases hm' with rfl|rfl|rfl|rfl
 ·obtain⟨⟨q0,q1,q2,q3,q4,q5⟩,f0,f1,f2,f3,f4,f5⟩:=b0e BK.out
  obtain⟨⟨z0,z1,z2,z3,z4,z5⟩,y0,y1,y2,y3,y4,y5⟩:=b0e BZ.out
  go_wp2_with fail
  clear q0 q1 q2 q3 q4 q5 f0 f1 f2 f3 f4 f5 z0 z1 z2 z3 z4 z5 y0 y1 y2 y3 y4 y5
  have bz1:=pB (cs':= #[.int .i64 op,.int .i64 0,.int .i64 0,.int .i64 0,.int .i64 0,.int .i64 0]) BZ.out 0 (.int .i64 op) rfl
  have bz2:=pB (cs':= #[.int .i64 op,.int .i64 W,.int .i64 0,.int .i64 0,.int .i64 0,.int .i64 0]) bz1 1 (.int .i64 W) rfl
  have bz3:=pB (cs':= #[.int .i64 op,.int .i64 W,.int .i64 K,.int .i64 0,.int .i64 0,.int .i64 0]) bz2 2 (.int .i64 K) rfl
  have bz4:=pB (cs':= #[.int .i64 op,.int .i64 W,.int .i64 K,.int .i64 A,.int .i64 0,.int .i64 0]) bz3 3 (.int .i64 A) rfl
  have bz5:=pB (cs':= #[.int .i64 op,.int .i64 W,.int .i64 K,.int .i64 A,.int .i64 B,.int .i64 0]) bz4 4 (.int .i64 B) rfl
  have bz6:=pB (cs':= #[.int .i64 op,.int .i64 W,.int .i64 K,.int .i64 A,.int .i64 B,.int .i64 C]) bz5 5 (.int .i64 C) rfl
  refine bodyPost_ret (results_cell_row rfl _ _ (w.heap.size+1) 33 #[.int .i64 op,.int .i64 W,.int .i64 K,.int .i64 A,.int .i64 B,.int .i64 C] (0,0) _ rfl bz6 Tryz.underlying33 rfl (by kernel_rfl)) rfl ⟨?_,?_⟩
  ·rw[show A'=A from HA.out,show B'=B from HBB.out,show C'=C from HC.out]
  exact b5m
 ·obtain⟨⟨q0,q1,q2,q3,q4,q5⟩,f0,f1,f2,f3,f4,f5⟩:=b0e BK.out
  obtain⟨⟨z0,z1,z2,z3,z4,z5⟩,y0,y1,y2,y3,y4,y5⟩:=b0e BZ.out
  go_wp2_with fail
  clear q0 q1 q2 q3 q4 q5 f0 f1 f2 f3 f4 f5 z0 z1 z2 z3 z4 z5 y0 y1 y2 y3 y4 y5
  refine(HP.out _ A HB.out (H3.out oM)).mono ?_
  rintro e w3 ⟨rfl,hb⟩
  have BK:=am (kJ BK.out hb)
  have BZ:=am (kJ BZ.out hb)
  have HB:=am (HB.out.trans (hb.mono HB.out.size))
  clear hb
  obtain⟨⟨q0,q1,q2,q3,q4,q5⟩,f0,f1,f2,f3,f4,f5⟩:=b0e BK.out
  obtain⟨⟨z0,z1,z2,z3,z4,z5⟩,y0,y1,y2,y3,y4,y5⟩:=b0e BZ.out
  go_wp2_with fail
  clear q0 q1 q2 q3 q4 q5 f0 f1 f2 f3 f4 f5 z0 z1 z2 z3 z4 z5 y0 y1 y2 y3 y4 y5
  have BZ:=am (uH (p:=⟨w.heap.size,3,none⟩) BZ.out (by simp) (.int .i64 (g A)))
  have HB:=am (kR (g:=w.heap.size) (j:=3) (v:= .int .i64 (g A)) HB.out (Nat.le_refl _))
  have bz1:=pB (cs':= #[.int .i64 op,.int .i64 0,.int .i64 0,.int .i64 0,.int .i64 0,.int .i64 0]) BZ.out 0 (.int .i64 op) rfl
  have bz2:=pB (cs':= #[.int .i64 op,.int .i64 W,.int .i64 0,.int .i64 0,.int .i64 0,.int .i64 0]) bz1 1 (.int .i64 W) rfl
  have bz3:=pB (cs':= #[.int .i64 op,.int .i64 W,.int .i64 K,.int .i64 0,.int .i64 0,.int .i64 0]) bz2 2 (.int .i64 K) rfl
  have bz4:=pB (cs':= #[.int .i64 op,.int .i64 W,.int .i64 K,.int .i64 (g A),.int .i64 0,.int .i64 0]) bz3 3 (.int .i64 (g A)) rfl
  have bz5:=pB (cs':= #[.int .i64 op,.int .i64 W,.int .i64 K,.int .i64 (g A),.int .i64 B,.int .i64 0]) bz4 4 (.int .i64 B) rfl
  have bz6:=pB (cs':= #[.int .i64 op,.int .i64 W,.int .i64 K,.int .i64 (g A),.int .i64 B,.int .i64 C]) bz5 5 (.int .i64 C) rfl
  refine bodyPost_ret (results_cell_row rfl _ _ (w.heap.size+1) 33 #[.int .i64 op,.int .i64 W,.int .i64 K,.int .i64 (g A),.int .i64 B,.int .i64 C] (0,0) _ rfl bz6 Tryz.underlying33 rfl (by kernel_rfl)) rfl ⟨?_,?_⟩
  ·rw[show A'=(g A)from HA.out,show B'=B from HBB.out,show C'=C from HC.out]
  exact b5m
 ·obtain⟨⟨q0,q1,q2,q3,q4,q5⟩,f0,f1,f2,f3,f4,f5⟩:=b0e BK.out
  obtain⟨⟨z0,z1,z2,z3,z4,z5⟩,y0,y1,y2,y3,y4,y5⟩:=b0e BZ.out
  go_wp2_with fail
  clear q0 q1 q2 q3 q4 q5 f0 f1 f2 f3 f4 f5 z0 z1 z2 z3 z4 z5 y0 y1 y2 y3 y4 y5
  refine(HP.out _ A HB.out (H3.out oM)).mono ?_
  rintro e w3 ⟨rfl,hb⟩
  have BK:=am (kJ BK.out hb)
  have BZ:=am (kJ BZ.out hb)
  have HB:=am (HB.out.trans (hb.mono HB.out.size))
  clear hb
  obtain⟨⟨q0,q1,q2,q3,q4,q5⟩,f0,f1,f2,f3,f4,f5⟩:=b0e BK.out
  obtain⟨⟨z0,z1,z2,z3,z4,z5⟩,y0,y1,y2,y3,y4,y5⟩:=b0e BZ.out
  go_wp2_with fail
  clear q0 q1 q2 q3 q4 q5 f0 f1 f2 f3 f4 f5 z0 z1 z2 z3 z4 z5 y0 y1 y2 y3 y4 y5
  have BK:=am (pB (cs':= #[.int .i64 op,.int .i64 W,.int .i64 K,.int .i64 (g A),.int .i64 B,.int .i64 C]) BK.out 3 (.int .i64 (g A)) rfl)
  have BZ:=am (uH (p:=⟨w.heap.size,3,none⟩) BZ.out (by simp) (.int .i64 (g A)))
  have HB:=am (kR (g:=w.heap.size) (j:=3) (v:= .int .i64 (g A)) HB.out (Nat.le_refl _))
  refine(HP.out _ B HB.out (H4.out oM)).mono ?_
  rintro e w4 ⟨rfl,hb⟩
  have BK:=am (kJ BK.out hb)
  have BZ:=am (kJ BZ.out hb)
  have HB:=am (HB.out.trans (hb.mono HB.out.size))
  clear hb
  obtain⟨⟨q0,q1,q2,q3,q4,q5⟩,f0,f1,f2,f3,f4,f5⟩:=b0e BK.out
  obtain⟨⟨z0,z1,z2,z3,z4,z5⟩,y0,y1,y2,y3,y4,y5⟩:=b0e BZ.out
  go_wp2_with fail
  clear q0 q1 q2 q3 q4 q5 f0 f1 f2 f3 f4 f5 z0 z1 z2 z3 z4 z5 y0 y1 y2 y3 y4 y5
  have BZ:=am (uH (p:=⟨w.heap.size,4,none⟩) BZ.out (by simp) (.int .i64 (g B)))
  have HB:=am (kR (g:=w.heap.size) (j:=4) (v:= .int .i64 (g B)) HB.out (Nat.le_refl _))
  have bz1:=pB (cs':= #[.int .i64 op,.int .i64 0,.int .i64 0,.int .i64 0,.int .i64 0,.int .i64 0]) BZ.out 0 (.int .i64 op) rfl
  have bz2:=pB (cs':= #[.int .i64 op,.int .i64 W,.int .i64 0,.int .i64 0,.int .i64 0,.int .i64 0]) bz1 1 (.int .i64 W) rfl
  have bz3:=pB (cs':= #[.int .i64 op,.int .i64 W,.int .i64 K,.int .i64 0,.int .i64 0,.int .i64 0]) bz2 2 (.int .i64 K) rfl
  have bz4:=pB (cs':= #[.int .i64 op,.int .i64 W,.int .i64 K,.int .i64 (g A),.int .i64 0,.int .i64 0]) bz3 3 (.int .i64 (g A)) rfl
  have bz5:=pB (cs':= #[.int .i64 op,.int .i64 W,.int .i64 K,.int .i64 (g A),.int .i64 (g B),.int .i64 0]) bz4 4 (.int .i64 (g B)) rfl
  have bz6:=pB (cs':= #[.int .i64 op,.int .i64 W,.int .i64 K,.int .i64 (g A),.int .i64 (g B),.int .i64 C]) bz5 5 (.int .i64 C) rfl
  refine bodyPost_ret (results_cell_row rfl _ _ (w.heap.size+1) 33 #[.int .i64 op,.int .i64 W,.int .i64 K,.int .i64 (g A),.int .i64 (g B),.int .i64 C] (0,0) _ rfl bz6 Tryz.underlying33 rfl (by kernel_rfl)) rfl ⟨?_,?_⟩
  ·rw[show A'=(g A)from HA.out,show B'=(g B)from HBB.out,show C'=C from HC.out]
  exact b5m
 obtain⟨⟨q0,q1,q2,q3,q4,q5⟩,f0,f1,f2,f3,f4,f5⟩:=b0e BK.out
 obtain⟨⟨z0,z1,z2,z3,z4,z5⟩,y0,y1,y2,y3,y4,y5⟩:=b0e BZ.out
 go_wp2_with fail
 clear q0 q1 q2 q3 q4 q5 f0 f1 f2 f3 f4 f5 z0 z1 z2 z3 z4 z5 y0 y1 y2 y3 y4 y5
 refine(HP.out _ A HB.out (H3.out oM)).mono ?_
 rintro e w3 ⟨rfl,hb⟩
 have BK:=am (kJ BK.out hb)
 have BZ:=am (kJ BZ.out hb)
 have HB:=am (HB.out.trans (hb.mono HB.out.size))
 clear hb
 obtain⟨⟨q0,q1,q2,q3,q4,q5⟩,f0,f1,f2,f3,f4,f5⟩:=b0e BK.out
 obtain⟨⟨z0,z1,z2,z3,z4,z5⟩,y0,y1,y2,y3,y4,y5⟩:=b0e BZ.out
 go_wp2_with fail
 clear q0 q1 q2 q3 q4 q5 f0 f1 f2 f3 f4 f5 z0 z1 z2 z3 z4 z5 y0 y1 y2 y3 y4 y5
 have BK:=am (pB (cs':= #[.int .i64 op,.int .i64 W,.int .i64 K,.int .i64 (g A),.int .i64 B,.int .i64 C]) BK.out 3 (.int .i64 (g A)) rfl)
 have BZ:=am (uH (p:=⟨w.heap.size,3,none⟩) BZ.out (by simp) (.int .i64 (g A)))
 have HB:=am (kR (g:=w.heap.size) (j:=3) (v:= .int .i64 (g A)) HB.out (Nat.le_refl _))
 refine(HP.out _ B HB.out (H4.out oM)).mono ?_
 rintro e w4 ⟨rfl,hb⟩
 have BK:=am (kJ BK.out hb)
 have BZ:=am (kJ BZ.out hb)
 have HB:=am (HB.out.trans (hb.mono HB.out.size))
 clear hb
 obtain⟨⟨q0,q1,q2,q3,q4,q5⟩,f0,f1,f2,f3,f4,f5⟩:=b0e BK.out
 obtain⟨⟨z0,z1,z2,z3,z4,z5⟩,y0,y1,y2,y3,y4,y5⟩:=b0e BZ.out
 go_wp2_with fail
 clear q0 q1 q2 q3 q4 q5 f0 f1 f2 f3 f4 f5 z0 z1 z2 z3 z4 z5 y0 y1 y2 y3 y4 y5
 have BK:=am (pB (cs':= #[.int .i64 op,.int .i64 W,.int .i64 K,.int .i64 (g A),.int .i64 (g B),.int .i64 C]) BK.out 4 (.int .i64 (g B)) rfl)
 have BZ:=am (uH (p:=⟨w.heap.size,4,none⟩) BZ.out (by simp) (.int .i64 (g B)))
 have HB:=am (kR (g:=w.heap.size) (j:=4) (v:= .int .i64 (g B)) HB.out (Nat.le_refl _))
 refine(HP.out _ C HB.out (H5.out oM)).mono ?_
 rintro e w5 ⟨rfl,hb⟩
 have BK:=am (kJ BK.out hb)
 have BZ:=am (kJ BZ.out hb)
 have HB:=am (HB.out.trans (hb.mono HB.out.size))
 clear hb
 obtain⟨⟨q0,q1,q2,q3,q4,q5⟩,f0,f1,f2,f3,f4,f5⟩:=b0e BK.out
 obtain⟨⟨z0,z1,z2,z3,z4,z5⟩,y0,y1,y2,y3,y4,y5⟩:=b0e BZ.out
 go_wp2_with fail
 clear q0 q1 q2 q3 q4 q5 f0 f1 f2 f3 f4 f5 z0 z1 z2 z3 z4 z5 y0 y1 y2 y3 y4 y5
 have BZ:=am (uH (p:=⟨w.heap.size,5,none⟩) BZ.out (by simp) (.int .i64 (g C)))
 have HB:=am (kR (g:=w.heap.size) (j:=5) (v:= .int .i64 (g C)) HB.out (Nat.le_refl _))
 have bz1:=pB (cs':= #[.int .i64 op,.int .i64 0,.int .i64 0,.int .i64 0,.int .i64 0,.int .i64 0]) BZ.out 0 (.int .i64 op) rfl
 have bz2:=pB (cs':= #[.int .i64 op,.int .i64 W,.int .i64 0,.int .i64 0,.int .i64 0,.int .i64 0]) bz1 1 (.int .i64 W) rfl
 have bz3:=pB (cs':= #[.int .i64 op,.int .i64 W,.int .i64 K,.int .i64 0,.int .i64 0,.int .i64 0]) bz2 2 (.int .i64 K) rfl
 have bz4:=pB (cs':= #[.int .i64 op,.int .i64 W,.int .i64 K,.int .i64 (g A),.int .i64 0,.int .i64 0]) bz3 3 (.int .i64 (g A)) rfl
 have bz5:=pB (cs':= #[.int .i64 op,.int .i64 W,.int .i64 K,.int .i64 (g A),.int .i64 (g B),.int .i64 0]) bz4 4 (.int .i64 (g B)) rfl
 have bz6:=pB (cs':= #[.int .i64 op,.int .i64 W,.int .i64 K,.int .i64 (g A),.int .i64 (g B),.int .i64 (g C)]) bz5 5 (.int .i64 (g C)) rfl
 refine bodyPost_ret (results_cell_row rfl _ _ (w.heap.size+1) 33 #[.int .i64 op,.int .i64 W,.int .i64 K,.int .i64 (g A),.int .i64 (g B),.int .i64 (g C)] (0,0) _ rfl bz6 Tryz.underlying33 rfl (by kernel_rfl)) rfl ⟨?_,?_⟩
 ·rw[show A'=(g A)from HA.out,show B'=(g B)from HBB.out,show C'=(g C)from HC.out]
 exact b5m
def uF(l:List (S31))(met:List Bool):Nat→List Int×List (S31)
 | 0=>(List.replicate l.length 0,[])
 | i+1=>if met.getD i false=true then((uF l met i).1.set i ((uF l met i).2.length:Int),(uF l met i).2++[a4u (fun p=>rd ((uF l met i).1.set i ((uF l met i).2.length:Int)) p) (kA l (i:Int))])else uF l met i
theorem a8g(l:List (S31))(met:List Bool)(i:Nat):(uF l met i).1.length=l.length∧(uF l met i).2.length≤i:=by
 induction i with
 | zero=>simp[uF]
 | succ i ih =>
  unfold uF
  split
  ·simp[ih.1,ih.2]
  ·exact⟨ih.1,oM⟩
def a6n(l:List (S31)):Bool:=(List.range l.length).all fun i=>(kL (kA l (i:Int)).f0 (kA l (i:Int)).f3 (kA l (i:Int)).f4 (kA l (i:Int)).f5).all fun p=>inB p 0 ((l.length:Int)-1)
theorem XTi{i:Int}{w:World}:Calls Tryz.prog 26 #[.int .i64 i] w fun e w'=>e= .returned (.int .i64 i)∧w'=w:=by
 go_enter Tryz.func26,Tryz.ntmps26
 go_wp2
 go_ret
 exact⟨rfl,rfl⟩
theorem YWi(ad:Addr)(c:Nat)(ats:List Int)(p:Int)(g1 g2:Nat)(w:World)(hc:w.cell? (ad.add p.toNat)=some (.int .i64 (rd ats p)))
  (b1:w.cell? ⟨g1,0,none⟩=some (.slice (some ad) ats.length c)) (b2:w.cell? ⟨g2,0,none⟩=some (.func (.func 26) #[] #[])) (p0:0≤p) (p1:p<(ats.length:Int)) :
  Calls Tryz.prog 50 #[.int .i64 p,.pointer (some ⟨g1,0,none⟩),.pointer (some ⟨g2,0,none⟩)] w fun e w'=>e= .returned (.int .i64 (rd ats p))∧Below w.heap.size w w':=by
 have t1:decide (0≤p)=true:=decide_eq_true p0
 have t2:decide (p<(ats.length:Int))=true:=decide_eq_true p1
 generalize rd ats p=x at *
 go_enter Tryz.func50,Tryz.ntmps50
 go_wp2_with fail
 go_quiet ((go_at_call 26;exact Calls.quiet_of_same (XTi)))
 go_wp2
 go_ret
 exact⟨rfl,kM (Below.refl _ _) _⟩
theorem c4u{P:Prop}(h:P:=by
 clear hn
 go_roundg g1
 case measure=>omega
 case rel =>
  refine⟨j+1,by go_num,⟨by have:=HG.out;omega⟩,⟨?_⟩,⟨?_⟩,BP,BA,HB⟩
  ·rw[h1];exact RA.out
  rw[h2];exact RO.out):P:=h
theorem XMi(A0:Option Addr)(c0:Nat)(l0:List (S31))(A1:Option Addr)(c1:Nat)(met:List Bool)(w:World)(hr0:Kd.C k31 w A0 l0.length l0)(hc0:l0.length≤c0)(hr1:Kd.C Kd.bool w A1 met.length met)(hc1:met.length≤c1)(hl:l0.length≤1048576)(hm:met.length=l0.length)(hp:a6n l0=true) :
  Calls Tryz.prog 24 #[.slice A0 l0.length c0,.slice A1 met.length c1,.func (.func 26) #[] #[]] w fun e w' =>∃a0:Value,e= .returned a0∧Kd.R k31 33 w' w.heap.size (fun _=>True) a0 (uF l0 met l0.length).2∧Below w.heap.size w w':=by
 have hl0:(l0.length:Int)≤1048576:=by omega
 have hc3:(0:Int)≤(l0.length:Int):=by omega
 have d3:decide (0≤(l0.length:Int))=true:=decide_eq_true hc3
 have a3:=am hr0;have aA:=am hc0;have a2:=am hr1;have a9:=am hc1;have HL:=am hl;have HMM:=am hm;have HP:=am hp
 clear hr0 hc0 hr1 hc1 hl hm hp hc3
 go_enter Tryz.func24,Tryz.ntmps24
 go_wp2_with (first
  | ((with_reducible refine pU (N:=13) rfl ?_);refine Kd.XG (Kd.int .i64) (w0:=w) w.heap.size 3 rfl (N:=13) rfl 25 _ _ rfl (l0.length:Int) rfl rfl Tryz.underlying25 (.int .i64 0) 8 a4h rfl (by decide) oM 0 (ok:=fun k=>k≠w.heap.size) (okp:=fun _=>False) rfl (fun _ hk=>hk.elim) (by simp) oM (by have:=HL.out;omega) (kO (Below.refl _ _) _) (by simp) ?_;intro a6 w3 ho hb hg hnew;obtain⟨Aat,cat,ev⟩:=Kd.JB ho;rw[List.length_replicate,Int.toNat_natCast]at ev;subst ev;rw[Int.toNat_natCast]at ho;have RA:=am (Kd.JC (Kd.YB ho) (fun k hk=>(⟨hk.1,hk.2.2.1⟩:k≠w.heap.size∧k<w3.heap.size)));have HB:=am hb;have BP:=am (qT (heap_alloc_new w (Obj.cells #[Value.func (.func 26) #[] #[]] 52)) hg (by simp));have HN:=am hnew;have HS3:=am (show w.heap.size<w3.heap.size from by have:=hg.size;simp at this;omega);clear ho hb hg hnew)
  | ((with_reducible refine pU (N:=14) rfl ?_);refine Kd.YC k31 w.heap.size 33 rfl (N:=14) rfl (xs:=([]:List (S31))) (inner:=[]) (w0:=w) (ok:=fun k=>w3.heap.size<k) (okp:=fun _=>False) (by go_simp) (Reps.none _ _) (fun _ hk=>hk.elim) (by simp) (kO HB.out _) (by have:=HS3.out;simp;omega) (by simp) ?_;intro a5 w4 ho hb hg hnew;have RO:=am ho;have RA:=am (Kd.XD (Kd.YT RA.out (Obj.cells #[Value.slice Aat l0.length cat] 25)) (fun k _ hk=>hg.block k hk (by simp)));have BP:=am (qT (oZ BP.out _) hg (by simp));have BA:=am (qT (heap_alloc_new w3 (Obj.cells #[Value.slice Aat l0.length cat] 25)) hg (by simp));have HB:=am hb;clear ho hb hg hnew))
 have hz:uF l0 met 0=(List.replicate l0.length 0,[]):=rfl
 go_loopg [8,17] l0.length (fun g v8 a1 w' =>∃j:Nat,a1= .int .i64 (j:Int)∧Aside0 (g+j=l0.length)∧Aside0 (Kd.R (Kd.int .i64) 3 w' w.heap.size (fun k=>k≠w.heap.size∧k<w3.heap.size) (.slice Aat l0.length cat) (uF l0 met j).1)∧Aside0 (Kd.R k31 33 w' w.heap.size (fun k=>w3.heap.size<k) v8 (uF l0 met j).2)∧
  Aside0 (w'.heap[w.heap.size]? = some (.cells #[.func (.func 26) #[] #[]] 52 (0,0)))∧Aside0 (w'.heap[w3.heap.size]? = some (.cells #[.slice Aat l0.length cat] 25 (0,0)))∧Aside0 (Below w.heap.size w w'))
 case atStart=>exact⟨0,rfl,⟨rfl⟩,RA,RO,BP,BA,HB⟩
 clear hz
 obtain⟨j,rfl,HG,RA,RO,BP,BA,HB⟩:=hrel
 obtain⟨kl1,kl2⟩:=a8g l0 met j
 have KL1:=am kl1;have KL2:=am kl2
 clear kl1 kl2
 by_cases hj:j<l0.length
 rotate_left
 ·obtain rfl:j=l0.length:=by have:=HG.out;omega
  have t2:decide ((l0.length:Int)<(l0.length:Int))=false:=decide_eq_false oM
  go_wp2_with fail
  go_ret
  exact⟨_,rfl,Kd.JC RO.out (fun _ _=>trivial),HB.out⟩
 have p1:(0:Int)≤(j:Int):=by omega
 have p2:(j:Int)<(l0.length:Int):=by omega
 have t2:decide ((j:Int)<(l0.length:Int))=true:=decide_eq_true p2
 obtain⟨a8,e0,y0,y1,y2,y3,y4,y5⟩:=pE a3.out (j:Int) p1 p2
 cases e0
 replace y0:=kC HB.out y0;replace y1:=kC HB.out y1;replace y2:=kC HB.out y2;replace y3:=kC HB.out y3;replace y4:=kC HB.out y4;replace y5:=kC HB.out y5
 rw[Int.toNat_natCast]at y0 y1 y2 y3 y4 y5
 have hml:(j:Int)<(met.length:Int):=by have:=HMM.out;omega
 obtain⟨adm,em,hm1⟩:=Kd.JJ a2.out (j:Int) p1 hml
 cases em
 replace hm1:=kC HB.out hm1
 have hmv:wH false met (j:Int)=met.getD j false:=rfl
 rw[hmv,Int.toNat_natCast]at hm1
 have t4:decide ((j:Int)<(met.length:Int))=true:=decide_eq_true hml
 obtain⟨go,cg,eg,gb,gl,cl,HGO⟩:=Kd.JZ RA.out (by have:=KL1.out;omega)
 rw[KL1.out]at eg
 cases eg
 have hpl :∀p∈kL (kA l0 (j:Int)).f0 (kA l0 (j:Int)).f3 (kA l0 (j:Int)).f4 (kA l0 (j:Int)).f5,0≤p∧p<(l0.length:Int):=by
  intro p hp
  have h:=List.all_eq_true.mp (List.all_eq_true.mp HP.out j (List.mem_range.mpr hj)) p hp
  simp only[inB,decide_eq_true_eq]at h
  omega
 have hnx:uF l0 met (j+1)=if met.getD j false=true then((uF l0 met j).1.set j ((uF l0 met j).2.length:Int),(uF l0 met j).2++[a4u (fun p=>rd ((uF l0 met j).1.set j ((uF l0 met j).2.length:Int)) p) (kA l0 (j:Int))])else uF l0 met j:=rfl
 obtain⟨ats,hats⟩ :∃ats,(uF l0 met j).1=ats:=⟨_,rfl⟩
 obtain⟨out,hout⟩ :∃out,(uF l0 met j).2=out:=⟨_,rfl⟩
 obtain⟨⟨op,W,K,A,B,C⟩,hnd⟩ :∃n,kA l0 (j:Int)=n:=⟨_,rfl⟩
 rw[hats]at RA KL1 hnx
 rw[hout]at RO KL2 hnx
 rw[hnd]at y0 y1 y2 y3 y4 y5 hpl hnx
 simp only[]at y0 y1 y2 y3 y4 y5 hpl
 have HPL:=am hpl;have HNX:=am hnx;have HS:=am (And.intro hats hout)
 clear hpl hnx hats hout hnd hmv
 obtain⟨adx,ex,hx⟩:=Kd.JD (Kd.JA RA.out).2.2 (j:Int) p1 (by have:=KL1.out;omega)
 cases ex
 simp only[pW,Int.toNat_natCast]at hx
 have hA:=kO (Below.refl wr.heap.size wr) (Obj.cells #[Value.int .i64 op,Value.int .i64 W,Value.int .i64 K,Value.int .i64 A,Value.int .i64 B,Value.int .i64 C] 33)
 have ha2:=(kE (kJ BA.out hA) 0).trans rfl
 have a7:=kC hA hx
 have hfx:=kF (kJ HGO hA) j
 have hm2:=kC hA hm1
 clear hx hm1 hA
 have gg:go≠w.heap.size∧go<w3.heap.size:=RA.out.1 go rfl
 have GG:=am gg
 clear gg
 have AP:=am (show ∀k,Kd.M k31 k w.heap.size (fun _=>False) (⟨0,0,0,0,0,0⟩:S31) []→True from fun _ _=>trivial)
 clear AP
 cases hmj:met.getD j false with
 | true =>
  rw[hmj]at hm2
  obtain⟨Ao,co,rfl⟩:=Kd.JB RO.out
  go_wp2_with fail
  have RA1:=Kd.XC RA.out (j:Int) (out.length:Int)
  rw[Int.toNat_natCast]at RA1
  have RA1:=Kd.YT RA1 (Obj.cells #[Value.int .i64 op,Value.int .i64 W,Value.int .i64 K,Value.int .i64 A,Value.int .i64 B,Value.int .i64 C] 33)
  have hb0:Below w.heap.size w ((wr.setCell ⟨go,j,none⟩ (.int .i64 (out.length:Int))).alloc (Obj.cells #[Value.int .i64 op,Value.int .i64 W,Value.int .i64 K,Value.int .i64 A,Value.int .i64 B,Value.int .i64 C] 33)):=kO (kR HB.out gb) _
  have BA1:=oZ (uH (p:=⟨go,j,none⟩) BA.out (by have:=GG.out;simp;omega) (.int .i64 (out.length:Int))) (Obj.cells #[Value.int .i64 op,Value.int .i64 W,Value.int .i64 K,Value.int .i64 A,Value.int .i64 B,Value.int .i64 C] 33)
  have BP1:=oZ (uH (p:=⟨go,j,none⟩) BP.out (by have:=GG.out;simp;omega) (.int .i64 (out.length:Int))) (Obj.cells #[Value.int .i64 op,Value.int .i64 W,Value.int .i64 K,Value.int .i64 A,Value.int .i64 B,Value.int .i64 C] 33)
  have RO1:=Kd.YT (Kd.JT (p:=⟨go,j,none⟩) RO.out (fun k hk=>by have:=GG.out;simp;omega) (.int .i64 (out.length:Int))) (Obj.cells #[Value.int .i64 op,Value.int .i64 W,Value.int .i64 K,Value.int .i64 A,Value.int .i64 B,Value.int .i64 C] 33)
  obtain⟨A',hA'⟩ :∃A',A'=if 0<(kL op A B C).length then rd (ats.set j (out.length:Int)) A else A:=⟨_,rfl⟩
  obtain⟨B',hB'⟩ :∃B',B'=if 1<(kL op A B C).length then rd (ats.set j (out.length:Int)) B else B:=⟨_,rfl⟩
  obtain⟨C',hC'⟩ :∃C',C'=if 2<(kL op A B C).length then rd (ats.set j (out.length:Int)) C else C:=⟨_,rfl⟩
  have HND:=am (show(⟨op,W,K,A',B',C'⟩:S31)=a4u (fun p=>rd (ats.set j (out.length:Int)) p) ⟨op,W,K,A,B,C⟩from by unfold a4u;simp only[];rw[← hA',← hB',← hC'])
  have HA':=am hA';have HB':=am hB';have HC':=am hC'
  clear hA' hB' hC'
  refine(YTi 50 #[.pointer (some ⟨w3.heap.size,0,none⟩),.pointer (some ⟨w.heap.size,0,none⟩)] (fun p=>rd (ats.set j (out.length:Int)) p) (fun p=>0≤p∧p<(l0.length:Int)) op W K A B C _ (fun _ _=>rfl) ?hp HPL.out A' B' C' HA'.out HB'.out HC'.out).mono ?_
  case hp =>
   intro W' i hW' hi
   have hlen:((ats.set j (out.length:Int)).length:Int)=l0.length:=by rw[List.length_set];have:=KL1.out;omega
   obtain⟨ad',e',hx'⟩:=Kd.JD (Kd.JA (Kd.JK RA1 hW')).2.2 i hi.1 oM
   cases e'
   have hs:(l0.length:Nat)=(ats.set j (out.length:Int)).length:=by omega
   refine YWi ⟨go,0,none⟩ cat (ats.set j (out.length:Int)) i w3.heap.size w.heap.size W' hx' ?_ ((kE (kJ BP1 hW') 0).trans rfl) hi.1 oM
   rw[← hs]
   exact(kE (kJ BA1 hW') 0).trans rfl
  rintro e w5 ⟨rfl,hb⟩
  have RA:=am (Kd.JK RA1 hb);have RO:=am (Kd.JK RO1 hb);have BA:=am (kJ BA1 hb);have BP:=am (kJ BP1 hb);have HB:=am (hb0.trans (hb.mono (kG hb0)))
  have GL:=am (show w3.heap.size<w5.heap.size from by have:=(Array.getElem?_eq_some_iff.1 BA.out).1;omega)
  clear RA1 RO1 BA1 BP1 hb hb0
  have LO:=am (show out.length≤1048576 from by have:=KL2.out;omega)
  go_wp2_with (((with_reducible refine kZ (b:= .append) (xs:= #[.tmp 31,.tmp 35]) rfl ?_);at_builtin;refine Kd.JQ k31 (w0:=w) w.heap.size rfl (.tmp 31) (.tmp 35) 24 33 (.agg #[(.int .i64 0),(.int .i64 0),(.int .i64 0),(.int .i64 0),(.int .i64 0),(.int .i64 0)]) 48 rfl Tryz.underlying24 yT rfl (by decide) oM (.slice Ao out.length co) out (⟨op,W,K,A',B',C'⟩:S31) [.int .i64 op,.int .i64 W,.int .i64 K,.int .i64 A',.int .i64 B',.int .i64 C'] (fun k=>w3.heap.size<k) (fun _=>False) rfl rfl (vE _ _ _ (⟨op,W,K,A',B',C'⟩:S31)) (fun _ hk=>hk.elim) (fun k hk=>by have:=GL.out;omega) RO.out HB.out HB.out.size (by have:=LO.out;omega) ?_;intro a4 w6 ho hb hg hat;have RA:=am (Kd.XD RA.out (fun k hk hl=>hg.block k hl (by intro h;have:=RO.out.1 k h.symm;have:=hk.2;omega)));have BP:=am (qT BP.out hg (by intro h;have:=RO.out.1 _ h.symm;have:=HS3.out;omega));have BA:=am (qT BA.out hg (by intro h;have:=RO.out.1 _ h.symm;omega));have RO:=am ho;have HB:=am hb;clear ho hb hg hat))
  obtain⟨g1,rfl⟩ :∃g1,gk=g1+1:=⟨gk-1,by have:=HG.out;omega⟩
  have hn:=HNX.out
  rw[hmj,if_pos rfl]at hn
  have h1:(uF l0 met (j+1)).1=ats.set j (out.length:Int):=by rw[hn]
  have h2:(uF l0 met (j+1)).2=out++[⟨op,W,K,A',B',C'⟩]:=by rw[hn,HND.out]
  exact c4u
 | false =>
  rw[hmj]at hm2
  have RA1:=Kd.YT RA.out (Obj.cells #[Value.int .i64 op,Value.int .i64 W,Value.int .i64 K,Value.int .i64 A,Value.int .i64 B,Value.int .i64 C] 33)
  have RO1:=Kd.YT RO.out (Obj.cells #[Value.int .i64 op,Value.int .i64 W,Value.int .i64 K,Value.int .i64 A,Value.int .i64 B,Value.int .i64 C] 33)
  have BP1:=oZ BP.out (Obj.cells #[Value.int .i64 op,Value.int .i64 W,Value.int .i64 K,Value.int .i64 A,Value.int .i64 B,Value.int .i64 C] 33)
  have BA1:=oZ BA.out (Obj.cells #[Value.int .i64 op,Value.int .i64 W,Value.int .i64 K,Value.int .i64 A,Value.int .i64 B,Value.int .i64 C] 33)
  have HB1:=kO HB.out (Obj.cells #[Value.int .i64 op,Value.int .i64 W,Value.int .i64 K,Value.int .i64 A,Value.int .i64 B,Value.int .i64 C] 33)
  have RA:=am RA1;have RO:=am RO1;have BP:=am BP1;have BA:=am BA1;have HB:=am HB1
  clear RA1 RO1 BP1 BA1 HB1
  go_wp2_with fail
  obtain⟨g1,rfl⟩ :∃g1,gk=g1+1:=⟨gk-1,by have:=HG.out;omega⟩
  have hn:=HNX.out
  rw[hmj,if_neg (by decide)]at hn
  have h1:(uF l0 met (j+1)).1=ats:=by rw[hn];exact HS.out.1
  have h2:(uF l0 met (j+1)).2=out:=by rw[hn];exact HS.out.2
  exact c4u
def a0d(k:Nat)(l0:List (S31)):Option (List (S31)) :=
 (uG k l0).bind fun b=>if b=true then(vR k l0).bind fun met=>(if met.length=l0.length∧l0.length≤1048576∧a6n l0=true then some (uF l0 met l0.length).2 else none)else some []
theorem YUi{k:Nat}{A0:Option Addr}{c0:Nat}{l0 r:List (S31)}{w:World}(hr0:Kd.C k31 w A0 l0.length l0)(hc0:l0.length≤c0)(h:a0d k l0=some r) :
  Calls Tryz.prog 8 #[.slice A0 l0.length c0] w fun e w' =>∃a2:Value,e= .returned (a2)∧Kd.R k31 33 w' w.heap.size (fun _=>True) a2 r∧Below w.heap.size w w':=by
 unfold a0d at h
 obtain⟨b,hb,h⟩:=oB h
 have a0:=am hr0;have a1:=am hc0;have HT:=am hb
 clear hr0 hc0 hb
 cases b with
 | false =>
  rw[if_neg (by decide)]at h
  obtain rfl:=oI h
  clear h
  go_enter Tryz.func8,Tryz.ntmps8
  go_wp2_with fail
  refine(JQi k A0 c0 l0 false w a0.out a1.out HT.out).mono ?_
  rintro e w2 ⟨rfl,hb⟩
  have HB:=am hb
  clear hb
  go_wp2
  go_ret
  exact⟨_,rfl,Kd.XM _ _ _ _ (fun _=>True),HB.out⟩
 | true =>
  rw[if_pos rfl]at h
  obtain⟨met,hm,h⟩:=oB h
  by_cases hc:met.length=l0.length∧l0.length≤1048576∧a6n l0=true
  rotate_left
  ·rw[if_neg hc]at h
   exact absurd h (by simp)
  rw[if_pos hc]at h
  obtain rfl:=oI h
  clear h
  have HM:=am hm;have HC:=am hc
  clear hm hc
  go_enter Tryz.func8,Tryz.ntmps8
  go_wp2_with fail
  refine(JQi k A0 c0 l0 true w a0.out a1.out HT.out).mono ?_
  rintro e w2 ⟨rfl,hb⟩
  have HB:=am hb
  clear hb
  go_wp2_with fail
  refine(KHi k A0 c0 l0 met w2 (Kd.JE a0.out HB.out) a1.out HM.out).mono ?_
  rintro e w3 ⟨v0,rfl,HO,hb⟩
  have HB3:=am (HB.out.trans (hb.mono HB.out.size))
  obtain⟨A1,c1,rfl,h1,h2⟩:=Kd.YL HO
  have H2:=am h2;have H1:=am h1
  clear hb HO h1 h2
  go_wp2_with fail
  refine(XMi A0 c0 l0 A1 c1 met w3 (Kd.JE a0.out HB3.out) a1.out H2.out H1.out HC.out.2.1 HC.out.1 HC.out.2.2).mono ?_
  rintro e w4 ⟨v1,rfl,HO,hb⟩
  have a3:=am (Kd.JF HO HB3.out.size)
  have HB4:=am (HB3.out.trans (hb.mono HB3.out.size))
  clear HO hb
  go_wp2
  go_ret
  exact⟨v1,rfl,a3.out,HB4.out⟩
mutual
def vI:Nat→List (S31)→List Int→Int→Bool→Bool→Option (Bool)
 | 0,_,_,_,_,_=>none
 | k+1,x3,x4,x5,x6,a6=>if a6=true then(some false)else(if x6=true then((a0d k x3).bind fun a4=>((sF k a4 x4).bind fun a1=>(if a1.2=true then(if a1.1=x5 then(if 0≤(wrap64 ((x3.length:Int)-1))then(if(wrap64 ((x3.length:Int)-1))<(x3.length:Int)then((rP ((kA x3 (wrap64 ((x3.length:Int)-1))).f1) x5).bind fun a3=>(vH k x3 x4 x5 (!a3)))else(none))else(none))else(vH k x3 x4 x5 true))else(vH k x3 x4 x5 true))))else(some (x5==0)))
def vH:Nat→List (S31)→List Int→Int→Bool→Option (Bool)
 | 0,_,_,_,_=>none
 | k+1,x3,x4,x5,a5=>if a5=true then(some false)else((xL k x3).bind fun a2=>(if(a2.length:Int)=0 then(some true)else((sF k a2 x4).bind fun a0=>(if a0.2=true then(some (a0.1==x5))else(some false)))))
end
def zE(k:Nat)(l0:List Int):Option (Bool):=(a3t l0).bind fun a3=>(if a3=true then(some true)else((wQ k l0).bind fun a0=>((sF k a0.1 a0.2).bind fun a1=>((uL k a0.1 a0.2).bind fun a2=>(if(a1.2 !=a2.2)=true then(vI k a0.1 a0.2 a1.1 a1.2 true)else(vI k a0.1 a0.2 a1.1 a1.2 (a1.1 !=a2.1)))))))
theorem c5u{P:Prop}(h:P:=by
 obtain rfl:=oI H
 go_wp2_with (((with_reducible refine gW ?_);first|(refine gF 10 (some 72) rfl ?_;refine gT Tryz.func10 (KVi (sC (Kd.JA a0.out).2.2) ((Kd.JA a0.out).2.1) b3.out) ?_;rintro aO cK ⟨a8,hb⟩;replace a1:=rB a1 hb;have a5:=am (Kd.JF (Kd.JN a8 (Kd.JM (by exact sR<|a0.out))) (kG (by exact sW HB.out)));replace a0:=rE a0 a8 hb;replace HB:=hB HB hb;(try clear hb);(try clear a8);obtain⟨cJ,cI,rfl⟩:=Kd.JB a5.out)|(refine gF 6 (some 79) rfl ?_;refine gS Tryz.func6 (KEi (sC (Kd.JA a5.out).2.2) ((Kd.JA a5.out).2.1) (sC (Kd.JA a1.out).2.2) ((Kd.JA a1.out).2.1) bF.out) ?_;rintro cH hb;replace a0:=rB a0 hb;replace a1:=rB a1 hb;replace a5:=rB a5 hb;replace HB:=hB HB hb;(try clear hb))))
 go_ret
 exact⟨rfl,sW HB.out⟩):P:=h
theorem c5k{P:Prop}(h:P:=by
 replace H:=am H
 go_wp2
 go_meet
 case rel=>exact⟨_,true,rfl,H,⟨by have:=b1.out;omega⟩,⟨sR<|Kd.JC a0.out (fun _ hk=>trivial)⟩,⟨sR<|a1.out⟩,⟨sW HB.out⟩⟩):P:=h
theorem ZBi(k:Nat)(A0:Option Addr)(c0:Nat)(l0:List Int)(r:Bool)(w:World)(hr0:Kd.C (Kd.int .u8) w A0 l0.length l0)(hc0:l0.length≤c0)(h:zE k l0=some r) :
  Calls Tryz.prog 3 #[.slice A0 l0.length c0] w fun e w'=>e= .returned (.bool r)∧Below w.heap.size w w':=by
 have aK:=am hr0
 have aM:=am hc0
 clear hr0 hc0
 have HB:=am (Below.refl w.heap.size w)
 have H:=h
 clear h
 unfold zE at H
 replace H:=oA H;obtain⟨bR,A2,H⟩:=H
 replace H:=iB H;rcases H with⟨rfl,H⟩|⟨rfl,H⟩
 ·obtain rfl:=oI H
  go_enter Tryz.func3,Tryz.ntmps3
  go_wp2_with (((with_reducible refine gW ?_);refine gD (some 15) Tryz.func4 rfl (KZi (sC aK.out) aM.out A2.out) fun nd=>?_))
  go_ret
  exact⟨rfl,sW HB.out⟩
 replace H:=oA H;obtain⟨⟨a7,aC⟩,A4,H⟩:=H
 try dsimp only at H
 replace H:=oA H;obtain⟨⟨aG,a4⟩,A5,H⟩:=H
 try dsimp only at H
 replace H:=oA H;obtain⟨⟨aR,a6⟩,A6,H⟩:=H
 try dsimp only at H
 have aL:=am H;clear H
 go_enter Tryz.func3,Tryz.ntmps3
 go_upto_region 6 with(((with_reducible refine gW ?_);first|(refine gD (some 15) Tryz.func4 rfl (KZi (sC aK.out) aM.out A2.out) fun nd=>?_)|((with_reducible refine b4p (f:=5) rfl ?_);refine b3g (some 18) rfl rfl Tryz.func5 (by kernel_rfl) rfl #[.slice A0 l0.length c0] rfl tn ?_;refine(XSi (sC aK.out) aM.out A4.out).mono ?_;rintro e w8 ⟨bL,bK,rfl,a8,a_,hb⟩;refine⟨_,rfl,?_⟩;have a3:=rL a8 HB;have a2:=rL a_ HB;replace HB:=hB HB hb;obtain⟨b2,b0,rfl⟩:=Kd.JB a3.out;obtain⟨aN,aJ,rfl⟩:=Kd.JB a2.out)|(refine gF 6 (some 24) rfl ?_;refine gS Tryz.func6 (KEi (sC (Kd.JA a3.out).2.2) ((Kd.JA a3.out).2.1) (sC (Kd.JA a2.out).2.2) ((Kd.JA a2.out).2.1) A5.out) ?_;rintro w11 hb;replace a3:=rB a3 hb;replace a2:=rB a2 hb;replace HB:=hB HB hb)|(refine gF 7 (some 30) rfl ?_;refine gS Tryz.func7 (YFi (sC (Kd.JA a3.out).2.2) ((Kd.JA a3.out).2.1) (sC (Kd.JA a2.out).2.2) ((Kd.JA a2.out).2.1) A6.out) ?_;rintro w12 hb;replace a3:=rB a3 hb;replace a2:=rB a2 hb;replace HB:=hB HB hb)));clear hb a8 a_;clear hb;clear hb
 (try simp only[Act.put,List.setIfInBounds_toArray,List.set_cons_zero,List.set_cons_succ])
 go_cut [40] (fun bB wc =>∃(kq:Nat) (aF:Bool),bB= .bool aF∧Aside0 (vI kq a7 aC aG a4 aF=some r)∧Aside0 (kq≤k)∧Aside0 (Kd.R k31 33 wc w.heap.size (fun _=>True) (.slice b2 a7.length b0) a7)∧Aside0 (Kd.R (Kd.int .i64) 3 wc w.heap.size (fun _=>True) (.slice aN aC.length aJ) aC)∧Aside0 (Below w.heap.size w wc))
 case first =>
  have H:=aL.out
  clear aL
  by_cases a9:(a4 !=a6)=true
  ·rw[if_pos a9]at H
   have aZ:(a4 !=a6)=true:=a9
   (try(have aY:decide (a4=a6)=false:=by simpa using a9))
   (try(have aX:(a4==a6)=false:=by simpa using a9))
   (try(have b_ :¬(a4=a6):=by simpa using a9))
   clear a9
   replace H:=am H
   go_wp2
   go_meet
   case rel=>exact⟨_,true,rfl,H,⟨oM⟩,⟨sR<|a3.out⟩,⟨sR<|a2.out⟩,⟨sW HB.out⟩⟩
  rw[if_neg a9]at H
  have aZ:(a4 !=a6)=false:=by simpa using a9
  (try(have aY:decide (a4=a6)=true:=by simpa using a9))
  (try(have aX:(a4==a6)=true:=by simpa using a9))
  clear a9
  replace H:=am H
  go_wp2
  go_meet
  case rel=>exact⟨_,((aG !=aR)),rfl,H,⟨oM⟩,⟨sR<|a3.out⟩,⟨sR<|a2.out⟩,⟨sW HB.out⟩⟩
 clear aL
 obtain⟨kq,aF,rfl,HA,b1,a0,a1,HB⟩:=hcut
 cases kq with
 | zero=>cases HA.out
 | succ bC =>
  obtain⟨H⟩:=HA
  simp only[vI]at H
  replace H:=iB H;rcases H with⟨rfl,H⟩|⟨rfl,H⟩
  ·obtain rfl:=oI H
   go_wp2
   go_ret
   exact⟨rfl,sW HB.out⟩
  replace H:=iB H;rcases H with⟨rfl,H⟩|⟨rfl,H⟩
  rotate_left
  ·obtain rfl:=oI H
   go_wp2
   go_ret
   exact⟨rfl,sW HB.out⟩
  replace H:=oA H;obtain⟨bQ,bI,H⟩:=H
  replace H:=oA H;obtain⟨⟨bP,bO⟩,bH,H⟩:=H
  try dsimp only at H
  have aH:=am H;clear H
  go_upto_region 11 with(((with_reducible refine gW ?_);first|(refine gF 8 (some 47) rfl ?_;refine gT Tryz.func8 (YUi (sC (Kd.JA a0.out).2.2) ((Kd.JA a0.out).2.1) bI.out) ?_;rintro bJ w19 ⟨a8,hb⟩;replace a1:=rB a1 hb;have aA:=am (Kd.JF (Kd.JN a8 (Kd.JM (by exact sR<|a0.out))) (kG (by exact sW HB.out)));replace a0:=rE a0 a8 hb;replace HB:=hB HB hb;obtain⟨cG,cC,rfl⟩:=Kd.JB aA.out)|(refine gF 6 (some 49) rfl ?_;refine gS Tryz.func6 (KEi (sC (Kd.JA aA.out).2.2) ((Kd.JA aA.out).2.1) (sC (Kd.JA a1.out).2.2) ((Kd.JA a1.out).2.1) bH.out) ?_;rintro w21 hb;replace a0:=rB a0 hb;replace a1:=rB a1 hb;replace aA:=rB aA hb;replace HB:=hB HB hb)));clear hb a8;clear hb
  (try simp only[Act.put,List.setIfInBounds_toArray,List.set_cons_zero,List.set_cons_succ])
  go_cut [70] (fun bA wc =>∃(kq:Nat) (aE:Bool),bA= .bool aE∧Aside0 (vH kq a7 aC aG aE=some r)∧Aside0 (kq≤bC)∧Aside0 (Kd.R k31 33 wc w.heap.size (fun _=>True) (.slice b2 a7.length b0) a7)∧Aside0 (Kd.R (Kd.int .i64) 3 wc w.heap.size (fun _=>True) (.slice aN aC.length aJ) aC)∧Aside0 (Below w.heap.size w wc))
  case first =>
   have H:=aH.out
   clear aH
   replace H:=iB H;rcases H with⟨rfl,H⟩|⟨rfl,H⟩
   ·replace H:=iE H;rcases H with⟨aW,aV,H⟩|⟨aW,aV,H⟩
    ·generalize aS:wrap64 ((a7.length:Int)-1)=aI at H
     have bD:(IntKind.i64.wrap ((a7.length:Int)-1))=aI:=(vB _).trans aS
     replace H:=iN H;obtain⟨bZ,H⟩:=H
     replace H:=iN H;obtain⟨bV,H⟩:=H
     replace H:=oA H;obtain⟨aQ,bG,H⟩:=H
     replace H:=am H
     obtain⟨bT,bS,bE,rfl,b9,b8,b7,b6,b5,b4⟩:=ix (pE (Kd.JA a0.out).2.2 (aI))
     go_wp2_with ((go_at_call 9;refine cD (JDi _ _ _ _ bG.out) fun nd=>?_))
     go_meet
     case rel=>exact⟨_,(!aQ),rfl,H,⟨by have:=b1.out;omega⟩,⟨sR<|Kd.JC a0.out (fun _ hk=>trivial)⟩,⟨sR<|a1.out⟩,⟨sW HB.out⟩⟩
    exact c5k
   exact c5k
  clear aH
  obtain⟨kq,aE,rfl,HA,cE,a0,a1,HB⟩:=hcut
  cases kq with
  | zero=>cases HA.out
  | succ c1 =>
   obtain⟨H⟩:=HA
   simp only[vH]at H
   replace H:=iB H;rcases H with⟨rfl,H⟩|⟨rfl,H⟩
   ·obtain rfl:=oI H
    go_wp2
    go_ret
    exact⟨rfl,sW HB.out⟩
   replace H:=oA H;obtain⟨aB,b3,H⟩:=H
   by_cases aD:(aB.length:Int)=0
   ·rw[if_pos aD]at H
    have aU:((aB.length:Int)==0)=true:=beq_iff_eq.mpr aD
    have aT:((aB.length:Int)!=0)=false:=bne_eq_false_iff_eq.mpr aD
    clear aD
    obtain rfl:=oI H
    go_wp2_with (((with_reducible refine gW ?_);refine gF 10 (some 72) rfl ?_;refine gT Tryz.func10 (KVi (sC (Kd.JA a0.out).2.2) ((Kd.JA a0.out).2.1) b3.out) ?_;rintro aO w31 ⟨a8,hb⟩;replace a1:=rB a1 hb;have a5:=am (Kd.JF (Kd.JN a8 (Kd.JM (by exact sR<|a0.out))) (kG (by exact sW HB.out)));replace a0:=rE a0 a8 hb;replace HB:=hB HB hb;(try clear hb);(try clear a8);obtain⟨cF,cB,rfl⟩:=Kd.JB a5.out))
    go_ret
    exact⟨rfl,sW HB.out⟩
   rw[if_neg aD]at H
   have aU:((aB.length:Int)==0)=false:=beq_eq_false_iff_ne.mpr aD
   have aT:((aB.length:Int)!=0)=true:=bne_iff_ne.mpr aD
   have bU :¬(aB=[]):=fun h_=>aD (by rw[h_];rfl)
   replace H:=oA H;obtain⟨⟨bN,bM⟩,bF,H⟩:=H
   try dsimp only at H
   replace H:=iB H;rcases H with⟨rfl,H⟩|⟨rfl,H⟩
   ·exact c5u
   exact c5u
def laws_FnValues.Pure:Prop :=∀(l0:List Int),l0.length≤maxLen→l0.length*1≤140737488351232→(∀x∈l0,(Lit.int .u8 x).wf=true)→∃k,zE k l0=some true
theorem laws_FnValues.walk(P:laws_FnValues.Pure)(a0:Option Addr)(len0 cap0:Nat)(z0:List Int)(w:World)(w0:(a0=none∧len0=0∧cap0=0∧z0=[])∨∃x,a0=some x∧len0≤cap0∧cap0≤maxLen∧z0.length=cap0∧(∀i,i<z0.length→w.cell? (x.add i)=some (.int .u8 (z0.getD i 0)))∧∀n∈z0,(Lit.int .u8 n).wf=true)(y0:len0*1≤140737488351232) :
  Calls Tryz.prog 3 #[.slice a0 len0 cap0] w fun e w'=>e= .returned (.bool true)∧Below w.heap.size w w':=by
 obtain⟨l0,rfl,hr0,hm0,a1,hc0⟩:=a8x w0
 obtain⟨k,h⟩:=P l0 hm0 y0 a1
 refine(ZBi k _ _ l0 true w (Kd.C_of_reads (d:=(0:Int)) (h1:=fun _=>rfl) hr0) hc0 h).mono ?_
 rintro e w' ⟨rfl,hd⟩
 exact⟨rfl,hd⟩
end Go.Proofs.YtkpipmojkhikaaaGreat.PAll
