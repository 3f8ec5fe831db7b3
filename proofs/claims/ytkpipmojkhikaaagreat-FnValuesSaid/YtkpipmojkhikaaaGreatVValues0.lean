/- Go functions as Lean functions: a call comes to what they say. -/
import Derived.Test.YtkpipmojkhikaaaGreatProg
import Derived.Test.YtkpipmojkhikaaaGreatBase
import Derived.Shelf.Abstract
import Derived.Test.YtkpipmojkhikaaaGreatSq
namespace Go.Proofs.YtkpipmojkhikaaaGreat.PAll
open Go.RowKit Go.A_ Go.B_ Go.C_ Go.D_
attribute [local go_sem] rF rC tE tD qK qJ rD rA
set_option linter.unusedVariables false
set_option linter.unusedSimpArgs false
set_option maxHeartbeats 8000000
set_option maxRecDepth 100000
def d8x:Option Int→Value
 | none=> .nilIface
 | some c=> .iface 0 (.int .i64 c)
theorem c1k:d8x none= .nilIface:=rfl
theorem c1j(c:Int):d8x (some c)= .iface 0 (.int .i64 c):=rfl
theorem a4h:(Tryz.prog.info? 3).map (fun i=>(i.zero,i.size,i.bytes))=some (some (.int .i64 0),1,8):=by kernel_rfl
theorem b1g:(Tryz.prog.info? 4).map (fun i=>(i.zero,i.size,i.bytes))=some (some (.bool false),1,1):=by kernel_rfl
theorem d6h:(Tryz.prog.info? 25).map (fun i=>(i.zero,i.size,i.bytes))=some (some (.slice none 0 0),1,24):=by kernel_rfl
theorem d7w:(Tryz.prog.info? 9).map (fun i=>(i.zero,i.size,i.bytes))=some (some (.string ⟨#[]⟩),1,16):=by kernel_rfl
theorem yT:(Tryz.prog.info? 33).map (fun i=>(i.zero,i.size,i.bytes))=some (some (.agg #[(.int .i64 0),(.int .i64 0),(.int .i64 0),(.int .i64 0),(.int .i64 0),(.int .i64 0)]),6,48):=by kernel_rfl
theorem d6g:(Tryz.prog.info? 50).map (fun i=>(i.zero,i.size,i.bytes))=some (some (.slice none 0 0),1,24):=by kernel_rfl
structure S31 where
 f0:Int
 f1:Int
 f2:Int
 f3:Int
 f4:Int
 f5:Int
def z31:S31:=⟨(0:Int),(0:Int),(0:Int),(0:Int),(0:Int),(0:Int)⟩
def k31:Kd S31:=Kd.iso (Kd.pair (Kd.int .i64) (Kd.pair (Kd.int .i64) (Kd.pair (Kd.int .i64) (Kd.pair (Kd.int .i64) (Kd.pair (Kd.int .i64) (Kd.int .i64)))))) (fun x:S31=>(x.f0,x.f1,x.f2,x.f3,x.f4,x.f5))
theorem c3t{w:World}{x:S31}{cs:List Value}(h:k31.K w x cs):cs=[.int .i64 x.f0,.int .i64 x.f1,.int .i64 x.f2,.int .i64 x.f3,.int .i64 x.f4,.int .i64 x.f5]:=by
 obtain⟨_,_,rfl,rfl,⟨_,_,rfl,rfl,⟨_,_,rfl,rfl,⟨_,_,rfl,rfl,⟨_,_,rfl,rfl,rfl⟩⟩⟩⟩⟩:=h
 exact rfl
theorem a0a{w:World}{base:Nat}{ok:Nat→Prop}{x:S31}{cs:List Value}(h:k31.M w base ok x cs):cs=[.int .i64 x.f0,.int .i64 x.f1,.int .i64 x.f2,.int .i64 x.f3,.int .i64 x.f4,.int .i64 x.f5]:=by
 obtain⟨_,_,rfl,rfl,⟨_,_,rfl,rfl,⟨_,_,rfl,rfl,⟨_,_,rfl,rfl,⟨_,_,rfl,rfl,rfl⟩⟩⟩⟩⟩:=h
 exact rfl
theorem vE(w:World)(base:Nat)(ok:Nat→Prop)(x:S31)  : k31.M w base ok x [.int .i64 x.f0,.int .i64 x.f1,.int .i64 x.f2,.int .i64 x.f3,.int .i64 x.f4,.int .i64 x.f5]:=⟨[.int .i64 x.f0],[.int .i64 x.f1,.int .i64 x.f2,.int .i64 x.f3,.int .i64 x.f4,.int .i64 x.f5],rfl,rfl,⟨[.int .i64 x.f1],[.int .i64 x.f2,.int .i64 x.f3,.int .i64 x.f4,.int .i64 x.f5],rfl,rfl,⟨[.int .i64 x.f2],[.int .i64 x.f3,.int .i64 x.f4,.int .i64 x.f5],rfl,rfl,⟨[.int .i64 x.f3],[.int .i64 x.f4,.int .i64 x.f5],rfl,rfl,⟨[.int .i64 x.f4],[.int .i64 x.f5],rfl,rfl,rfl⟩⟩⟩⟩⟩
def kA(xs:List S31)(i:Int):S31:=xs.getD i.toNat z31
theorem pE{w:World}{A:Option Addr}{n:Nat}{xs:List S31}(h:Kd.C k31 w A n xs)(i:Int)(h0:0≤i)(h1:i<n) :∃ad,A=some ad∧w.cell? (ad.add (i.toNat*6))=some (.int .i64 (kA xs i).f0)∧w.cell? ⟨(ad.add (i.toNat*6)).block,(ad.add (i.toNat*6)).off+1,none⟩=some (.int .i64 (kA xs i).f1)∧w.cell? ⟨(ad.add (i.toNat*6)).block,(ad.add (i.toNat*6)).off+2,none⟩=some (.int .i64 (kA xs i).f2)∧w.cell? ⟨(ad.add (i.toNat*6)).block,(ad.add (i.toNat*6)).off+3,none⟩=some (.int .i64 (kA xs i).f3)∧w.cell? ⟨(ad.add (i.toNat*6)).block,(ad.add (i.toNat*6)).off+4,none⟩=some (.int .i64 (kA xs i).f4)∧w.cell? ⟨(ad.add (i.toNat*6)).block,(ad.add (i.toNat*6)).off+5,none⟩=some (.int .i64 (kA xs i).f5):=by
 obtain⟨ad,c,e,_,hK,hc0⟩:=Kd.XP h z31 i h0 h1
 have hc :∀j u,c[j]? = some u→w.cell? (ad.add (i.toNat*6+j))=some u:=hc0
 obtain rfl:=c3t hK
 exact⟨ad,e,hc 0 _ rfl,by rw[← a3n _ _ 1 (by omega)];exact hc 1 _ rfl,by rw[← a3n _ _ 2 (by omega)];exact hc 2 _ rfl,by rw[← a3n _ _ 3 (by omega)];exact hc 3 _ rfl,by rw[← a3n _ _ 4 (by omega)];exact hc 4 _ rfl,by rw[← a3n _ _ 5 (by omega)];exact hc 5 _ rfl⟩
def a7y(xs:List (List Bool))(i:Int):(List Bool):=xs.getD i.toNat ([]:List Bool)
theorem d6n{w:World}{A:Option Addr}{n:Nat}{xs:List (List Bool)}(h:Kd.C (Kd.slice 4 Kd.bool) w A n xs)(i:Int)(h0:0≤i)(h1:i<n) :∃ad A0 c0,A=some ad∧w.cell? (ad.add i.toNat)=some (.slice A0 (a7y xs i).length c0)∧(a7y xs i).length≤c0∧Kd.bool.C w A0 (a7y xs i).length (a7y xs i):=by
 obtain⟨ad,c,e,_,hK,hc0⟩:=Kd.XP h ([]:List Bool) i h0 h1
 have hc :∀j u,c[j]? = some u→w.cell? (ad.add (i.toNat*1+j))=some u:=hc0
 obtain⟨A0,c0,rfl,l0,g0⟩:=hK
 exact⟨ad,A0,c0,e,by have hq:=hc 0 _ rfl;rwa [Nat.mul_one,Nat.add_zero]at hq,l0,g0⟩
def a2q(xs:List (List Int))(i:Int):(List Int):=xs.getD i.toNat ([]:List Int)
theorem c4d{w:World}{A:Option Addr}{n:Nat}{xs:List (List Int)}(h:Kd.C (Kd.slice 3 (Kd.int .i64)) w A n xs)(i:Int)(h0:0≤i)(h1:i<n) :∃ad A0 c0,A=some ad∧w.cell? (ad.add i.toNat)=some (.slice A0 (a2q xs i).length c0)∧(a2q xs i).length≤c0∧(Kd.int .i64).C w A0 (a2q xs i).length (a2q xs i):=by
 obtain⟨ad,c,e,_,hK,hc0⟩:=Kd.XP h ([]:List Int) i h0 h1
 have hc :∀j u,c[j]? = some u→w.cell? (ad.add (i.toNat*1+j))=some u:=hc0
 obtain⟨A0,c0,rfl,l0,g0⟩:=hK
 exact⟨ad,A0,c0,e,by have hq:=hc 0 _ rfl;rwa [Nat.mul_one,Nat.add_zero]at hq,l0,g0⟩
theorem sK{w W W':World}{S:Nat→Prop}(k:Kept w W S)(h:Kept w W' S:=by repeat(first|(with_reducible first|exact HK.out|apply Kept.alloc|apply Kept.drewN|apply Kept.drew|refine Kept.setCell ?_ (.inl (.inr rfl)) _|refine Kept.setCell ?_ (.inr (Aside0.out (by assumption))) _)|exact HK.out)):Kept w W' S:=h
theorem kB{P:Prop}(h:P:=by repeat(first|(with_reducible first|exact HK.out|apply yX|apply a0s|apply a2g|apply a0t)|exact HK.out)):P:=h
theorem tn{P:Prop}(h:P:=by(try simp only[List.map_toArray,List.map_cons,List.map_nil]);first|done|rfl|(simp only[List.length_drop,List.length_take];rfl)):P:=h
theorem xB{P:Prop}(h:P:=by repeat(first|(with_reducible first|exact HI0.out|apply IsS84.alloc|apply IsS84.drewN|apply IsS84.drew|apply b5d|apply b5c|apply b5b|apply b5a|refine xS ?_ (Aside0.out (by assumption)) _)|exact HI0.out)):P:=h
theorem a0j{P:Prop}(h:P:=by repeat(first|(with_reducible first|exact HB.out|apply kO|apply kM|apply kQ|refine kR ?_ (c4m HI0.out)|refine kR ?_ (Aside0.out (by assumption)))|exact HB.out)):P:=h
theorem d8u{P:Prop}(h:P:=by repeat(first|(with_reducible first|exact HI0.out|apply IsS88.alloc|apply IsS88.drewN|apply IsS88.drew|apply b4z|apply b4y|apply b4x|apply b4w|refine c2h ?_ (Aside0.out (by assumption)) _)|exact HI0.out)):P:=h
theorem d9b{P:Prop}(h:P:=by repeat(first|(with_reducible first|exact HB.out|apply kO|apply kM|apply kQ|refine kR ?_ (c4l HI0.out)|refine kR ?_ (Aside0.out (by assumption)))|exact HB.out)):P:=h
theorem kI{P:Prop}(h:P:=by repeat(first|(with_reducible first|exact HI0.out|apply IsS93.alloc|apply IsS93.drewN|apply IsS93.drew|apply a2w|apply a2v|refine c2g ?_ (Aside0.out (by assumption)) _)|exact HI0.out)):P:=h
theorem kH{P:Prop}(h:P:=by repeat(first|(with_reducible first|exact HB.out|apply kO|apply kM|apply kQ|refine kR ?_ (a2x HI0.out)|refine kR ?_ (Aside0.out (by assumption)))|exact HB.out)):P:=h
def a3t(l0:List Int):Option (Bool):=some (decide ((l0.length:Int)>1048576))
theorem KZi{A0:Option Addr}{c0:Nat}{l0:List Int}{r:Bool}{w:World}(hr0:Kd.C (Kd.int .u8) w A0 l0.length l0)(hc0:l0.length≤c0)(h:a3t l0=some r) :
  Calls Tryz.prog 4 #[.slice A0 l0.length c0] w fun e w'=>e= .returned (.bool r)∧Drawn0 w w':=by
 have a0:=am hr0
 have a1:=am hc0
 clear hr0 hc0
 have H:=h
 clear h
 unfold a3t at H
 obtain rfl:=oI H
 go_enter Tryz.func4,Tryz.ntmps4
 go_wp2
 go_ret
 exact⟨rfl,dR⟩
def IsS93(w0 W:World)(g:Nat)(f0:List Int)(f1:Int)(f2:Int):Prop :=∃A0 c0,W.heap[g]? = some (.cells #[.slice A0 f0.length c0,.int .i64 f1,.int .i64 f2] 60 (0,0))∧w0.heap.size≤g∧Kd.C (Kd.int .u8) w0 A0 f0.length f0
theorem IsS93.grown{w0 W:World}{g:Nat}{f0:List Int}{f1:Int}{f2:Int}{W1:World}{row:Option Nat}(h:IsS93 w0 W g f0 f1 f2)(hw:W.grownBy W1 row)(hne:some g≠row):IsS93 w0 W1 g f0 f1 f2:=by
 obtain⟨A0,c0,hb,hg,hr0⟩:=h
 exact⟨A0,c0,qT hb hw hne,hg,hr0⟩
theorem IsS93.kept{w0 W:World}{g:Nat}{f0:List Int}{f1:Int}{f2:Int}{W1:World}{S:Nat→Prop}(h:IsS93 w0 W g f0 f1 f2)(hk:Kept W W1 S)(hne :¬S g):IsS93 w0 W1 g f0 f1 f2:=by
 obtain⟨A0,c0,hb,hg,hr0⟩:=h
 exact⟨A0,c0,xD hb hk hne,hg,hr0⟩
theorem IsS93.below{w0 W:World}{g:Nat}{f0:List Int}{f1:Int}{f2:Int}{W1:World}(h:IsS93 w0 W g f0 f1 f2)(hw:Below W.heap.size W W1):IsS93 w0 W1 g f0 f1 f2:=h.grown (zT hw none) (by simp)
theorem IsS93.alloc{w0 W:World}{g:Nat}{f0:List Int}{f1:Int}{f2:Int}(h:IsS93 w0 W g f0 f1 f2)(o:Obj):IsS93 w0 (W.alloc o) g f0 f1 f2:=h.below (kO (Below.refl _ _) o)
theorem IsS93.drewN{w0 W:World}{g:Nat}{f0:List Int}{f1:Int}{f2:Int}(h:IsS93 w0 W g f0 f1 f2)(m:Nat):IsS93 w0 (W.drewN m) g f0 f1 f2:=h
theorem IsS93.drew{w0 W:World}{g:Nat}{f0:List Int}{f1:Int}{f2:Int}(h:IsS93 w0 W g f0 f1 f2):IsS93 w0 W.drew g f0 f1 f2:=h
theorem IsS93.apart{w0 W:World}{g:Nat}{f0:List Int}{f1:Int}{f2:Int}{α:Type}{d:Kd α}{e:Nat}{base:Nat}{ok:Nat→Prop}{v:Value}{xs:List α}(h:IsS93 w0 W g f0 f1 f2)(ho:d.R e W base ok v xs)(ht :∀q,q∈e::d.E→q≠60):d.R e W base (fun k=>ok k∧k≠g) v xs:=by
 obtain⟨A0,c0,hb,hg,hr0⟩:=h
 exact Kd.YJ ho hb ht
theorem tI{w0 w W W2:World}{g:Nat}{f0:List Int}{f1:Int}{f2:Int}{α:Type}{d:Kd α}{e base:Nat}{ok:Nat→Prop}{v:Value}{xs:List α}(k:Aside0 (d.R e w base ok v xs))(hk:KeepBut W W2 g none)(hI:IsS93 w0 W g f0 f1 f2:=by exact kI)(h:Below w.heap.size w W:=by repeat(with_reducible first|exact Below.refl _ _|apply kO|apply kM|apply kQ))(hd :∀q,q∈e::d.E→q≠60:=by decide):Aside0 (d.R e W2 base ok v xs):=⟨Kd.JC (Kd.YF (IsS93.apart hI (Kd.JK k.out h) hd) hk (fun _ h=>h.2)) (fun _ h=>h.1)⟩
theorem pA{w0 W:World}{g:Nat}{f0:List Int}{f1:Int}{f2:Int}{α:Type}{d:Kd α}{e:Nat}{base:Nat}{ok:Nat→Prop}{v:Value}{xs:List α}(h:IsS93 w0 W g f0 f1 f2)(ho:d.R e W base ok v xs)(ht:e≠60):some g≠v.ownBlock:=by
 obtain⟨A0,c0,hb,hg,hr0⟩:=h
 exact Kd.YM ho hb ht
theorem a6q{w0 W:World}{g:Nat}{f0:List Int}{f1:Int}{f2:Int}(h:IsS93 w0 W g f0 f1 f2):g<W.heap.size:=by
 obtain⟨A0,c0,hb,hg,hr0⟩:=h
 exact vD hb
theorem a2x{w0 W:World}{g:Nat}{f0:List Int}{f1:Int}{f2:Int}(h:IsS93 w0 W g f0 f1 f2):w0.heap.size≤g:=by
 obtain⟨A0,c0,hb,hg,hr0⟩:=h
 exact hg
theorem c7s{w0 W:World}{g:Nat}{f0:List Int}{f1:Int}{f2:Int}{a:Nat}{cs:Array Value}{t:TypeId}{fr:Nat×Nat}(h:IsS93 w0 W g f0 f1 f2)(hb2:W.heap[a]? = some (.cells cs t fr))(ht:t≠60):g≠a:=by
 obtain⟨A0,c0,hb,hg,hr0⟩:=h
 rintro rfl
 rw[hb]at hb2
 injection hb2 with hb2
 injection hb2 with _ ht2
 exact ht ht2.symm
theorem c2g{w0 W:World}{g:Nat}{f0:List Int}{f1:Int}{f2:Int}{p:Addr}(h:IsS93 w0 W g f0 f1 f2)(hne:g≠p.block)(u:Value):IsS93 w0 (W.setCell p u) g f0 f1 f2:=by
 obtain⟨A0,c0,hb,hg,hr0⟩:=h
 exact⟨A0,c0,uH hb hne u,hg,hr0⟩
theorem b3m{W:World}{g:Nat}{A0:Option Addr}{c0:Nat}{f0:List Int}{f1:Int}{f2:Int}(h:W.heap[g]? = some (.cells #[.slice A0 f0.length c0,.int .i64 f1,.int .i64 f2] 60 (0,0))):W.cell? ⟨g,0,none⟩=some (.slice A0 f0.length c0):=(kE h 0).trans rfl
theorem b3l{W:World}{g:Nat}{A0:Option Addr}{c0:Nat}{f0:List Int}{f1:Int}{f2:Int}(h:W.heap[g]? = some (.cells #[.slice A0 f0.length c0,.int .i64 f1,.int .i64 f2] 60 (0,0))):W.cell? ⟨g,1,none⟩=some (.int .i64 f1):=(kE h 1).trans rfl
theorem a2w{w0 W:World}{g:Nat}{f0:List Int}{f1:Int}{f2:Int}(h:IsS93 w0 W g f0 f1 f2)(x:Int):IsS93 w0 (W.setCell ⟨g,1,none⟩ (.int .i64 x)) g f0 x f2:=by
 obtain⟨A0,c0,hb,hg,hr0⟩:=h
 exact⟨A0,c0,by simpa using tF hb 1 (.int .i64 x),hg,hr0⟩
theorem b3k{W:World}{g:Nat}{A0:Option Addr}{c0:Nat}{f0:List Int}{f1:Int}{f2:Int}(h:W.heap[g]? = some (.cells #[.slice A0 f0.length c0,.int .i64 f1,.int .i64 f2] 60 (0,0))):W.cell? ⟨g,2,none⟩=some (.int .i64 f2):=(kE h 2).trans rfl
theorem a2v{w0 W:World}{g:Nat}{f0:List Int}{f1:Int}{f2:Int}(h:IsS93 w0 W g f0 f1 f2)(x:Int):IsS93 w0 (W.setCell ⟨g,2,none⟩ (.int .i64 x)) g f0 f1 x:=by
 obtain⟨A0,c0,hb,hg,hr0⟩:=h
 exact⟨A0,c0,by simpa using tF hb 2 (.int .i64 x),hg,hr0⟩
def vQ:Nat→List Int→Int→Int→Option (List Int×Int×Int)
 | 0,_,_,_=>none
 | k+1,x0,x3,x4=>if x4<(x0.length:Int)then(if x4<4000 then(if 0≤x4 then(vQ k x0 (Go.bits .and .i64 (wrap64 ((wrap64 ((wrap64 (x3*131))+(wrap64 (rd x0 x4))))+7)) 1073741823) (wrap64 (x4+1)))else(none))else(some (x0,0,x3)))else(some (x0,0,x3))
def zD(k:Nat)(l0:List Int):Option (List Int×Int×Int):=vQ k l0 (wrap64 (118118+(l0.length:Int))) 0
theorem c6e{P:Prop}(h:P:=by
 simp only[Option.some.injEq,Prod.mk.injEq]at H
 obtain⟨rfl,rfl,rfl⟩:=H
 go_wp2_with (((with_reducible refine gW ?_);refine bX 31 60 #[.slice A0 l0.length c0,.int .i64 0,.int .i64 a1] ?_;intro a2 hg aF hbox hb;replace HB:=hB HB hb;have aA:=am hbox;have a9:=am ((by rw[hg];exact(kG (by exact sW HBW.out)):w.heap.size≤a2));have a8:=am ((Nat.le_trans HW0.out (by rw[hg];exact(kG (by exact sW HBW.out)):w.heap.size≤a2):w0.heap.size≤a2));replace HBW:=am (zP HBW.out hb);clear hb hbox hg))
 go_ret
 exact⟨_,rfl,(show IsS93 w0 _ a2 l0 0 a1 from⟨_,_,sB<|aA.out,a8.out,a3.out⟩),bW,by repeat(first|(with_reducible first|exact HBW.out|apply kO|apply kM|apply kQ|refine kR ?_ a9.out)|exact HBW.out)⟩):P:=h
theorem XEi{k:Nat}{A0:Option Addr}{c0:Nat}{l0 r1:List Int}{r2 r3:Int}(w0 w:World)(hB:Below w0.heap.size w0 w)(hr0:Kd.C (Kd.int .u8) w0 A0 l0.length l0)(hc0:l0.length≤c0)(h:zD k l0=some (r1,r2,r3)) :
  Calls Tryz.prog 11 #[.slice A0 l0.length c0] w fun e w' =>∃g_:Nat,e= .returned (.pointer (some ⟨g_,0,none⟩))∧IsS93 w0 w' g_ r1 r2 r3∧Below w0.heap.size w0 w'∧Below w.heap.size w w':=by
 have hu93:=Tryz.underlying60
 have a3:=am hr0
 have aG:=am hc0
 clear hr0 hc0
 have HBW:=am (Below.refl w.heap.size w)
 have HW0:=am hB.size
 have HB:=am hB
 clear hB
 have H:=h
 clear h
 unfold zD at H
 replace H:=am H
 go_enter Tryz.func11,Tryz.ntmps11
 go_wp2
 go_loopg [3,4] k (fun kq v3 v4 w' =>∃(a1:Int) (a0:Int),v3= .int .i64 a1∧v4= .int .i64 a0∧Aside0 (vQ kq l0 a1 a0=some (r1,r2,r3))∧Aside0 (kq≤k)∧Aside0 (Below w0.heap.size w0 w')∧Aside0 (Below w.heap.size w w'))
 case atStart=>exact⟨(wrap64 (118118+(l0.length:Int))),0,rfl,rfl,H,⟨Nat.le_refl _⟩,⟨sW HB.out⟩,⟨sW HBW.out⟩⟩
 clear H
 obtain⟨a1,a0,rfl,rfl,HA,a4,HB,HBW⟩:=hrel
 cases gk with
 | zero=>cases HA.out
 | succ k1 =>
  obtain⟨H⟩:=HA
  simp only[vQ]at H
  replace H:=iD H;rcases H with⟨a6,H⟩|⟨a6,H⟩
  ·replace H:=iD H;rcases H with⟨a5,H⟩|⟨a5,H⟩
   ·replace H:=iN H;obtain⟨aE,H⟩:=H
    replace H:=am H
    obtain⟨aD,aC,aB,rfl,a7⟩:=ix (Kd.JD (Kd.JE a3.out HB.out) a0)
    go_wp2
    go_roundg k1
    case measure=>have:=a4.out;omega
    case rel=>exact⟨(Go.bits .and .i64 (wrap64 ((wrap64 ((wrap64 (a1*131))+(wrap64 (rd l0 a0))))+7)) 1073741823),(wrap64 (a0+1)),rfl,rfl,H,⟨by have:=a4.out;omega⟩,⟨sW HB.out⟩,⟨sW HBW.out⟩⟩
   exact c6e
  exact c6e
def rH(a0:Int):Option (Bool):=if a0=19 then(some true)else(some (a0==20))
theorem JOi{a0:Int}{r:Bool}{w:World}(h:rH a0=some r) :
  Calls Tryz.prog 21 #[.int .i64 a0] w fun e w'=>e= .returned (.bool r)∧Drawn0 w w':=by
 have H:=h
 clear h
 unfold rH at H
 replace H:=iE H;rcases H with⟨a2,a1,H⟩|⟨a2,a1,H⟩
 ·obtain rfl:=oI H
  go_enter Tryz.func21,Tryz.ntmps21
  go_wp2
  go_ret
  exact⟨rfl,dR⟩
 obtain rfl:=oI H
 go_enter Tryz.func21,Tryz.ntmps21
 go_wp2
 go_ret
 exact⟨rfl,dR⟩
def pX(a0:Int)(a1:Int)(a2:Int):Option (Bool):=if a0≥a1 then(some (decide (a0≤a2)))else(some false)
theorem c5t{P:Prop}(h:P:=by
 clear c4
 obtain rfl:=oI H
 go_enter Tryz.func42,Tryz.ntmps42
 go_wp2
 go_ret
 exact⟨rfl,dR⟩):P:=h
theorem JAi{a0 a1 a2:Int}{r:Bool}{w:World}(h:pX a0 a1 a2=some r) :
  Calls Tryz.prog 42 #[.int .i64 a0,.int .i64 a1,.int .i64 a2] w fun e w'=>e= .returned (.bool r)∧Drawn0 w w':=by
 have H:=h
 clear h
 unfold pX at H
 by_cases c4:a0≥a1
 ·rw[if_pos c4]at H
  have a3:decide (a1≤a0)=true:=decide_eq_true c4
  exact c5t
 rw[if_neg c4]at H
 have a3:decide (a1≤a0)=false:=decide_eq_false c4
 exact c5t
def tL(a2:List Int)(a1:Int)(a0:Int):Option (Int×Int×Int):=if a1<(a2.length:Int)then(if 0≤a1 then(some (Go.bits .and .i64 (wrap64 ((Go.bits .and .i64 (Go.bits .xor .i64 ((wrap64 ((wrap64 (a0*6364136223846793005))+1442695040888963407)) / 8589934592) ((wrap64 ((wrap64 (a0*6364136223846793005))+1442695040888963407)) / 35184372088832)) 255)+(wrap64 (rd a2 a1)))) 255,wrap64 (a1+1),wrap64 ((wrap64 (a0*6364136223846793005))+1442695040888963407)))else(none))else(some (Go.bits .and .i64 (Go.bits .xor .i64 ((wrap64 ((wrap64 (a0*6364136223846793005))+1442695040888963407)) / 8589934592) ((wrap64 ((wrap64 (a0*6364136223846793005))+1442695040888963407)) / 35184372088832)) 255,a1,wrap64 ((wrap64 (a0*6364136223846793005))+1442695040888963407)))
theorem c5j{P:Prop}(h:P:=by
 go_enter Tryz.func56,Tryz.ntmps56
 go_wp2
 repeat(go_quiet (fail);try go_wp2)
 go_ret
 exact⟨rfl,kI,kH,kB⟩):P:=h
theorem JYi{g:Nat}{a3:List Int}{a1 a2 r1 r2 r3:Int}(w0 w:World)(hI:IsS93 w0 w g a3 a1 a2)(hB:Below w0.heap.size w0 w)(h:tL a3 a1 a2=some (r1,r2,r3)) :
  Calls Tryz.prog 56 #[.pointer (some ⟨g,0,none⟩)] w fun e w'=>e= .returned (.int .i64 r1)∧IsS93 w0 w' g a3 r2 r3∧Below w0.heap.size w0 w'∧KeepBut w w' g none:=by
 have HI0:=am hI
 have HK:=am (KeepBut.refl w g none)
 have HL:=am hB.size
 clear hI
 have HW0:=am hB.size
 have HB:=am hB
 clear hB
 have H:=h
 clear h
 unfold tL at H
 replace H:=iD H;rcases H with⟨a8,H⟩|⟨a8,H⟩
 ·replace H:=iN H;obtain⟨aK,H⟩:=H
  simp only[Option.some.injEq,Prod.mk.injEq]at H
  obtain⟨rfl,rfl,rfl⟩:=H
  obtain⟨ASz4_0,cSz4_0,HGz4,hgz4,HSz4_0⟩:=HI0.out
  have aJ:=b3m HGz4
  have aI:=b3l HGz4
  have aH:=b3k HGz4
  have aD:=kF HGz4 1
  have aC:=kF HGz4 2
  clear HGz4 hgz4
  have a5:0≤(a1:Int):=oD (by assumption)
  have a4:a1<(a3.length:Int):=oD (by assumption)
  obtain⟨a6,a7,a0⟩:=Kd.JD HSz4_0 a1 a5 a4
  cases a7
  have hn287_0:a6.block≠g:=Nat.ne_of_lt (Nat.lt_of_lt_of_le (by have:=World.block_lt_of_cell? _ _ a0;rwa [tK]at this) (a2x HI0.out))
  replace a0:=kC HB.out a0
  replace a0:=(qC (p:=⟨g,2,none⟩) (by(rw[tK];exact hn287_0)) (.int .i64 (wrap64 ((wrap64 (a2*6364136223846793005))+1442695040888963407)))).trans a0
  (try have a9:=fun(n_:Nat)=>(show(((w.drewN n_).setCell ⟨g,2,none⟩ (.int .i64 (wrap64 ((wrap64 (a2*6364136223846793005))+1442695040888963407))))).cell? _=some _ from a0))
  clear hn287_0
  replace a5:=eq_true a5
  replace a4:=eq_true a4
  exact c5j
 simp only[Option.some.injEq,Prod.mk.injEq]at H
 obtain⟨rfl,rfl,rfl⟩:=H
 obtain⟨ASz5_0,cSz5_0,HGz5,hgz5,HSz5_0⟩:=HI0.out
 have aG:=b3m HGz5
 have aF:=b3l HGz5
 have aE:=b3k HGz5
 have aB:=kF HGz5 1
 have aA:=kF HGz5 2
 clear HGz5 hgz5
 exact c5j
def kV(a0:List Int)(a8:Int)(a7:Int)(a1:Int):Option (Int×Int×Int):=if a1≤0 then(some (0,a8,a7))else(if a1≤256 then((tL a0 a8 a7).bind fun a6=>(if a1=0 then(none)else(some (Int.tmod a6.1 a1,a6.2.1,a6.2.2))))else((tL a0 a8 a7).bind fun a5=>((tL a0 a5.2.1 a5.2.2).bind fun a4=>((tL a0 a4.2.1 a4.2.2).bind fun a3=>((tL a0 a3.2.1 a3.2.2).bind fun a2=>(if a1=0 then(none)else(some (Int.tmod (wrap64 ((wrap64 ((wrap64 ((wrap64 (a5.1*16777216))+(wrap64 (a4.1*65536))))+(wrap64 (a3.1*256))))+a2.1)) a1,a2.2.1,a2.2.2))))))))
theorem JEi(g:Nat)(a0:List Int)(a4 a3 a1 r1 r2 r3:Int)(w0 w:World)(hI:IsS93 w0 w g a0 a4 a3)(hB:Below w0.heap.size w0 w)(h:kV a0 a4 a3 a1=some (r1,r2,r3)) :
  Calls Tryz.prog 33 #[.pointer (some ⟨g,0,none⟩),.int .i64 a1] w fun e w'=>e= .returned (.int .i64 r1)∧IsS93 w0 w' g a0 r2 r3∧Below w0.heap.size w0 w'∧KeepBut w w' g none:=by
 have HI0:=am hI
 have HK:=am (KeepBut.refl w g none)
 have HL:=am hB.size
 clear hI
 have HW0:=am hB.size
 have HB:=am hB
 clear hB
 have H:=h
 clear h
 unfold kV at H
 replace H:=iD H;rcases H with⟨a6,H⟩|⟨a6,H⟩
 ·simp only[Option.some.injEq,Prod.mk.injEq]at H
  obtain⟨rfl,rfl,rfl⟩:=H
  go_enter Tryz.func33,Tryz.ntmps33
  go_wp2
  go_ret
  exact⟨rfl,kI,kH,kB⟩
 replace H:=iD H;rcases H with⟨a5,H⟩|⟨a5,H⟩
 ·replace H:=oA H;obtain⟨⟨aQ,aO,aN⟩,A5,H⟩:=H
  try dsimp only at H
  by_cases c6:a1=0
  ·rw[if_pos c6]at H
   exact absurd H (by simp)
  rw[if_neg c6]at H
  have aS:(a1==0)=false:=beq_eq_false_iff_ne.mpr c6
  have aR:(a1 !=0)=true:=bne_iff_ne.mpr c6
  simp only[Option.some.injEq,Prod.mk.injEq]at H
  obtain⟨rfl,rfl,rfl⟩:=H
  go_enter Tryz.func33,Tryz.ntmps33
  go_wp2_with (((with_reducible refine gW ?_);refine gF 56 (some 14) rfl ?_;refine gS Tryz.func56 (JYi w0 _ kI kH A5.out) ?_;rintro w7 ⟨hi,hb,hk⟩;replace HK:=kT hk;replace HB:=am hb;replace HI0:=am hi;(try clear hb);(try clear hk);(try clear hi)))
  go_ret
  exact⟨rfl,kI,kH,kB⟩
 replace H:=oA H;obtain⟨⟨aM,aL,aK⟩,A8,H⟩:=H
 try dsimp only at H
 replace H:=oA H;obtain⟨⟨aJ,aI,aH⟩,A9,H⟩:=H
 try dsimp only at H
 replace H:=oA H;obtain⟨⟨aG,aF,aE⟩,a8,H⟩:=H
 try dsimp only at H
 replace H:=oA H;obtain⟨⟨aD,aC,aB⟩,a7,H⟩:=H
 try dsimp only at H
 by_cases a2:a1=0
 ·rw[if_pos a2]at H
  exact absurd H (by simp)
 rw[if_neg a2]at H
 have aA:(a1==0)=false:=beq_eq_false_iff_ne.mpr a2
 have a9:(a1 !=0)=true:=bne_iff_ne.mpr a2
 simp only[Option.some.injEq,Prod.mk.injEq]at H
 obtain⟨rfl,rfl,rfl⟩:=H
 go_enter Tryz.func33,Tryz.ntmps33
 go_wp2_with (((with_reducible refine gW ?_);first|(refine gF 56 (some 18) rfl ?_;refine gS Tryz.func56 (JYi w0 _ kI kH A8.out) ?_;rintro w13 ⟨hi,hb,hk⟩;replace HK:=kT hk;replace HB:=am hb;replace HI0:=am hi;(try clear hb);(try clear hk);(try clear hi))|(refine gF 56 (some 20) rfl ?_;refine gS Tryz.func56 (JYi w0 _ kI kH A9.out) ?_;rintro w14 ⟨hi,hb,hk⟩;replace HK:=kT hk;replace HB:=am hb;replace HI0:=am hi;(try clear hb);(try clear hk);(try clear hi))|(refine gF 56 (some 22) rfl ?_;refine gS Tryz.func56 (JYi w0 _ kI kH a8.out) ?_;rintro w15 ⟨hi,hb,hk⟩;replace HK:=kT hk;replace HB:=am hb;replace HI0:=am hi;(try clear hb);(try clear hk);(try clear hi))|(refine gF 56 (some 24) rfl ?_;refine gS Tryz.func56 (JYi w0 _ kI kH a7.out) ?_;rintro w16 ⟨hi,hb,hk⟩;replace HK:=kT hk;replace HB:=am hb;replace HI0:=am hi;(try clear hb);(try clear hk);(try clear hi))))
 go_ret
 exact⟨rfl,kI,kH,kB⟩
def rT(a4:List Int)(a3:Int)(a2:Int)(a1:Int):Option (Bool×Int×Int):=(kV a4 a3 a2 a1).bind fun a0=>(some ((a0.1==0),a0.2.1,a0.2.2))
theorem JTi{g:Nat}{a0:List Int}{a3 a2 a1:Int}{r1:Bool}{r2 r3:Int}(w0 w:World)(hI:IsS93 w0 w g a0 a3 a2)(hB:Below w0.heap.size w0 w)(h:rT a0 a3 a2 a1=some (r1,r2,r3)) :
  Calls Tryz.prog 32 #[.pointer (some ⟨g,0,none⟩),.int .i64 a1] w fun e w'=>e= .returned (.bool r1)∧IsS93 w0 w' g a0 r2 r3∧Below w0.heap.size w0 w'∧KeepBut w w' g none:=by
 have HI0:=am hI
 have HK:=am (KeepBut.refl w g none)
 have HL:=am hB.size
 clear hI
 have HW0:=am hB.size
 have HB:=am hB
 clear hB
 have H:=h
 clear h
 unfold rT at H
 replace H:=oA H;obtain⟨⟨a6,a5,a4⟩,A3,H⟩:=H
 try dsimp only at H
 simp only[Option.some.injEq,Prod.mk.injEq]at H
 obtain⟨rfl,rfl,rfl⟩:=H
 go_enter Tryz.func32,Tryz.ntmps32
 go_wp2_with (((with_reducible refine gW ?_);refine gF 33 (some 7) rfl ?_;refine gS Tryz.func33 (JEi _ _ _ _ _ _ _ _ w0 _ kI kH A3.out) ?_;rintro w4 ⟨hi,hb,hk⟩;replace HK:=kT hk;replace HB:=am hb;replace HI0:=am hi;(try clear hb);(try clear hk);(try clear hi)))
 go_ret
 exact⟨rfl,kI,kH,kB⟩
def qB(l0:List (S31))(a5:Int)(a4:Int)(a3:Int)(a2:Int)(a1:Int)(a0:Int):Option ((List (S31))×Int):=if l0.length<2932031007402 then(some ((l0++[(⟨a5,a4,a3,a2,a1,a0⟩:S31)]),(l0.length:Int)))else(none)
theorem JMi(P0_:Nat→Prop)(u9000_:Value)(l0:List (S31))(a5 a4 a3 a2 a1 a0:Int)(r1:List (S31))(r2:Int)(w0 w:World)(hB:Below w0.heap.size w0 w)(aG:Kd.R k31 33 w w0.heap.size P0_ u9000_ l0)(h:qB l0 a5 a4 a3 a2 a1 a0=some (r1,r2)) :
  Calls Tryz.prog 105 #[u9000_,.agg #[.int .i64 a5,.int .i64 a4,.int .i64 a3,.int .i64 a2,.int .i64 a1,.int .i64 a0]] w fun e w' =>∃aD:Value,e= .returned (.tuple #[aD,.int .i64 r2])∧Kd.R k31 33 w' w0.heap.size (fun k_=>(P0_ k_∨w.heap.size≤k_)) aD r1∧Below w0.heap.size w0 w'∧Kept w w' (fun k_=>P0_ k_):=by
 have hu31:=Tryz.underlying33
 have a8:=am (show Kd.R k31 33 w w0.heap.size (fun k_=>(P0_ k_∨w.heap.size≤k_)) u9000_ l0 from Kd.JC aG (fun k_ hk=>(.inl hk)))
 have HK:=am (Kept.refl w (fun k_=>P0_ k_))
 have HW0:=am hB.size
 have HB:=am hB
 clear hB
 have H:=h
 clear h
 unfold qB at H
 replace H:=iP H;obtain⟨c3,H⟩:=H
 have aE:=am c3
 clear c3
 generalize a9:l0++[(⟨a5,a4,a3,a2,a1,a0⟩:S31)]=aZ at H
 have aA:=am a9.symm;clear a9
 simp only[Option.some.injEq,Prod.mk.injEq]at H
 obtain⟨rfl,rfl⟩:=H
 obtain⟨Ao_push_,co_push_,rfl⟩:=Kd.JB a8.out
 go_enter Tryz.func105,Tryz.ntmps105
 go_wp2_with (((with_reducible refine gW ?_);first|(refine bX 3 33 #[.int .i64 a5,.int .i64 a4,.int .i64 a3,.int .i64 a2,.int .i64 a1,.int .i64 a0] ?_;intro a6 hg w4 hbox hb;replace a8:=am (Kd.JK (Kd.XE (by exact sR<|a8.out) a6 (Nat.le_of_eq hg.symm)) hb);have a7:=am hbox;have aX:=am ((by rw[hg];exact(by exact HK.out.1):w.heap.size≤a6));replace HK:=am (Kept.below (S:=(fun k_=>P0_ k_)) (by exact sK HK.out) hb);have aY:=am ((by rw[hg];exact(kG (by exact sW HB.out)):w0.heap.size≤a6));replace HB:=hB HB hb;clear hb hbox hg;obtain⟨⟨aW,aV,aU,aT,aR,aQ⟩,aN,aM,aK,aJ,aI,aH⟩:=cf6 a7.out)|((with_reducible refine kZ (b:= .append) (xs:= #[.tmp 6,.tmp 8]) rfl ?_);at_builtin;refine Kd.JQ k31 (w0:=w0) w0.heap.size rfl (.tmp 6) (.tmp 8) 24 33 (.agg #[(.int .i64 0),(.int .i64 0),(.int .i64 0),(.int .i64 0),(.int .i64 0),(.int .i64 0)]) 48 rfl Tryz.underlying24 yT rfl (by decide) oM (Value.slice Ao_push_ l0.length co_push_) l0 (⟨a5,a4,a3,a2,a1,a0⟩:S31) [.int .i64 a5,.int .i64 a4,.int .i64 a3,.int .i64 a2,.int .i64 a1,.int .i64 a0] (fun k_=>(P0_ k_∨w.heap.size≤k_)∧k_≠a6) (fun _=>False) rfl rfl ?aP (fun _ hk=>hk.elim) ?aF ?aO ?aB ?aS ?aL ?_;(case aP=>exact vE _ _ _ (⟨a5,a4,a3,a2,a1,a0⟩:S31));(case aB=>exact(by exact bW));(case aF=>exact(fun k_ hk=>⟨(.inr (Nat.le_trans (by exact HK.out.1) hk)),Kd.YG (g:=a6) (o:= .cells #[.int .i64 a5,.int .i64 a4,.int .i64 a3,.int .i64 a2,.int .i64 a1,.int .i64 a0] 33 (0,0)) (by exact sB<|a7.out) k_ hk⟩));(case aO=>exact(by exact sR<|a8.out));(case aS=>exact(kG (by exact bW)));(case aL=>have:=aE.out;omega);intro a_ w6 ho hb hg hat;rw[← aA.out]at ho;replace a7:=am (qT (g:=a6) (o:= .cells #[.int .i64 a5,.int .i64 a4,.int .i64 a3,.int .i64 a2,.int .i64 a1,.int .i64 a0] 33 (0,0)) (by exact sB<|a7.out) hg (Kd.YD a8.out (fun _ hk=>hk.2)));replace HB:=am hb;replace HK:=am (qM (S:=(fun k_=>P0_ k_)) hg (by exact sK HK.out) (fun k_ e_=>(a8.out.1 k_ e_).1));have aC:=am ho;clear a8;clear ho hb hg hat)))
 go_ret2
 exact⟨_,rfl,sR<|Kd.JC aC.out (fun _ hk=>hk.1),bW,sK HK.out⟩
def wK:Nat→Bool→Int→Int→Int→Int→Int→Int→Option (List Int)
 | 0,_,_,_,_,_,_,_=>none
 | k+1,x3,a2,a6,a5,a0,a1,a3=>if x3=true then(some (([a0]:List Int)))else((pX a2 3 16).bind fun a4=>(if a4=true then(some (([a0,a1]:List Int)))else(if a2=18 then(some (([a0,a1,a3]:List Int)))else(some (([]:List Int))))))
def sZ(k:Nat)(a0:Int)(a5:Int)(a4:Int)(a3:Int)(a2:Int)(a1:Int):Option (List Int):=if a0=2 then(wK k true a0 a5 a4 a3 a2 a1)else(if a0=17 then(wK k true a0 a5 a4 a3 a2 a1)else(if a0=19 then(wK k true a0 a5 a4 a3 a2 a1)else(wK k (a0==20) a0 a5 a4 a3 a2 a1)))
theorem c5c{P:Prop}(h:P:=by
 replace H:=am H
 have bZ:=cf6 a0.out
 go_wp2
 go_meet
 case rel=>exact⟨_,true,rfl,H,⟨oM⟩,⟨sB<|a0.out⟩,⟨bW⟩⟩):P:=h
theorem JRi{k:Nat}{a4 a6 a5 a1 a2 a3:Int}{r:List Int}{w:World}(h:sZ k a4 a6 a5 a1 a2 a3=some r) :
  Calls Tryz.prog 45 #[.agg #[.int .i64 a4,.int .i64 a6,.int .i64 a5,.int .i64 a1,.int .i64 a2,.int .i64 a3]] w fun e w' =>∃aU:Value,e= .returned (aU)∧Kd.R (Kd.int .i64) 3 w' w.heap.size (fun _=>True) aU r∧Below w.heap.size w w':=by
 have hu31:=Tryz.underlying33
 have HB:=am (Below.refl w.heap.size w)
 have H:=h
 clear h
 unfold sZ at H
 have aG:=am H;clear H
 go_enter Tryz.func45,Tryz.ntmps45
 go_upto_region 1 with(((with_reducible refine pU (N:=1) rfl ?_);refine wG ?hg (N:=1) ?hd (cs:= #[.int .i64 a4,.int .i64 a6,.int .i64 a5,.int .i64 a1,.int .i64 a2,.int .i64 a3]) (t:=33) ?hr ?_;(case hd=>rfl);(case hg=>rfl);(case hr=>(go_simp;done));intro aI hg w3 hbox hb;have aY:=am (zP (by exact sW HB.out) hb);have aX:=am (hbox);have aW:=gw hg;have aV:=gw hg;clear HB;have HB:=aY;have a0:=aX;have bL:=aW;have bM:=aV;clear aY aX aW aV;clear hb hbox hg))
 (try simp only[Act.put,List.setIfInBounds_toArray,List.set_cons_zero,List.set_cons_succ])
 go_cut [3] (fun v3 wc =>∃(kq:Nat) (a7:Bool),v3= .bool a7∧Aside0 (wK kq a7 a4 a6 a5 a1 a2 a3=some r)∧Aside0 (kq≤k)∧Aside0 (wc.heap[aI]? = some (.cells #[.int .i64 a4,.int .i64 a6,.int .i64 a5,.int .i64 a1,.int .i64 a2,.int .i64 a3] 33 (0,0)))∧Aside0 (Below w.heap.size w wc))
 case first =>
  have H:=aG.out
  clear aG
  replace H:=iE H;rcases H with⟨b3,b2,H⟩|⟨b3,b2,H⟩
  ·replace H:=am H
   obtain⟨⟨bK,bJ,bI,bH,bG,bF⟩,bE,bD,bC,bB,bA,b9⟩:=cf6 a0.out
   go_wp2
   go_meet
   case rel=>exact⟨_,true,rfl,H,⟨oM⟩,⟨sB<|a0.out⟩,⟨bW⟩⟩
  replace H:=iE H;rcases H with⟨b1,b0,H⟩|⟨b1,b0,H⟩
  ·exact c5c
  replace H:=iE H;rcases H with⟨a_,aZ,H⟩|⟨a_,aZ,H⟩
  ·exact c5c
  replace H:=am H
  have b8:=cf6 a0.out
  go_wp2
  go_meet
  case rel=>exact⟨_,((a4==20)),rfl,H,⟨oM⟩,⟨sB<|a0.out⟩,⟨bW⟩⟩
 clear aG
 obtain⟨kq,a7,rfl,HA,c0,a0,HB⟩:=hcut
 cases kq with
 | zero=>cases HA.out
 | succ b_ =>
  obtain⟨H⟩:=HA
  simp only[wK]at H
  replace H:=iB H;rcases H with⟨rfl,H⟩|⟨rfl,H⟩
  ·generalize aF:([a1]:List Int)=bQ at H
   have aO:=am aF.symm;clear aF
   obtain rfl:=oI H
   have b7:=cf6 a0.out
   go_wp2_with (((with_reducible refine pU (N:=24) rfl ?_);refine Kd.YC (Kd.int .i64) _ 3 ?hg (N:=24) ?hd (xs:=([a1]:List Int)) (inner:=[.int .i64 a1]) (ok:=fun _=>True) (okp:=fun _=>True) ?hr ?hp (fun _ hk=>hk) trivial (Below.refl _ _) (Nat.le_refl _) (by simp) ?_;(case hd=>rfl);(case hg=>rfl);(case hr=>(go_simp;done));(case hp=>exact(Reps.one (show Kd.M (Kd.int .i64) _ _ _ a1 [.int .i64 a1]from rfl) (Reps.none _ _)));intro bU w13 aB hb hg_ hnew_;clear hg_ hnew_;(rw[← aO.out]at aB);have aT:=am (Kd.JF aB (kG (by exact bW)));replace a0:=gB a0 hb;replace HB:=hX hb;clear hb aB))
   go_ret
   exact⟨_,rfl,sR<|aT.out,bW⟩
  replace H:=oA H;obtain⟨bV,aH,H⟩:=H
  replace H:=iB H;rcases H with⟨rfl,H⟩|⟨rfl,H⟩
  ·generalize aE:([a1,a2]:List Int)=bP at H
   have aN:=am aE.symm;clear aE
   obtain rfl:=oI H
   have b6:=cf6 a0.out
   go_wp2_with (((with_reducible refine gW ?_);first|(refine gD (some 28) Tryz.func42 rfl (JAi aH.out) fun nd=>?_)|((with_reducible refine pU (N:=33) rfl ?_);refine Kd.YC (Kd.int .i64) _ 3 ?hg (N:=33) ?hd (xs:=([a1,a2]:List Int)) (inner:=[.int .i64 a1,.int .i64 a2]) (ok:=fun _=>True) (okp:=fun _=>True) ?hr ?hp (fun _ hk=>hk) trivial (Below.refl _ _) (Nat.le_refl _) (by simp) ?_;(case hd=>rfl);(case hg=>rfl);(case hr=>(go_simp;done));(case hp=>exact(Reps.one (show Kd.M (Kd.int .i64) _ _ _ a1 [.int .i64 a1]from rfl) (Reps.one (show Kd.M (Kd.int .i64) _ _ _ a2 [.int .i64 a2]from rfl) (Reps.none _ _))));intro bT w18 aA hb hg_ hnew_;clear hg_ hnew_;(rw[← aN.out]at aA);have aS:=am (Kd.JF aA (kG (by exact bW)));replace a0:=gB a0 hb;replace HB:=hX hb;clear hb aA)))
   go_ret
   exact⟨_,rfl,sR<|aS.out,bW⟩
  replace H:=iE H;rcases H with⟨aK,aJ,H⟩|⟨aK,aJ,H⟩
  ·generalize aD:([a1,a2,a3]:List Int)=bO at H
   have aM:=am aD.symm;clear aD
   obtain rfl:=oI H
   have b5:=cf6 a0.out
   go_wp2_with (((with_reducible refine gW ?_);first|(refine gD (some 28) Tryz.func42 rfl (JAi aH.out) fun nd=>?_)|((with_reducible refine pU (N:=44) rfl ?_);refine Kd.YC (Kd.int .i64) _ 3 ?hg (N:=44) ?hd (xs:=([a1,a2,a3]:List Int)) (inner:=[.int .i64 a1,.int .i64 a2,.int .i64 a3]) (ok:=fun _=>True) (okp:=fun _=>True) ?hr ?hp (fun _ hk=>hk) trivial (Below.refl _ _) (Nat.le_refl _) (by simp) ?_;(case hd=>rfl);(case hg=>rfl);(case hr=>(go_simp;done));(case hp=>exact(Reps.one (show Kd.M (Kd.int .i64) _ _ _ a1 [.int .i64 a1]from rfl) (Reps.one (show Kd.M (Kd.int .i64) _ _ _ a2 [.int .i64 a2]from rfl) (Reps.one (show Kd.M (Kd.int .i64) _ _ _ a3 [.int .i64 a3]from rfl) (Reps.none _ _)))));intro bS w22 a9 hb hg_ hnew_;clear hg_ hnew_;(rw[← aM.out]at a9);have aR:=am (Kd.JF a9 (kG (by exact bW)));replace a0:=gB a0 hb;replace HB:=hX hb;clear hb a9)))
   go_ret
   exact⟨_,rfl,sR<|aR.out,bW⟩
  generalize aC:([]:List Int)=bN at H
  have aL:=am aC.symm;clear aC
  obtain rfl:=oI H
  have b4:=cf6 a0.out
  go_wp2_with (((with_reducible refine gW ?_);first|(refine gD (some 28) Tryz.func42 rfl (JAi aH.out) fun nd=>?_)|(refine lE (Kd.int .i64) 3 45 ?_;intro bR w25 a8 hb;(rw[← aL.out]at a8);have aQ:=am (Kd.JF a8 (kG (by exact bW)));replace a0:=gB a0 hb;replace HB:=hX hb;clear hb a8)))
  go_ret
  exact⟨_,rfl,sR<|aQ.out,bW⟩
def xG:Nat→Int→Int→Int→Option (Int)
 | 0,_,_,_=>none
 | k+1,x0,x3,x4=>if x4<x0 then(xG k x0 (wrap64 (2*x3)) (wrap64 (x4+1)))else(some x3)
def kY(k:Nat)(a0:Int):Option (Int):=xG k a0 1 0
theorem JCi{k:Nat}{a0 r:Int}{w:World}(h:kY k a0=some r) :
  Calls Tryz.prog 46 #[.int .i64 a0] w fun e w'=>e= .returned (.int .i64 r)∧Drawn0 w w':=by
 have H:=h
 clear h
 unfold kY at H
 replace H:=am H
 go_enter Tryz.func46,Tryz.ntmps46
 go_wp2
 go_loopg [3,4] k (fun kq v3 v4 w' =>∃(a2:Int) (a1:Int),v3= .int .i64 a2∧v4= .int .i64 a1∧Aside0 (xG kq a0 a2 a1=some r)∧Aside0 (kq≤k)∧Drawn0 w w')
 case atStart=>exact⟨1,0,rfl,rfl,H,⟨Nat.le_refl _⟩,dR⟩
 clear H
 obtain⟨a2,a1,rfl,rfl,HA,a3,⟨m1,rfl⟩⟩:=hrel
 cases gk with
 | zero=>cases HA.out
 | succ k1 =>
  obtain⟨H⟩:=HA
  simp only[xG]at H
  replace H:=iD H;rcases H with⟨a4,H⟩|⟨a4,H⟩
  ·replace H:=am H
   go_wp2
   go_roundg k1
   case measure=>have:=a3.out;omega
   case rel=>exact⟨(wrap64 (2*a2)),(wrap64 (a1+1)),rfl,rfl,H,⟨by have:=a3.out;omega⟩,dR⟩
  obtain rfl:=oI H
  go_wp2
  go_ret
  exact⟨rfl,dR⟩
def rV(k:Nat)(a0:Int)(a1:Int):Option (Bool):=(pX a0 1 8).bind fun a4=>(if a4=true then((kY k a0).bind fun a3=>((pX a1 0 (wrap64 (a3-1))).bind fun a2=>(some a2)))else(some false))
theorem JGi{k:Nat}{a0 a1:Int}{r:Bool}{w:World}(h:rV k a0 a1=some r) :
  Calls Tryz.prog 47 #[.int .i64 a0,.int .i64 a1] w fun e w'=>e= .returned (.bool r)∧Drawn0 w w':=by
 have H:=h
 clear h
 unfold rV at H
 replace H:=oA H;obtain⟨a4,A3,H⟩:=H
 replace H:=iB H;rcases H with⟨rfl,H⟩|⟨rfl,H⟩
 ·replace H:=oA H;obtain⟨a3,A5,H⟩:=H
  replace H:=oA H;obtain⟨a2,A6,H⟩:=H
  obtain rfl:=oI H
  go_enter Tryz.func47,Tryz.ntmps47
  go_wp2_with (first|(go_at_call 46;refine cD (JCi A5.out) fun nd=>?_)|(go_at_call 42;refine cD (JAi A6.out) fun nd=>?_)|((with_reducible refine gW ?_);refine gD (some 6) Tryz.func42 rfl (JAi A3.out) fun nd=>?_))
  go_ret
  exact⟨rfl,dR⟩
 obtain rfl:=oI H
 go_enter Tryz.func47,Tryz.ntmps47
 go_wp2_with (((with_reducible refine gW ?_);refine gD (some 6) Tryz.func42 rfl (JAi A3.out) fun nd=>?_))
 go_ret
 exact⟨rfl,dR⟩
end Go.Proofs.YtkpipmojkhikaaaGreat.PAll
