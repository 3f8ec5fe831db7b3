/- Go functions as Lean functions: a call comes to what they say. -/
import Derived.Test.YtkpipmojkhikaaaGreatVValues13
import Derived.Test.YtkpipmojkhikaaaGreatVValues20
namespace Go.Proofs.YtkpipmojkhikaaaGreat.PAll
open Go.RowKit Go.A_ Go.B_ Go.C_ Go.D_
attribute [local go_sem] rF rC tE tD qK qJ rD rA
set_option linter.unusedVariables false
set_option maxHeartbeats 8000000
set_option maxRecDepth 100000
set_option linter.unusedSimpArgs false
section
attribute [local go_sem high] d1s
variable {Ax:Option Addr} {cx:Nat}
def IsS84(Ax:Option Addr)(cx:Nat)(w0 W:World)(g:Nat)(f0:ByteArray)(f1:Int)(f2:List (S31))(f3:Int)(f4:Int):Prop :=∃A2 c2,W.heap[g]? = some (.cells #[.string f0,.int .i64 f1,.slice A2 f2.length c2,.int .i64 f3,.int .i64 f4] 81 (0,0))∧w0.heap.size≤g∧(A2=Ax∧c2=cx)
theorem IsS84.grown{w0 W:World}{g:Nat}{f0:ByteArray}{f1:Int}{f2:List (S31)}{f3:Int}{f4:Int}{W1:World}{row:Option Nat}(h:IsS84 Ax cx w0 W g f0 f1 f2 f3 f4)(hw:W.grownBy W1 row)(hne:some g≠row):IsS84 Ax cx w0 W1 g f0 f1 f2 f3 f4:=by
 obtain⟨A2,c2,hb,hg,hr2⟩:=h
 exact⟨A2,c2,qT hb hw hne,hg,hr2⟩
theorem IsS84.below{w0 W:World}{g:Nat}{f0:ByteArray}{f1:Int}{f2:List (S31)}{f3:Int}{f4:Int}{W1:World}(h:IsS84 Ax cx w0 W g f0 f1 f2 f3 f4)(hw:Below W.heap.size W W1):IsS84 Ax cx w0 W1 g f0 f1 f2 f3 f4:=h.grown (zT hw none) (by simp)
theorem IsS84.alloc{w0 W:World}{g:Nat}{f0:ByteArray}{f1:Int}{f2:List (S31)}{f3:Int}{f4:Int}(h:IsS84 Ax cx w0 W g f0 f1 f2 f3 f4)(o:Obj):IsS84 Ax cx w0 (W.alloc o) g f0 f1 f2 f3 f4:=h.below (kO (Below.refl _ _) o)
theorem IsS84.drewN{w0 W:World}{g:Nat}{f0:ByteArray}{f1:Int}{f2:List (S31)}{f3:Int}{f4:Int}(h:IsS84 Ax cx w0 W g f0 f1 f2 f3 f4)(m:Nat):IsS84 Ax cx w0 (W.drewN m) g f0 f1 f2 f3 f4:=h
theorem IsS84.drew{w0 W:World}{g:Nat}{f0:ByteArray}{f1:Int}{f2:List (S31)}{f3:Int}{f4:Int}(h:IsS84 Ax cx w0 W g f0 f1 f2 f3 f4):IsS84 Ax cx w0 W.drew g f0 f1 f2 f3 f4:=h
theorem a1q{w0 W:World}{g:Nat}{f0:ByteArray}{f1:Int}{f2:List (S31)}{f3:Int}{f4:Int}(h:IsS84 Ax cx w0 W g f0 f1 f2 f3 f4):g<W.heap.size:=by
 obtain⟨A2,c2,hb,hg,hr2⟩:=h
 exact vD hb
theorem c4m{w0 W:World}{g:Nat}{f0:ByteArray}{f1:Int}{f2:List (S31)}{f3:Int}{f4:Int}(h:IsS84 Ax cx w0 W g f0 f1 f2 f3 f4):w0.heap.size≤g:=by
 obtain⟨A2,c2,hb,hg,hr2⟩:=h
 exact hg
theorem xR{w0 W:World}{g:Nat}{f0:ByteArray}{f1:Int}{f2:List (S31)}{f3:Int}{f4:Int}{a:Nat}{cs:Array Value}{t:TypeId}{fr:Nat×Nat}(h:IsS84 Ax cx w0 W g f0 f1 f2 f3 f4)(hb2:W.heap[a]? = some (.cells cs t fr))(ht:t≠81):g≠a:=by
 obtain⟨A2,c2,hb,hg,hr2⟩:=h
 rintro rfl
 rw[hb]at hb2
 injection hb2 with hb2
 injection hb2 with _ ht2
 exact ht ht2.symm
theorem xS{w0 W:World}{g:Nat}{f0:ByteArray}{f1:Int}{f2:List (S31)}{f3:Int}{f4:Int}{p:Addr}(h:IsS84 Ax cx w0 W g f0 f1 f2 f3 f4)(hne:g≠p.block)(u:Value):IsS84 Ax cx w0 (W.setCell p u) g f0 f1 f2 f3 f4:=by
 obtain⟨A2,c2,hb,hg,hr2⟩:=h
 exact⟨A2,c2,uH hb hne u,hg,hr2⟩
theorem xQ{W:World}{g:Nat}{A2:Option Addr}{c2:Nat}{f0:ByteArray}{f1:Int}{f2:List (S31)}{f3:Int}{f4:Int}(h:W.heap[g]? = some (.cells #[.string f0,.int .i64 f1,.slice A2 f2.length c2,.int .i64 f3,.int .i64 f4] 81 (0,0))):W.cell? ⟨g,0,none⟩=some (.string f0):=(kE h 0).trans rfl
theorem b5d{w0 W:World}{g:Nat}{f0:ByteArray}{f1:Int}{f2:List (S31)}{f3:Int}{f4:Int}(h:IsS84 Ax cx w0 W g f0 f1 f2 f3 f4)(x:ByteArray):IsS84 Ax cx w0 (W.setCell ⟨g,0,none⟩ (.string x)) g x f1 f2 f3 f4:=by
 obtain⟨A2,c2,hb,hg,hr2⟩:=h
 exact⟨A2,c2,by simpa using tF hb 0 (.string x),hg,hr2⟩
theorem xP{W:World}{g:Nat}{A2:Option Addr}{c2:Nat}{f0:ByteArray}{f1:Int}{f2:List (S31)}{f3:Int}{f4:Int}(h:W.heap[g]? = some (.cells #[.string f0,.int .i64 f1,.slice A2 f2.length c2,.int .i64 f3,.int .i64 f4] 81 (0,0))):W.cell? ⟨g,1,none⟩=some (.int .i64 f1):=(kE h 1).trans rfl
theorem b5c{w0 W:World}{g:Nat}{f0:ByteArray}{f1:Int}{f2:List (S31)}{f3:Int}{f4:Int}(h:IsS84 Ax cx w0 W g f0 f1 f2 f3 f4)(x:Int):IsS84 Ax cx w0 (W.setCell ⟨g,1,none⟩ (.int .i64 x)) g f0 x f2 f3 f4:=by
 obtain⟨A2,c2,hb,hg,hr2⟩:=h
 exact⟨A2,c2,by simpa using tF hb 1 (.int .i64 x),hg,hr2⟩
theorem xO{W:World}{g:Nat}{A2:Option Addr}{c2:Nat}{f0:ByteArray}{f1:Int}{f2:List (S31)}{f3:Int}{f4:Int}(h:W.heap[g]? = some (.cells #[.string f0,.int .i64 f1,.slice A2 f2.length c2,.int .i64 f3,.int .i64 f4] 81 (0,0))):W.cell? ⟨g,2,none⟩=some (.slice A2 f2.length c2):=(kE h 2).trans rfl
theorem xN{W:World}{g:Nat}{A2:Option Addr}{c2:Nat}{f0:ByteArray}{f1:Int}{f2:List (S31)}{f3:Int}{f4:Int}(h:W.heap[g]? = some (.cells #[.string f0,.int .i64 f1,.slice A2 f2.length c2,.int .i64 f3,.int .i64 f4] 81 (0,0))):W.cell? ⟨g,3,none⟩=some (.int .i64 f3):=(kE h 3).trans rfl
theorem b5b{w0 W:World}{g:Nat}{f0:ByteArray}{f1:Int}{f2:List (S31)}{f3:Int}{f4:Int}(h:IsS84 Ax cx w0 W g f0 f1 f2 f3 f4)(x:Int):IsS84 Ax cx w0 (W.setCell ⟨g,3,none⟩ (.int .i64 x)) g f0 f1 f2 x f4:=by
 obtain⟨A2,c2,hb,hg,hr2⟩:=h
 exact⟨A2,c2,by simpa using tF hb 3 (.int .i64 x),hg,hr2⟩
theorem xM{W:World}{g:Nat}{A2:Option Addr}{c2:Nat}{f0:ByteArray}{f1:Int}{f2:List (S31)}{f3:Int}{f4:Int}(h:W.heap[g]? = some (.cells #[.string f0,.int .i64 f1,.slice A2 f2.length c2,.int .i64 f3,.int .i64 f4] 81 (0,0))):W.cell? ⟨g,4,none⟩=some (.int .i64 f4):=(kE h 4).trans rfl
theorem b5a{w0 W:World}{g:Nat}{f0:ByteArray}{f1:Int}{f2:List (S31)}{f3:Int}{f4:Int}(h:IsS84 Ax cx w0 W g f0 f1 f2 f3 f4)(x:Int):IsS84 Ax cx w0 (W.setCell ⟨g,4,none⟩ (.int .i64 x)) g f0 f1 f2 f3 x:=by
 obtain⟨A2,c2,hb,hg,hr2⟩:=h
 exact⟨A2,c2,by simpa using tF hb 4 (.int .i64 x),hg,hr2⟩
def rS(a2:ByteArray)(a0:Int)(a5:List (S31))(a4:Int)(a3:Int)(a1:Int):Option (Bool×ByteArray×Int×Int×Int):=if a0≥(a2.size:Int)then(some (false,a2,a0,a4,a3))else(if 0≤a0 then(if a0<(a2.size:Int)then(if(bt a2 a0)=a1 then(some (true,a2,wrap64 (a0+1),a4,a3))else(some (false,a2,a0,a4,a3)))else(none))else(none))
theorem c5w{P:Prop}(h:P:=by
 have p7:0≤(a0:Int):=oD (by assumption)
 have q7:a0<(a2.size:Int):=oD (by assumption)
 have b2:=a5v a2 a0
 replace p7:=eq_true p7
 replace q7:=eq_true q7
 go_enter Tryz.func70,Tryz.ntmps70
 go_wp2
 repeat(go_quiet (fail);try go_wp2)
 go_ret
 exact⟨rfl,xB,a0j,kB⟩):P:=h
theorem ZCi(g:Nat)(a2:ByteArray)(a0:Int)(a3:List (S31))(a5 a4 a1:Int)(r1:Bool)(r2:ByteArray)(r3 r4 r5:Int)(w0 w:World)(hI:IsS84 Ax cx w0 w g a2 a0 a3 a5 a4)(hB:Below w0.heap.size w0 w)(h:rS a2 a0 a3 a5 a4 a1=some (r1,r2,r3,r4,r5)) :
  Calls Tryz.prog 70 #[.pointer (some ⟨g,0,none⟩),.int .u8 a1] w fun e w'=>e= .returned (.bool r1)∧IsS84 Ax cx w0 w' g r2 r3 a3 r4 r5∧Below w0.heap.size w0 w'∧KeepBut w w' g none:=by
 have HI0:=am hI
 have HK:=am (KeepBut.refl w g none)
 have HL:=am hB.size
 clear hI
 have HW0:=am hB.size
 have HB:=am hB
 clear hB
 have H:=h
 clear h
 unfold rS at H
 by_cases c3:a0≥(a2.size:Int)
 ·rw[if_pos c3]at H
  have a8:decide ((a2.size:Int)≤a0)=true:=decide_eq_true c3
  clear c3
  simp only[Option.some.injEq,Prod.mk.injEq]at H
  obtain⟨rfl,rfl,rfl,rfl,rfl⟩:=H
  obtain⟨ASz4_2,cSz4_2,HGz4,hgz4,HSz4_2⟩:=HI0.out
  have a_:=xQ HGz4
  have aZ:=xP HGz4
  have aY:=xO HGz4
  have aX:=xN HGz4
  have aW:=xM HGz4
  have aQ:=kF HGz4 0
  have aO:=kF HGz4 1
  have aN:=kF HGz4 3
  have aM:=kF HGz4 4
  clear HGz4 hgz4
  go_enter Tryz.func70,Tryz.ntmps70
  go_wp2
  repeat(go_quiet (fail);try go_wp2)
  go_ret
  exact⟨rfl,xB,a0j,kB⟩
 rw[if_neg c3]at H
 have a8:decide ((a2.size:Int)≤a0)=false:=decide_eq_false c3
 clear c3
 replace H:=iN H;obtain⟨b1,H⟩:=H
 replace H:=iN H;obtain⟨b0,H⟩:=H
 replace H:=iE H;rcases H with⟨a7,a6,H⟩|⟨a7,a6,H⟩
 ·simp only[Option.some.injEq,Prod.mk.injEq]at H
  obtain⟨rfl,rfl,rfl,rfl,rfl⟩:=H
  obtain⟨ASz9_2,cSz9_2,HGz9,hgz9,HSz9_2⟩:=HI0.out
  have aV:=xQ HGz9
  have aU:=xP HGz9
  have aT:=xO HGz9
  have aS:=xN HGz9
  have aR:=xM HGz9
  have aL:=kF HGz9 0
  have aK:=kF HGz9 1
  have aJ:=kF HGz9 3
  have aI:=kF HGz9 4
  clear HGz9 hgz9
  exact c5w
 simp only[Option.some.injEq,Prod.mk.injEq]at H
 obtain⟨rfl,rfl,rfl,rfl,rfl⟩:=H
 obtain⟨ASz10_2,cSz10_2,HGz10,hgz10,HSz10_2⟩:=HI0.out
 have aH:=xQ HGz10
 have aG:=xP HGz10
 have aF:=xO HGz10
 have aE:=xN HGz10
 have aD:=xM HGz10
 have aC:=kF HGz10 0
 have aB:=kF HGz10 1
 have aA:=kF HGz10 3
 have a9:=kF HGz10 4
 clear HGz10 hgz10
 exact c5w
def a0b(a0:Int):Option (Bool):=if a0=32 then(some true)else(if a0=40 then(some true)else(some (a0==41)))
theorem JVi{a0:Int}{r:Bool}{w:World}(h:a0b a0=some r) :
  Calls Tryz.prog 103 #[.int .u8 a0] w fun e w'=>e= .returned (.bool r)∧Drawn0 w w':=by
 have H:=h
 clear h
 unfold a0b at H
 replace H:=iE H;rcases H with⟨a4,a3,H⟩|⟨a4,a3,H⟩
 ·obtain rfl:=oI H
  go_enter Tryz.func103,Tryz.ntmps103
  go_wp2
  go_ret
  exact⟨rfl,dR⟩
 replace H:=iE H;rcases H with⟨a2,a1,H⟩|⟨a2,a1,H⟩
 ·obtain rfl:=oI H
  go_enter Tryz.func103,Tryz.ntmps103
  go_wp2
  go_ret
  exact⟨rfl,dR⟩
 obtain rfl:=oI H
 go_enter Tryz.func103,Tryz.ntmps103
 go_wp2
 go_ret
 exact⟨rfl,dR⟩
variable {Ax:Option Addr} {cx:Nat}
def zG(a3:ByteArray)(a0:Int)(a6:List (S31))(a5:Int)(a4:Int)(a1:Int)(a2:Int):Option (Int×Bool×ByteArray×Int×Int×Int):=some (0,false,a3,a0,a1,a2)
theorem JSi(g:Nat)(a6:ByteArray)(a5:Int)(a0:List (S31))(a4 a3 a1 a2 r1:Int)(r2:Bool)(r3:ByteArray)(r4 r5 r6:Int)(w0 w:World)(hI:IsS84 Ax cx w0 w g a6 a5 a0 a4 a3)(hB:Below w0.heap.size w0 w)(h:zG a6 a5 a0 a4 a3 a1 a2=some (r1,r2,r3,r4,r5,r6)) :
  Calls Tryz.prog 74 #[.pointer (some ⟨g,0,none⟩),.int .i64 a1,.int .i64 a2] w fun e w'=>e= .returned (.tuple #[.int .i64 r1,.bool r2])∧IsS84 Ax cx w0 w' g r3 r4 a0 r5 r6∧Below w0.heap.size w0 w'∧KeepBut w w' g none:=by
 have hu82:=Tryz.underlying79
 have HI0:=am hI
 have HK:=am (KeepBut.refl w g none)
 have HL:=am hB.size
 clear hI
 have HW0:=am hB.size
 have HB:=am hB
 clear hB
 have H:=h
 clear h
 unfold zG at H
 simp only[Option.some.injEq,Prod.mk.injEq]at H
 obtain⟨rfl,rfl,rfl,rfl,rfl,rfl⟩:=H
 obtain⟨ASz4_2,cSz4_2,HGz4,hgz4,HSz4_2⟩:=HI0.out
 have aF:=xQ HGz4
 have aE:=xP HGz4
 have aD:=xO HGz4
 have aC:=xN HGz4
 have aB:=xM HGz4
 have aA:=kF HGz4 0
 have a9:=kF HGz4 1
 have a8:=kF HGz4 3
 have a7:=kF HGz4 4
 clear HGz4 hgz4
 go_enter Tryz.func74,Tryz.ntmps74
 go_wp2
 go_ret2
 exact⟨rfl,xB,a0j,kB⟩
def xI:Nat→ByteArray→Int→Option (Int×Bool)
 | 0,_,_=>none
 | k+1,x0,x4=>if x4≤16 then((wO x4).bind fun a0=>(if x0.toList=a0.toList then(some (x4,true))else(xI k x0 (wrap64 (x4+1)))))else(some (0,false))
def a1c(k:Nat)(a0:ByteArray):Option (Int×Bool):=if a0.toList=([110,111,116]:List UInt8)then(some (2,true))else(if a0.toList=([115,108,105,99,101]:List UInt8)then(some (17,true))else(if a0.toList=([105,102]:List UInt8)then(some (18,true))else(if a0.toList=([97,108,108]:List UInt8)then(some (19,true))else(if a0.toList=([115,111,109,101]:List UInt8)then(some (20,true))else(xI k a0 3)))))
theorem b1w{P:Prop}(h:P:=by
 simp only[Option.some.injEq,Prod.mk.injEq]at H
 obtain⟨rfl,rfl⟩:=H
 go_enter Tryz.func75,Tryz.ntmps75
 go_wp2
 go_ret2
 exact⟨rfl,sW HB.out⟩):P:=h
theorem ZMi(k:Nat)(a0:ByteArray)(r1:Int)(r2:Bool)(w:World)(h:a1c k a0=some (r1,r2)) :
  Calls Tryz.prog 75 #[.string a0] w fun e w'=>e= .returned (.tuple #[.int .i64 r1,.bool r2])∧Below w.heap.size w w':=by
 have HB:=am (Below.refl w.heap.size w)
 have H:=h
 clear h
 unfold a1c at H
 by_cases c2:a0.toList=([110,111,116]:List UInt8)
 ·rw[if_pos c2]at H
  have aB:(a0.toList==([110,111,116]:List UInt8))=true:=beq_iff_eq.mpr c2
  have aA:(a0.toList !=([110,111,116]:List UInt8))=false:=bne_eq_false_iff_eq.mpr c2
  clear c2
  exact b1w
 rw[if_neg c2]at H
 have aB:(a0.toList==([110,111,116]:List UInt8))=false:=beq_eq_false_iff_ne.mpr c2
 have aA:(a0.toList !=([110,111,116]:List UInt8))=true:=bne_iff_ne.mpr c2
 by_cases c3:a0.toList=([115,108,105,99,101]:List UInt8)
 ·rw[if_pos c3]at H
  have a9:(a0.toList==([115,108,105,99,101]:List UInt8))=true:=beq_iff_eq.mpr c3
  have a8:(a0.toList !=([115,108,105,99,101]:List UInt8))=false:=bne_eq_false_iff_eq.mpr c3
  clear c3
  exact b1w
 rw[if_neg c3]at H
 have a9:(a0.toList==([115,108,105,99,101]:List UInt8))=false:=beq_eq_false_iff_ne.mpr c3
 have a8:(a0.toList !=([115,108,105,99,101]:List UInt8))=true:=bne_iff_ne.mpr c3
 by_cases c4:a0.toList=([105,102]:List UInt8)
 ·rw[if_pos c4]at H
  have a7:(a0.toList==([105,102]:List UInt8))=true:=beq_iff_eq.mpr c4
  have a6:(a0.toList !=([105,102]:List UInt8))=false:=bne_eq_false_iff_eq.mpr c4
  clear c4
  exact b1w
 rw[if_neg c4]at H
 have a7:(a0.toList==([105,102]:List UInt8))=false:=beq_eq_false_iff_ne.mpr c4
 have a6:(a0.toList !=([105,102]:List UInt8))=true:=bne_iff_ne.mpr c4
 by_cases c5:a0.toList=([97,108,108]:List UInt8)
 ·rw[if_pos c5]at H
  have a5:(a0.toList==([97,108,108]:List UInt8))=true:=beq_iff_eq.mpr c5
  have a4:(a0.toList !=([97,108,108]:List UInt8))=false:=bne_eq_false_iff_eq.mpr c5
  clear c5
  exact b1w
 rw[if_neg c5]at H
 have a5:(a0.toList==([97,108,108]:List UInt8))=false:=beq_eq_false_iff_ne.mpr c5
 have a4:(a0.toList !=([97,108,108]:List UInt8))=true:=bne_iff_ne.mpr c5
 by_cases c6:a0.toList=([115,111,109,101]:List UInt8)
 ·rw[if_pos c6]at H
  have a3:(a0.toList==([115,111,109,101]:List UInt8))=true:=beq_iff_eq.mpr c6
  have a2:(a0.toList !=([115,111,109,101]:List UInt8))=false:=bne_eq_false_iff_eq.mpr c6
  clear c6
  exact b1w
 rw[if_neg c6]at H
 have a3:(a0.toList==([115,111,109,101]:List UInt8))=false:=beq_eq_false_iff_ne.mpr c6
 have a2:(a0.toList !=([115,111,109,101]:List UInt8))=true:=bne_iff_ne.mpr c6
 replace H:=am H
 go_enter Tryz.func75,Tryz.ntmps75
 go_wp2
 go_loopg [4] k (fun kq v4 w' =>∃(a1:Int),v4= .int .i64 a1∧Aside0 (xI kq a0 a1=some (r1,r2))∧Aside0 (kq≤k)∧Aside0 (Below w.heap.size w w'))
 case atStart=>exact⟨3,rfl,H,⟨Nat.le_refl _⟩,⟨sW HB.out⟩⟩
 clear H
 clear c2 aB aA c3 a9 a8 c4 a7 a6 c5 a5 a4 c6 a3 a2
 obtain⟨a1,rfl,HA,aC,HB⟩:=hrel
 cases gk with
 | zero=>cases HA.out
 | succ k1 =>
  obtain⟨H⟩:=HA
  simp only[xI]at H
  replace H:=iD H;rcases H with⟨aF,H⟩|⟨aF,H⟩
  ·replace H:=oA H;obtain⟨aG,A8,H⟩:=H
   replace H:=iE H;rcases H with⟨aE,aD,H⟩|⟨aE,aD,H⟩
   ·simp only[Option.some.injEq,Prod.mk.injEq]at H
    obtain⟨rfl,rfl⟩:=H
    go_wp2_with (((with_reducible refine gW ?_);refine gF 69 (some 22) rfl ?_;refine gS Tryz.func69 (KGi A8.out) ?_;rintro w10 hb;replace HB:=hB HB hb;(try clear hb)))
    go_ret2
    exact⟨rfl,sW HB.out⟩
   replace H:=am H
   go_wp2_with (((with_reducible refine gW ?_);refine gF 69 (some 22) rfl ?_;refine gS Tryz.func69 (KGi A8.out) ?_;rintro w11 hb;replace HB:=hB HB hb;(try clear hb)))
   go_roundg k1
   case measure=>have:=aC.out;omega
   case rel=>exact⟨(wrap64 (a1+1)),rfl,H,⟨by have:=aC.out;omega⟩,⟨sW HB.out⟩⟩
  simp only[Option.some.injEq,Prod.mk.injEq]at H
  obtain⟨rfl,rfl⟩:=H
  go_wp2
  go_ret2
  exact⟨rfl,sW HB.out⟩
@[reducible] def d3q:Array Bool:= #[false,false,false,false,false,false,false,false,false,false,false]
@[reducible] def d3n:Array Bool:= #[true,false,false,false,false,false,false,false,false,false,false]
@[reducible] def d3k:Array Bool:= #[true,true,false,false,false,false,false,false,false,false,false]
@[reducible] def d3h:Array Bool:= #[true,true,true,false,false,false,false,false,false,false,false]
@[reducible] def d3e:Array Bool:= #[true,true,true,true,false,false,false,false,false,false,false]
@[reducible] def d3b:Array Bool:= #[true,true,true,true,true,false,false,false,false,false,false]
@[reducible] def d2y:Array Bool:= #[true,true,true,true,true,true,false,false,false,false,false]
@[reducible] def d2v:Array Bool:= #[true,true,true,true,true,true,true,false,false,false,false]
@[reducible] def d2s:Array Bool:= #[true,true,true,true,true,true,true,true,false,false,false]
@[reducible] def d2p:Array Bool:= #[true,true,true,true,true,true,true,true,true,false,false]
@[reducible] def c8a:Array Bool:= #[true,true,true,true,true,true,true,true,true,true,false]
@[reducible] def c7y:Array Bool:= #[true,true,true,true,true,true,true,true,true,true,true]
def b9r(a b:S31):Bool:=(a.f0==b.f0&&(a.f1==b.f1&&(a.f2==b.f2&&(a.f3==b.f3&&(a.f4==b.f4&&(a.f5==b.f5))))))
def a3a(l:List (S31))(n:S31):Nat→Nat→Option Nat
 | 0,_=>none
 | m+1,i=>if b9r (kA l (i:Int)) n=true then some i else a3a l n m (i+1)
def a5s(l:List (S31))(code bad:Int)(n:S31)(frm:Int):(Int×Bool)×List (S31)×Int×Int :=
 if tG l n.f0 n.f1 n.f2 n.f3 n.f4 n.f5=true then
  match a3a l n l.length 0 with
  | some i=>(((i:Int),true),l,code,bad)
  | none=>if l.length=80 then((0,false),l,4,frm)else(((l.length:Int),true),l++[n],code,bad)
 else((0,false),l,3,frm)
variable {Ax:Option Addr} {cx:Nat}
def b0h(w0 W:World)(g:Nat)(s:ByteArray)(a:Int)(l:List (S31))(code bad:Int)(A:Option Addr)(c:Nat):Prop :=
 IsS84 A c w0 W g s a l code bad∧Kd.R k31 33 W w0.heap.size (fun k=>k≠g) (.slice A l.length c) l∧Below w0.heap.size w0 W
theorem a3x{P:Prop}(h:P:=by
 simp only[Act.put,List.setIfInBounds_toArray,List.set_cons_zero,List.set_cons_succ,vB,a3w]
 rfl):P:=h
theorem c4w{P:Prop}(h:P:=by
 go_wp2_with fail
 refine bodyPost_ret (pN (rs:=[.tmp 6,.tmp 7]) rfl (by simp) (.tmp (.tmp .nil))) rfl ?_
 exact⟨rfl,⟨A2,c2,⟨a5.out,Kd.YF HR.out a2.out (fun _ h=>h),HB4.out⟩,fun k e=> .inl e.symm⟩,qW HK.out a2.out (.inl (.inl rfl))⟩):P:=h
theorem KBi(g:Nat)(s:ByteArray)(a:Int)(l:List (S31))(code bad n0 n1 n2 n3 n4 n5 frm p:Int)(ok:Bool)(l':List (S31))(code' bad':Int)(A:Option Addr)(c:Nat)(w0 w:World)(hI:b0h w0 w g s a l code bad A c)(hl:l.length≤80)
  (h:a5s l code bad ⟨n0,n1,n2,n3,n4,n5⟩ frm=((p,ok),l',code',bad')) :
  Calls Tryz.prog 73 #[.pointer (some ⟨g,0,none⟩),.agg #[.int .i64 n0,.int .i64 n1,.int .i64 n2,.int .i64 n3,.int .i64 n4,.int .i64 n5],.int .i64 frm] w fun e w'=>e= .returned (.tuple #[.int .i64 p,.bool ok])∧(∃A' c',b0h w0 w' g s a l' code' bad' A' c'∧∀k,(Value.slice A' l'.length c').ownBlock=some k→some k=(Value.slice A l.length c).ownBlock∨w.heap.size≤k)∧Kept w w' (fun k=>k=g∨some k=(Value.slice A l.length c).ownBlock):=by
 obtain⟨hS,hR,hB⟩:=hI
 have HS:=am hS;have HR:=am hR;have HB:=am hB;have HL:=am hl;have HH:=am h
 clear hS hR hB hl h
 have HK:=am (Kept.refl w (fun k=>k=g∨some k=(Value.slice A l.length c).ownBlock))
 obtain⟨A2,c2,hbg,hg0,hA2,hc2⟩:=HS.out
 subst hA2 hc2
 have BG:=am hbg;have G0:=am hg0
 clear hbg hg0 HS
 obtain⟨rb,hrb⟩ :∃rb,tG l n0 n1 n2 n3 n4 n5=rb:=⟨_,rfl⟩
 have HRB:=am hrb
 clear hrb
 go_enter Tryz.func73,Tryz.ntmps73
 go_wp2_with fail
 have a6:=am HR.out
 have BX:=am (heap_alloc_new w (Obj.cells #[Value.int .i64 n0,Value.int .i64 n1,Value.int .i64 n2,Value.int .i64 n3,Value.int .i64 n4,Value.int .i64 n5] 33))
 have hA:=kO (Below.refl w.heap.size w) (Obj.cells #[Value.int .i64 n0,Value.int .i64 n1,Value.int .i64 n2,Value.int .i64 n3,Value.int .i64 n4,Value.int .i64 n5] 33)
 have BG:=am (kJ BG.out hA);have HR:=am (Kd.JK HR.out hA);have HB:=am (HB.out.trans (hA.mono HB.out.size));have HK:=am (HK.out.below hA)
 have HNX:=am (show ∀k,(Value.slice A2 l.length c2).ownBlock=some k→k<w.heap.size from fun k e=>Kd.JM a6.out k e)
 generalize w.alloc (Obj.cells #[Value.int .i64 n0,Value.int .i64 n1,Value.int .i64 n2,Value.int .i64 n3,Value.int .i64 n4,Value.int .i64 n5] 33)=wA at *
 generalize hgx:w.heap.size=gx at *
 have GX:=am hgx
 clear hgx hA
 have g2:wA.cell? ⟨g,2,none⟩=some (.slice A2 l.length c2):=(kE BG.out 2).trans rfl
 obtain⟨q0,q1,q2,q3,q4,q5⟩:=a3d BX.out
 cases rb with
 | false =>
  refine vC (n:=7) (S:=fun w'=>w'.cell? ⟨g,2,none⟩=some (.slice A2 l.length c2)∧w'.cell? ⟨gx,0,none⟩=some (.int .i64 n0)∧w'.cell? ⟨gx,1,none⟩=some (.int .i64 n1)∧w'.cell? ⟨gx,2,none⟩=some (.int .i64 n2)∧w'.cell? ⟨gx,3,none⟩=some (.int .i64 n3)∧w'.cell? ⟨gx,4,none⟩=some (.int .i64 n4)∧w'.cell? ⟨gx,5,none⟩=some (.int .i64 n5)) (ds:=[]) #[false,false,false,false,false,false,false] (by kernel_rfl) rfl rfl ⟨g2,q0,q1,q2,q3,q4,q5⟩ (fun hHeld=>?_)
  refine pS (i:=0) (N:=some 10) #[true,false,false,false,false,false,false] ?_
  refine pS (i:=1) (N:=some 11) #[true,true,false,false,false,false,false] ?_
  refine pS (i:=2) (N:=some 12) #[true,true,true,false,false,false,false] ?_
  refine qY (i:=3) (N:=some 13) (v:=?_) (a':=?_) #[true,true,true,true,false,false,false] rfl rfl (by kernel_rfl) (fun _ _ _ h=>h) (Or.inl ⟨by rfl,?_⟩) hHeld ?_ ?_
  rotate_left
  ·rintro w' ⟨s0,s1,s2,s3,s4,s5,s6⟩
   go_simp
   with_reducible rfl
  rotate_left
  ·exact a3x
  refine qY (i:=4) (N:=some 14) (v:=?_) (a':=?_) #[true,true,true,true,true,false,false] rfl rfl (by kernel_rfl) (fun _ _ _ h=>h) (Or.inl ⟨by rfl,?_⟩) hHeld ?_ ?_
  rotate_left
  ·rintro w' ⟨s0,s1,s2,s3,s4,s5,s6⟩
   go_simp
   with_reducible rfl
  rotate_left
  ·exact a3x
  refine a1t (i:=5) (N:=some 15) #[true,true,true,true,true,true,false] rfl rfl (by kernel_rfl) (by decide) (fun K hK=>?_)
  refine a1g Tryz.func34 (by kernel_rfl) rfl #[.slice A2 l.length c2,.agg #[.int .i64 n0,.int .i64 n1,.int .i64 n2,.int .i64 n3,.int .i64 n4,.int .i64 n5]] (by rfl) rfl rfl (by simp only[List.map_toArray,List.map_cons,List.map_nil];rfl) ?_
  with_reducible refine(KAi A2 c2 l n0 n1 n2 n3 n4 n5 false _ (Kd.YY (Kd.JA HR.out).2.2) (Kd.JA HR.out).2.1 (by rw[zS,HRB.out])).mono ?_
  rintro e w3 ⟨rfl,hb⟩
  refine⟨_,rfl,?_⟩
  have hB3:Below wA.heap.size wA w3:=Below.trans (by apply kQ;exact Below.refl _ _) (hb.mono (by simp))
  have BG:=am (kJ BG.out hB3)
  have BX:=am (kJ BX.out hB3)
  have HR:=am (Kd.JK HR.out hB3)
  have HB:=am (HB.out.trans (hB3.mono HB.out.size))
  have HK:=am (HK.out.below hB3)
  clear hB3 hb
  refine hK.out _ _ ⟨((kE BG.out 2).trans rfl),((kE BX.out 0).trans rfl),((kE BX.out 1).trans rfl),((kE BX.out 2).trans rfl),((kE BX.out 3).trans rfl),((kE BX.out 4).trans rfl),((kE BX.out 5).trans rfl)⟩ (fun hHeld=>?_)
  clear hK K
  refine vA (a':=?_) ?_ ?_
  rotate_left
  ·show Act.put _ (some 15) _=_
   exact a3x
  refine pS (i:=6) (N:=some 16) #[true,true,true,true,true,true,true] ?_
  refine a1s (by kernel_rfl) ?_
  go_wp2_with fail
  refine(JSi g s a l code bad 3 frm 0 false s a 3 frm w0 w3 ⟨A2,c2,BG.out,G0.out,rfl,rfl⟩ HB.out rfl).mono ?_
  rintro e w4 ⟨rfl,hi,hb,hk⟩
  have h1:=HH.out
  unfold a5s at h1
  rw[if_neg (by rw[HRB.out];decide)]at h1
  simp only[Prod.mk.injEq]at h1
  obtain⟨⟨rfl,rfl⟩,rfl,rfl,rfl⟩:=h1
  have a5:=am hi;have HB4:=am hb;have a2:=am hk
  clear hi hb hk hHeld g2 q0 q1 q2 q3 q4 q5
  exact c4w
 | true =>
  refine vC (n:=7) (S:=fun w'=>w'.cell? ⟨g,2,none⟩=some (.slice A2 l.length c2)∧w'.cell? ⟨gx,0,none⟩=some (.int .i64 n0)∧w'.cell? ⟨gx,1,none⟩=some (.int .i64 n1)∧w'.cell? ⟨gx,2,none⟩=some (.int .i64 n2)∧w'.cell? ⟨gx,3,none⟩=some (.int .i64 n3)∧w'.cell? ⟨gx,4,none⟩=some (.int .i64 n4)∧w'.cell? ⟨gx,5,none⟩=some (.int .i64 n5)) (ds:=[]) #[false,false,false,false,false,false,false] (by kernel_rfl) rfl rfl ⟨g2,q0,q1,q2,q3,q4,q5⟩ (fun hHeld=>?_)
  refine pS (i:=0) (N:=some 10) #[true,false,false,false,false,false,false] ?_
  refine pS (i:=1) (N:=some 11) #[true,true,false,false,false,false,false] ?_
  refine pS (i:=2) (N:=some 12) #[true,true,true,false,false,false,false] ?_
  refine qY (i:=3) (N:=some 13) (v:=?_) (a':=?_) #[true,true,true,true,false,false,false] rfl rfl (by kernel_rfl) (fun _ _ _ h=>h) (Or.inl ⟨by rfl,?_⟩) hHeld ?_ ?_
  rotate_left
  ·rintro w' ⟨s0,s1,s2,s3,s4,s5,s6⟩
   go_simp
   with_reducible rfl
  rotate_left
  ·exact a3x
  refine qY (i:=4) (N:=some 14) (v:=?_) (a':=?_) #[true,true,true,true,true,false,false] rfl rfl (by kernel_rfl) (fun _ _ _ h=>h) (Or.inl ⟨by rfl,?_⟩) hHeld ?_ ?_
  rotate_left
  ·rintro w' ⟨s0,s1,s2,s3,s4,s5,s6⟩
   go_simp
   with_reducible rfl
  rotate_left
  ·exact a3x
  refine a1t (i:=5) (N:=some 15) #[true,true,true,true,true,true,false] rfl rfl (by kernel_rfl) (by decide) (fun K hK=>?_)
  refine a1g Tryz.func34 (by kernel_rfl) rfl #[.slice A2 l.length c2,.agg #[.int .i64 n0,.int .i64 n1,.int .i64 n2,.int .i64 n3,.int .i64 n4,.int .i64 n5]] (by rfl) rfl rfl (by simp only[List.map_toArray,List.map_cons,List.map_nil];rfl) ?_
  with_reducible refine(KAi A2 c2 l n0 n1 n2 n3 n4 n5 true _ (Kd.YY (Kd.JA HR.out).2.2) (Kd.JA HR.out).2.1 (by rw[zS,HRB.out])).mono ?_
  rintro e w3 ⟨rfl,hb⟩
  refine⟨_,rfl,?_⟩
  have hB3:Below wA.heap.size wA w3:=Below.trans (by apply kQ;exact Below.refl _ _) (hb.mono (by simp))
  have BG:=am (kJ BG.out hB3)
  have BX:=am (kJ BX.out hB3)
  have HR:=am (Kd.JK HR.out hB3)
  have HB:=am (HB.out.trans (hB3.mono HB.out.size))
  have HK:=am (HK.out.below hB3)
  clear hB3 hb
  refine hK.out _ _ ⟨((kE BG.out 2).trans rfl),((kE BX.out 0).trans rfl),((kE BX.out 1).trans rfl),((kE BX.out 2).trans rfl),((kE BX.out 3).trans rfl),((kE BX.out 4).trans rfl),((kE BX.out 5).trans rfl)⟩ (fun hHeld=>?_)
  clear hK K
  refine vA (a':=?_) ?_ ?_
  rotate_left
  ·show Act.put _ (some 15) _=_
   exact a3x
  refine pS (i:=6) (N:=some 16) #[true,true,true,true,true,true,true] ?_
  refine a1s (by kernel_rfl) ?_
  clear hHeld g2 q0 q1 q2 q3 q4 q5
  have g2:w3.cell? ⟨g,2,none⟩=some (.slice A2 l.length c2):=(kE BG.out 2).trans rfl
  obtain⟨res,hres⟩ :∃res,a3a l ⟨n0,n1,n2,n3,n4,n5⟩ l.length 0=res:=⟨_,rfl⟩
  have HRES:=am hres
  have h1:=HH.out
  unfold a5s at h1
  rw[if_pos (show tG l n0 n1 n2 n3 n4 n5=true from HRB.out),hres]at h1
  have HH:=am h1
  clear hres h1
  go_wp2_with fail
  clear g2
  go_loopg [8,9,27] l.length (fun gk u8 u9 u27 w' =>∃i:Nat,u27= .int .i64 (i:Int)∧Aside0 (gk+i=l.length)∧Aside0 (a3a l ⟨n0,n1,n2,n3,n4,n5⟩ gk i=res)∧Aside0 (w'.heap[g]? = some (.cells #[.string s,.int .i64 a,.slice A2 l.length c2,.int .i64 code,.int .i64 bad] 81 (0,0)))∧Aside0 (w'.heap[gx]? = some (.cells #[Value.int .i64 n0,Value.int .i64 n1,Value.int .i64 n2,Value.int .i64 n3,Value.int .i64 n4,Value.int .i64 n5] 33 (0,0)))∧Aside0 (Kd.R k31 33 w' w0.heap.size (fun k=>k≠g) (.slice A2 l.length c2) l)∧Aside0 (Below w0.heap.size w0 w')∧Aside0 (Kept w w' (fun k=>k=g∨some k=(Value.slice A2 l.length c2).ownBlock)))
  case atStart=>exact⟨0,rfl,⟨rfl⟩,HRES,BG,BX,HR,HB,HK⟩
  obtain⟨i,rfl,HJ,HF,BG,BX,HR,HB,HK⟩:=hrel
  by_cases hi:i<l.length
  ·have p1:(0:Int)≤(i:Int):=by omega
   have p2:(i:Int)<(l.length:Int):=by omega
   have t2:decide ((i:Int)<(l.length:Int))=true:=decide_eq_true p2
   obtain⟨a9,e0,y0,y1,y2,y3,y4,y5⟩:=pE (Kd.JA HR.out).2.2 (i:Int) p1 p2
   rw[Int.toNat_natCast]at y0 y1 y2 y3 y4 y5
   subst e0
   obtain⟨⟨x0,x1,x2,x3,x4,x5⟩,hnd⟩ :∃n,kA l (i:Int)=n:=⟨_,rfl⟩
   obtain⟨g2,rfl⟩ :∃g2,gk=g2+1:=⟨gk-1,by have:=HJ.out;omega⟩
   obtain⟨sb,hsb⟩ :∃sb,(x0==n0&&(x1==n1&&(x2==n2&&(x3==n3&&(x4==n4&&(x5==n5))))))=sb:=⟨_,rfl⟩
   have hh:=HF.out
   unfold a3a b9r at hh
   rw[hnd]at hh y0 y1 y2 y3 y4 y5
   simp only[]at hh y0 y1 y2 y3 y4 y5
   rw[hsb]at hh
   have HF:=am hh
   clear hnd hh
   have BM:=am (heap_alloc_new wr (Obj.cells #[Value.int .i64 x0,Value.int .i64 x1,Value.int .i64 x2,Value.int .i64 x3,Value.int .i64 x4,Value.int .i64 x5] 33))
   have hA2:=kO (Below.refl wr.heap.size wr) (Obj.cells #[Value.int .i64 x0,Value.int .i64 x1,Value.int .i64 x2,Value.int .i64 x3,Value.int .i64 x4,Value.int .i64 x5] 33)
   have BG:=am (kJ BG.out hA2);have BX:=am (kJ BX.out hA2);have HR:=am (Kd.JK HR.out hA2);have HB:=am (HB.out.trans (hA2.mono HB.out.size));have HK:=am (HK.out.below hA2)
   clear hA2
   obtain⟨q0,q1,q2,q3,q4,q5⟩:=a3d BM.out
   obtain⟨z0,z1,z2,z3,z4,z5⟩:=a3d BX.out
   cases sb with
   | true =>
    have hn:=HF.out
    rw[if_pos rfl]at hn
    have HN:=am hn
    clear hn HF
    go_wp2_with fail
    have h1:=HH.out
    rw[← HN.out]at h1
    simp only[Prod.mk.injEq]at h1
    obtain⟨⟨rfl,rfl⟩,rfl,rfl,rfl⟩:=h1
    refine bodyPost_ret (pN (rs:=[.tmp 6,.tmp 7]) rfl (by simp) (.tmp (.tmp .nil))) rfl ?_
    exact⟨rfl,⟨_,c2,⟨⟨_,c2,BG.out,G0.out,rfl,rfl⟩,HR.out,HB.out⟩,fun k e=> .inl e.symm⟩,HK.out⟩
   | false =>
    have hn:=HF.out
    rw[if_neg (by decide)]at hn
    have HN:=am hn
    clear hn HF
    go_wp2_with fail
    go_roundg g2
    case measure=>omega
    case rel=>exact⟨i+1,by rw[show wrap64 ((i:Int)+1)=((i+1:Nat):Int) by have:=HL.out;unfold wrap64;omega],⟨by have:=HJ.out;omega⟩,HN,BG,BX,HR,HB,HK⟩
  obtain rfl:i=l.length:=by have:=HJ.out;omega
  have hgk:gk=0:=by have:=HJ.out;omega
  subst hgk
  have t2:decide ((l.length:Int)<(l.length:Int))=false:=decide_eq_false oM
  have hh:=HF.out
  unfold a3a at hh
  have h1:=HH.out
  rw[← hh]at h1
  simp only[]at h1
  have HH:=am h1
  clear hh h1 HF
  have g2:wr.cell? ⟨g,2,none⟩=some (.slice A2 l.length c2):=(kE BG.out 2).trans rfl
  by_cases a0:l.length=80
  ·have t3:((l.length:Int)==80)=true:=beq_iff_eq.mpr oM
   have h1:=HH.out
   rw[if_pos a0]at h1
   simp only[Prod.mk.injEq]at h1
   obtain⟨⟨rfl,rfl⟩,rfl,rfl,rfl⟩:=h1
   clear a0
   go_wp2_with fail
   refine(JSi g s a l code bad 4 frm 0 false s a 4 frm w0 wr ⟨A2,c2,BG.out,G0.out,rfl,rfl⟩ HB.out rfl).mono ?_
   rintro e w4 ⟨rfl,hi,hb,hk⟩
   have a5:=am hi;have HB4:=am hb;have a2:=am hk
   clear hi hb hk g2
   exact c4w
  have t3:((l.length:Int)==80)=false:=beq_eq_false_iff_ne.mpr oM
  have h1:=HH.out
  rw[if_neg a0]at h1
  simp only[Prod.mk.injEq]at h1
  obtain⟨⟨rfl,rfl⟩,rfl,rfl,rfl⟩:=h1
  have H80:=am a0
  clear a0
  go_wp2_with fail
  refine vC (n:=11) (S:=fun w'=>w'.cell? ⟨g,2,none⟩=some (.slice A2 l.length c2)∧w'.cell? ⟨gx,0,none⟩=some (.int .i64 n0)∧w'.cell? ⟨gx,1,none⟩=some (.int .i64 n1)∧w'.cell? ⟨gx,2,none⟩=some (.int .i64 n2)∧w'.cell? ⟨gx,3,none⟩=some (.int .i64 n3)∧w'.cell? ⟨gx,4,none⟩=some (.int .i64 n4)∧w'.cell? ⟨gx,5,none⟩=some (.int .i64 n5)) (ds:=[10]) d3q (by kernel_rfl) rfl rfl ⟨((kE BG.out 2).trans rfl),((kE BX.out 0).trans rfl),((kE BX.out 1).trans rfl),((kE BX.out 2).trans rfl),((kE BX.out 3).trans rfl),((kE BX.out 4).trans rfl),((kE BX.out 5).trans rfl)⟩ (fun hHeld=>?_)
  refine pS (i:=0) (N:=some 48) d3n ?_
  refine pS (i:=1) (N:=some 49) d3k ?_
  refine pS (i:=2) (N:=some 50) d3h ?_
  refine pS (i:=3) (N:=some 51) d3e ?_
  refine qY (i:=4) (N:=some 52) (v:=?_) (a':=?_) d3b rfl rfl (by kernel_rfl) (fun _ _ _ h=>h) (Or.inl ⟨by rfl,?_⟩) hHeld ?_ ?_
  rotate_left
  ·rintro w' ⟨s0,s1,s2,s3,s4,s5,s6⟩
   go_simp
   with_reducible rfl
  rotate_left
  ·exact a3x
  refine qY (i:=5) (N:=some 53) (v:=?_) (a':=?_) d2y rfl rfl (by kernel_rfl) (fun _ _ _ h=>h) (Or.inl ⟨by rfl,?_⟩) hHeld ?_ ?_
  rotate_left
  ·rintro w' ⟨s0,s1,s2,s3,s4,s5,s6⟩
   go_simp
   with_reducible rfl
  rotate_left
  ·exact a3x
  refine a1t (i:=6) (N:=some 54) d2v rfl rfl (by kernel_rfl) (by decide) (fun K hK=>?_)
  refine Kd.YE k31 _ 33 ?hg (N:=54) ?hd (xs:=[(⟨n0,n1,n2,n3,n4,n5⟩:S31)]) (inner:=[.int .i64 n0,.int .i64 n1,.int .i64 n2,.int .i64 n3,.int .i64 n4,.int .i64 n5]) (ok:=fun _=>True) (okp:=fun _=>True) ?hr ?hp (fun _ hk=>hk) trivial (Below.refl _ _) (Nat.le_refl _) (by simp) ?_
  (case hd=>rfl)
  (case hg=>rfl)
  (case hr=>(go_simp;done))
  (case hp=>exact(a1j (show Kd.M k31 _ _ _ (⟨n0,n1,n2,n3,n4,n5⟩:S31) [.int .i64 n0,.int .i64 n1,.int .i64 n2,.int .i64 n3,.int .i64 n4,.int .i64 n5]from(vE _ _ _ (⟨n0,n1,n2,n3,n4,n5⟩:S31))) (Reps.none _ _)))
  intro a8 w5 a4 hb5 hg5_ hnew5_
  clear hg5_ hnew5_
  have hB5:Below wr.heap.size wr w5:=Below.trans (by apply kQ;exact Below.refl _ _) (hb5.mono (by simp))
  have BG:=am (kJ BG.out hB5)
  have BX:=am (kJ BX.out hB5)
  have HR:=am (Kd.JK HR.out hB5)
  have HB:=am (HB.out.trans (hB5.mono HB.out.size))
  have HK:=am (HK.out.below hB5)
  have HL5:=am a4
  clear hB5 hb5 a4
  obtain⟨A5,c5,rfl⟩:=Kd.JB HL5.out
  refine hK.out _ _ ⟨((kE BG.out 2).trans rfl),((kE BX.out 0).trans rfl),((kE BX.out 1).trans rfl),((kE BX.out 2).trans rfl),((kE BX.out 3).trans rfl),((kE BX.out 4).trans rfl),((kE BX.out 5).trans rfl)⟩ (fun hHeld=>?_)
  clear hK K
  refine vA (a':=?_) ?_ ?_
  rotate_left
  ·show Act.put _ (some 54) _=_
   exact a3x
  refine a1t (i:=7) (N:=some 55) d2s rfl rfl (by kernel_rfl) (by decide) (fun K hK=>?_)
  refine Kd.JY k31 (w0:=w0) w0.heap.size (by rfl) (.tmp 52) (.tmp 54) 24 33 (.agg #[(.int .i64 0),(.int .i64 0),(.int .i64 0),(.int .i64 0),(.int .i64 0),(.int .i64 0)]) 48 rfl Tryz.underlying24 yT rfl (by decide) oM (.slice A2 l.length c2) l [(⟨n0,n1,n2,n3,n4,n5⟩:S31)] _ _ _ (fun k=>k≠g) (fun _=>False) rfl rfl ?aO ?aR (fun _ _ h=>h) (fun _ h=>h.elim) ?aF ?aB ?aS ?aL ?_
  (case aR=>exact(Kd.JA HL5.out).2.2)
  (case aB=>exact HB.out)
  (case aF=>exact(fun k hk=>by have:=vD BG.out;omega))
  (case aO=>exact HR.out)
  (case aS=>exact(kG HB.out))
  (case aL=>(have:=HL.out;simp;omega))
  intro a7 w6 a3 hb6 hg6 hat6
  have HKS:=am (show w.heap.size≤w5.heap.size from HK.out.1)
  have hne:some g≠(Value.slice A2 l.length c2).ownBlock:=fun e=>(HR.out.1 g e.symm) rfl
  have BX:=am (qT BX.out hg6 (fun e=>by have:=HNX.out gx e.symm;omega))
  have BG:=am (qT BG.out hg6 hne)
  have HK:=am (qM (S:=fun k=>k=g∨some k=(Value.slice A2 l.length c2).ownBlock) hg6 HK.out (fun k e=> .inl (.inr (by exact e.symm))))
  have HB:=am hb6
  have a1:=am a3
  have HAT:=am hat6
  clear a3 hb6 hg6 hat6 hne
  obtain⟨A6,c6,rfl⟩:=Kd.JB a1.out
  have hfz:=kF BG.out 2
  refine hK.out _ _ ⟨((kE BG.out 2).trans rfl),((kE BX.out 0).trans rfl),((kE BX.out 1).trans rfl),((kE BX.out 2).trans rfl),((kE BX.out 3).trans rfl),((kE BX.out 4).trans rfl),((kE BX.out 5).trans rfl)⟩ (fun hHeld=>?_)
  clear hK K
  refine vA (a':=?_) ?_ ?_
  rotate_left
  ·show Act.put _ (some 55) _=_
   exact a3x
  refine pS (i:=8) (N:=some 56) d2p ?_
  refine pS (i:=9) (N:=some 57) c8a ?_
  refine d1f (i:=10) (N:=none) c7y rfl rfl (by kernel_rfl) (by decide) (fun K hK=>?_)
  refine b0v (w1:=?_) (by rfl) rfl ?_ ?_
  rotate_left
  ·go_simp
   rfl
  refine hK.out _ _ ?_
  clear hK K
  refine a1s (by kernel_rfl) ?_
  have hb7:(w6.setCell ⟨g,2,none⟩ (.slice A6 (l.length+1) c6)).heap[g]? = some (.cells #[.string s,.int .i64 a,.slice A6 (l.length+1) c6,.int .i64 code,.int .i64 bad] 81 (0,0)):=by simpa using tF BG.out 2 (.slice A6 (l.length+1) c6)
  have BG:=am hb7
  have HB:=am (show Below w0.heap.size w0 (w6.setCell ⟨g,2,none⟩ (.slice A6 (l.length+1) c6))from kR HB.out G0.out)
  have HK:=am (Kept.setCell HK.out (p:=⟨g,2,none⟩) (.inl (.inl rfl)) (.slice A6 (l.length+1) c6))
  have HR:=am (Kd.JC (Kd.JT (p:=⟨g,2,none⟩) (Kd.JC a1.out (fun _ h=>(⟨h,h⟩:_∧_≠g))) (fun _ hk=>hk.2) (.slice A6 (l.length+1) c6)) (fun _ h=>h.1))
  clear hb7 a1 hfz g2
  generalize w6.setCell ⟨g,2,none⟩ (.slice A6 (l.length+1) c6)=w7 at *
  have g2:w7.cell? ⟨g,2,none⟩=some (.slice A6 (l.length+1) c6):=(kE BG.out 2).trans rfl
  go_wp2_with fail
  refine bodyPost_ret (pN (rs:=[.tmp 6,.tmp 7]) rfl (by simp) (.tmp (.tmp .nil))) rfl ?_
  refine⟨?_,⟨A6,c6,⟨⟨A6,c6,?_,G0.out,rfl,rfl⟩,?_,HB.out⟩,fun k e=>?_⟩,HK.out⟩
  ·(have:=HL.out;simp;unfold wrap64;omega)
  ·have:=BG.out;simpa using this
  ·exact HR.out
  rcases HAT.out with h|⟨b,h1,h2⟩
  ·exact .inl (e.symm.trans h)
  rw[h1]at e
  have:=HKS.out
  obtain rfl:=oI e
  exact .inr (Nat.le_trans this h2)
variable {Ax:Option Addr} {cx:Nat}
def pQ:Nat→Int→ByteArray→Int→List (S31)→Int→Int→Option (ByteArray×ByteArray×Int×Int×Int)
 | 0,_,_,_,_,_,_=>none
 | k+1,x3,a1,a0,a4,a3,a2=>if a0<(a1.size:Int)then(if 0≤a0 then((a0b (bt a1 a0)).bind fun a5=>(if a5=true then(if 0≤x3 then(if x3≤a0 then(if a0≤(a1.size:Int)then(some (a1.extract (x3:Int).toNat (a0:Int).toNat,a1,a0,a3,a2))else(none))else(none))else(none))else(pQ k x3 a1 (wrap64 (a0+1)) a4 a3 a2)))else(none))else(if 0≤x3 then(if x3≤a0 then(if a0≤(a1.size:Int)then(some (a1.extract (x3:Int).toNat (a0:Int).toNat,a1,a0,a3,a2))else(none))else(none))else(none))
def tJ(k:Nat)(a4:ByteArray)(a0:Int)(a3:List (S31))(a2:Int)(a1:Int):Option (ByteArray×ByteArray×Int×Int×Int):=pQ k a0 a4 a0 a3 a2 a1
theorem YQi(k g:Nat)(a1:ByteArray)(a5:Int)(a2:List (S31))(a4 a3:Int)(r1 r2:ByteArray)(r3 r4 r5:Int)(w0 w:World)(hI:IsS84 Ax cx w0 w g a1 a5 a2 a4 a3)(hB:Below w0.heap.size w0 w)(h:tJ k a1 a5 a2 a4 a3=some (r1,r2,r3,r4,r5)) :
  Calls Tryz.prog 71 #[.pointer (some ⟨g,0,none⟩)] w fun e w'=>e= .returned (.string r1)∧IsS84 Ax cx w0 w' g r2 r3 a2 r4 r5∧Below w0.heap.size w0 w'∧KeepBut w w' g none:=by
 have HI0:=am hI
 have HK:=am (KeepBut.refl w g none)
 have HL:=am hB.size
 clear hI
 have HW0:=am hB.size
 have HB:=am hB
 clear hB
 have H:=h
 clear h
 unfold tJ at H
 replace H:=am H
 obtain⟨ASz2_2,cSz2_2,HGz2,hgz2,HSz2_2⟩:=HI0.out
 have aE:=xQ HGz2
 have aD:=xP HGz2
 have aC:=xO HGz2
 have aB:=xN HGz2
 have aA:=xM HGz2
 have a9:=kF HGz2 0
 have a8:=kF HGz2 1
 have a7:=kF HGz2 3
 have a6:=kF HGz2 4
 clear HGz2 hgz2
 go_enter Tryz.func71,Tryz.ntmps71
 go_wp2
 repeat(go_quiet (fail);try go_wp2)
 go_loopg [] k (fun kq w' =>∃(a0:Int),Aside0 (pQ kq a5 a1 a0 a2 a4 a3=some (r1,r2,r3,r4,r5))∧Aside0 (kq≤k)∧Aside0 (IsS84 Ax cx w0 w' g a1 a0 a2 a4 a3)∧Aside0 (KeepBut w w' g none)∧Aside0 (Below w0.heap.size w0 w'))
 case atStart=>exact⟨a5,H,⟨Nat.le_refl _⟩,⟨xB⟩,⟨kB⟩,⟨a0j⟩⟩
 clear H
 clear aE aD aC aB aA a9 a8 a7 a6
 obtain⟨a0,HA,aF,HI0,HK,HB⟩:=hrel
 cases gk with
 | zero=>cases HA.out
 | succ k1 =>
  obtain⟨H⟩:=HA
  simp only[pQ]at H
  replace H:=iD H;rcases H with⟨aG,H⟩|⟨aG,H⟩
  rotate_left
  ·replace H:=iTD H;obtain⟨bE,bD,H⟩:=H
   replace H:=iTD H;obtain⟨bC,bB,H⟩:=H
   replace H:=iTD H;obtain⟨bA,b9,H⟩:=H
   simp only[Option.some.injEq,Prod.mk.injEq]at H
   obtain⟨rfl,rfl,rfl,rfl,rfl⟩:=H
   obtain⟨ASz16_2,cSz16_2,HGz16,hgz16,HSz16_2⟩:=HI0.out
   have aY:=xQ HGz16
   have aX:=xP HGz16
   have aW:=xO HGz16
   have aV:=xN HGz16
   have aU:=xM HGz16
   have aK:=kF HGz16 0
   have aJ:=kF HGz16 1
   have aI:=kF HGz16 3
   have aH:=kF HGz16 4
   clear HGz16 hgz16
   go_wp2
   repeat(go_quiet (fail);try go_wp2)
   go_ret
   exact⟨rfl,xB,a0j,kB⟩
  replace H:=iN H;obtain⟨bM,H⟩:=H
  replace H:=oA H;obtain⟨bH,A6,H⟩:=H
  replace H:=iB H;rcases H with⟨rfl,H⟩|⟨rfl,H⟩
  ·replace H:=iTD H;obtain⟨bL,bK,H⟩:=H
   replace H:=iTD H;obtain⟨bJ,bI,H⟩:=H
   replace H:=iTD H;obtain⟨bG,bF,H⟩:=H
   simp only[Option.some.injEq,Prod.mk.injEq]at H
   obtain⟨rfl,rfl,rfl,rfl,rfl⟩:=H
   obtain⟨ASz11_2,cSz11_2,HGz11,hgz11,HSz11_2⟩:=HI0.out
   have b7:=xQ HGz11
   have b6:=xP HGz11
   have b5:=xO HGz11
   have b4:=xN HGz11
   have b3:=xM HGz11
   have aT:=kF HGz11 0
   have aS:=kF HGz11 1
   have aR:=kF HGz11 3
   have aQ:=kF HGz11 4
   clear HGz11 hgz11
   have p5:0≤(a0:Int):=oD (by assumption)
   have q5:a0<(a1.size:Int):=oD (by assumption)
   have b8:=a5v a1 a0
   replace p5:=eq_true p5
   replace q5:=eq_true q5
   go_wp2_with ((go_at_call 103;refine cD (JVi A6.out) fun nd=>?_;(try exact dq)))
   repeat(go_quiet ((go_at_call 103;refine cD (JVi A6.out) fun nd=>?_;(try exact dq)));try go_wp2_with ((go_at_call 103;refine cD (JVi A6.out) fun nd=>?_;(try exact dq))))
   go_ret
   exact⟨rfl,xB,a0j,kB⟩
  replace H:=am H
  obtain⟨ASz12_2,cSz12_2,HGz12,hgz12,HSz12_2⟩:=HI0.out
  have b2:=xQ HGz12
  have b1:=xP HGz12
  have b0:=xO HGz12
  have a_:=xN HGz12
  have aZ:=xM HGz12
  have aO:=kF HGz12 0
  have aN:=kF HGz12 1
  have aM:=kF HGz12 3
  have aL:=kF HGz12 4
  clear HGz12 hgz12
  have p5:0≤(a0:Int):=oD (by assumption)
  have q5:a0<(a1.size:Int):=oD (by assumption)
  have b8:=a5v a1 a0
  replace p5:=eq_true p5
  replace q5:=eq_true q5
  go_wp2_with ((go_at_call 103;refine cD (JVi A6.out) fun nd=>?_;(try exact dq)))
  repeat(go_quiet ((go_at_call 103;refine cD (JVi A6.out) fun nd=>?_;(try exact dq)));try go_wp2_with ((go_at_call 103;refine cD (JVi A6.out) fun nd=>?_;(try exact dq))))
  go_roundg k1
  case measure=>have:=aF.out;omega
  case rel=>exact⟨(wrap64 (a0+1)),H,⟨by have:=aF.out;omega⟩,⟨xB⟩,⟨kB⟩,⟨a0j⟩⟩
variable {Ax:Option Addr} {cx:Nat}
theorem b7j{s:ByteArray}{a:Int}{l:List (S31)}{c b x:Int}{r1:Bool}{r2:ByteArray}{r3 r4 r5:Int}(h:rS s a l c b x=some (r1,r2,r3,r4,r5)):r2=s∧r4=c∧r5=b:=by
 unfold rS at h
 split at h
 ·simp only[Option.some.injEq,Prod.mk.injEq]at h;exact⟨h.2.1.symm,h.2.2.2.1.symm,h.2.2.2.2.symm⟩
 ·split at h
  ·split at h
   ·split at h
    ·simp only[Option.some.injEq,Prod.mk.injEq]at h;exact⟨h.2.1.symm,h.2.2.2.1.symm,h.2.2.2.2.symm⟩
    ·simp only[Option.some.injEq,Prod.mk.injEq]at h;exact⟨h.2.1.symm,h.2.2.2.1.symm,h.2.2.2.2.symm⟩
   ·exact absurd h (by simp)
  ·exact absurd h (by simp)
theorem b4b{s:ByteArray}{l:List (S31)}{c b:Int}{r1 r2:ByteArray}{r3 r4 r5:Int}{x:Int}(k:Nat) :∀a:Int,pQ k x s a l c b=some (r1,r2,r3,r4,r5)→r2=s∧r4=c∧r5=b:=by
 induction k with
 | zero=>intro a h;simp[pQ]at h
 | succ k ih =>
  intro a h
  simp only[pQ]at h
  split at h
  ·split at h
   ·obtain⟨t,_,h⟩:=oB h
    split at h
    ·split at h
     ·split at h
      ·split at h
       ·simp only[Option.some.injEq,Prod.mk.injEq]at h;exact⟨h.2.1.symm,h.2.2.2.1.symm,h.2.2.2.2.symm⟩
       ·exact absurd h (by simp)
      ·exact absurd h (by simp)
     ·exact absurd h (by simp)
    ·exact ih _ h
   ·exact absurd h (by simp)
  ·split at h
   ·split at h
    ·split at h
     ·simp only[Option.some.injEq,Prod.mk.injEq]at h;exact⟨h.2.1.symm,h.2.2.2.1.symm,h.2.2.2.2.symm⟩
     ·exact absurd h (by simp)
    ·exact absurd h (by simp)
   ·exact absurd h (by simp)
def goF(s:ByteArray)(a:Int)(l:List (S31))(c b x:Int):Option (Bool×Int):=(rS s a l c b x).map fun r=>(r.1,r.2.2.1)
def wF(k:Nat)(s:ByteArray)(a:Int)(l:List (S31))(c b:Int):Option (ByteArray×Int):=(tJ k s a l c b).map fun r=>(r.1,r.2.2.1)
theorem b4o(g:Nat)(s:ByteArray)(a:Int)(l:List (S31))(c b x:Int)(r:Bool)(a':Int)(w0 w:World)(hI:IsS84 Ax cx w0 w g s a l c b)(hB:Below w0.heap.size w0 w)(h:goF s a l c b x=some (r,a')) :
  Calls Tryz.prog 70 #[.pointer (some ⟨g,0,none⟩),.int .u8 x] w fun e w'=>e= .returned (.bool r)∧IsS84 Ax cx w0 w' g s a' l c b∧Below w0.heap.size w0 w'∧KeepBut w w' g none:=by
 obtain⟨⟨r1,r2,r3,r4,r5⟩,h1,h2⟩:=Option.map_eq_some_iff.mp h
 simp only[Prod.mk.injEq]at h2
 obtain⟨rfl,rfl⟩:=h2
 obtain⟨e1,e2,e3⟩:=b7j h1
 subst e1 e2 e3
 exact ZCi g _ a l _ _ x r1 _ r3 _ _ w0 w hI hB h1
theorem b8y(k g:Nat)(s:ByteArray)(a:Int)(l:List (S31))(c b:Int)(r:ByteArray)(a':Int)(w0 w:World)(hI:IsS84 Ax cx w0 w g s a l c b)(hB:Below w0.heap.size w0 w)(h:wF k s a l c b=some (r,a')) :
  Calls Tryz.prog 71 #[.pointer (some ⟨g,0,none⟩)] w fun e w'=>e= .returned (.string r)∧IsS84 Ax cx w0 w' g s a' l c b∧Below w0.heap.size w0 w'∧KeepBut w w' g none:=by
 obtain⟨⟨r1,r2,r3,r4,r5⟩,h1,h2⟩:=Option.map_eq_some_iff.mp h
 simp only[Prod.mk.injEq]at h2
 obtain⟨rfl,rfl⟩:=h2
 have a0:=h1
 unfold tJ at a0
 obtain⟨e1,e2,e3⟩:=b4b k _ a0
 subst e1 e2 e3
 exact YQi k g _ a l _ _ r1 _ r3 _ _ w0 w hI hB h1
mutual
def rR:Nat→ByteArray→Bool→Option (Int×Bool)
 | 0,_,_=>none
 | k+1,x0,a2=>if a2=true then(some (0,false))else(sQ k x0 0 (x0.size:Int) 0)
def sQ:Nat→ByteArray→Int→Int→Int→Option (Int×Bool)
 | 0,_,_,_,_=>none
 | k+1,x0,x4,a1,a0=>if a0<a1 then(if 0≤a0 then(if a0<(x0.size:Int)then(if(bt x0 a0)<48 then(some (0,false))else(if(bt x0 a0)>57 then(some (0,false))else(sQ k x0 (wrap64 ((wrap64 (10*x4))+(((bt x0 a0)-48)%256))) a1 (wrap64 (a0+1)))))else(none))else(none))else(some (x4,true))
end
def qU(k:Nat)(a0:ByteArray):Option (Int×Bool):=(qE (a0.size:Int) 1 9).bind fun a1=>(if a1=true then(if(a0.size:Int)>1 then(if 0<(a0.size:Int)then(rR k a0 ((bt a0 0)==48))else(none))else(rR k a0 false))else(rR k a0 true))
theorem c4s{P:Prop}(h:P:=by
 simp only[Option.some.injEq,Prod.mk.injEq]at H
 obtain⟨rfl,rfl⟩:=H
 go_wp2
 go_ret2
 exact⟨rfl,dR⟩):P:=h
theorem KCi(k:Nat)(a0:ByteArray)(r1:Int)(r2:Bool)(w:World)(h:qU k a0=some (r1,r2)) :
  Calls Tryz.prog 104 #[.string a0] w fun e w'=>e= .returned (.tuple #[.int .i64 r1,.bool r2])∧Drawn0 w w':=by
 have H:=h
 clear h
 unfold qU at H
 have aA:=am H;clear H
 go_enter Tryz.func104,Tryz.ntmps104
 go_upto_region 1 with(fail)
 go_cut [19] (fun aN wc =>∃(kq:Nat) (a6:Bool),aN= .bool a6∧Aside0 (rR kq a0 a6=some (r1,r2))∧Aside0 (kq≤k)∧Drawn0 w wc)
 case first =>
  have H:=aA.out
  clear aA
  replace H:=oA H;obtain⟨aR,A3,H⟩:=H
  replace H:=iB H;rcases H with⟨rfl,H⟩|⟨rfl,H⟩
  rotate_left
  ·replace H:=am H
   go_wp2_with (((with_reducible refine gW ?_);refine gD (some 8) Tryz.func28 rfl (JBi A3.out) fun nd=>?_))
   go_meet
   case rel=>exact⟨_,true,rfl,H,⟨oM⟩,dR⟩
  by_cases c5:(a0.size:Int)>1
  ·rw[if_pos c5]at H
   have aL:decide (1<(a0.size:Int))=true:=decide_eq_true c5
   have aK:decide (1<a0.size)=true:=decide_eq_true oM
   clear c5
   replace H:=iP H;obtain⟨c6,H⟩:=H
   have aU:decide (0<(a0.size:Int))=true:=decide_eq_true c6
   have aT:decide (0<a0.size)=true:=decide_eq_true oM
   clear c6
   replace H:=am H
   go_wp2_with (((with_reducible refine gW ?_);refine gD (some 8) Tryz.func28 rfl (JBi A3.out) fun nd=>?_;have p7:0≤(0:Int):=oM;have q7:0<a0.size:=(by have:(0:Int)<(a0.size:Int):=oD (by assumption);omega);have aX :∀h:0<a0.size,((a0[0]'h).toNat:Int)=bt a0 0:=a5v a0 0;clear p7;have aV:(0<(a0.size:Int))=True:=eq_true (oD (by assumption));replace q7:=eq_true q7))
   go_meet
   case rel=>exact⟨_,(((bt a0 0)==48)),rfl,H,⟨oM⟩,dR⟩
  rw[if_neg c5]at H
  have aL:decide (1<(a0.size:Int))=false:=decide_eq_false c5
  have aK:decide (1<a0.size)=false:=decide_eq_false oM
  clear c5
  replace H:=am H
  go_wp2_with (((with_reducible refine gW ?_);refine gD (some 8) Tryz.func28 rfl (JBi A3.out) fun nd=>?_))
  go_meet
  case rel=>exact⟨_,false,rfl,H,⟨oM⟩,dR⟩
 clear aA
 obtain⟨kq,a6,rfl,HA,aH,⟨aW,rfl⟩⟩:=hcut
 cases kq with
 | zero=>cases HA.out
 | succ aF =>
  obtain⟨H⟩:=HA
  simp only[rR]at H
  replace H:=iB H;rcases H with⟨rfl,H⟩|⟨rfl,H⟩
  ·exact c4s
  replace H:=am H
  go_wp2
  go_loopg [4,22] aF (fun kq v4 aM w' =>∃(a5:Int) (a1:Int),v4= .int .i64 a5∧aM= .int .i64 a1∧Aside0 (sQ kq a0 a5 (a0.size:Int) a1=some (r1,r2))∧Aside0 (kq≤aF)∧Drawn0 w w')
  case atStart=>exact⟨0,0,rfl,rfl,H,⟨Nat.le_refl _⟩,dR⟩
  clear H
  obtain⟨a5,a1,rfl,rfl,HA,aG,⟨m2,rfl⟩⟩:=hrel
  cases gk with
  | zero=>cases HA.out
  | succ k2 =>
   obtain⟨H⟩:=HA
   simp only[sQ]at H
   replace H:=iD H;rcases H with⟨aJ,H⟩|⟨aJ,H⟩
   rotate_left
   ·exact c4s
   replace H:=iN H;obtain⟨aQ,H⟩:=H
   replace H:=iN H;obtain⟨aO,H⟩:=H
   replace H:=iD H;rcases H with⟨aC,H⟩|⟨aC,H⟩
   ·simp only[Option.some.injEq,Prod.mk.injEq]at H
    obtain⟨rfl,rfl⟩:=H
    have a3:0≤(a1:Int):=oD (by assumption)
    have a2:a1<(a0.size:Int):=oD (by assumption)
    have a9:=a5v a0 a1
    replace a3:=eq_true a3
    replace a2:=eq_true a2
    go_wp2
    go_ret2
    exact⟨rfl,dR⟩
   by_cases a4:(bt a0 a1)>57
   ·rw[if_pos a4]at H
    have aB:decide (57<(bt a0 a1))=true:=decide_eq_true a4
    clear a4
    simp only[Option.some.injEq,Prod.mk.injEq]at H
    obtain⟨rfl,rfl⟩:=H
    have a3:0≤(a1:Int):=oD (by assumption)
    have a2:a1<(a0.size:Int):=oD (by assumption)
    have a9:=a5v a0 a1
    replace a3:=eq_true a3
    replace a2:=eq_true a2
    have a8:0≤(a1:Int):=oD (by assumption)
    have a7:a1<(a0.size:Int):=oD (by assumption)
    have aI:=a5v a0 a1
    replace a8:=eq_true a8
    replace a7:=eq_true a7
    go_wp2
    go_ret2
    exact⟨rfl,dR⟩
   rw[if_neg a4]at H
   have aB:decide (57<(bt a0 a1))=false:=decide_eq_false a4
   clear a4
   replace H:=am H
   have a3:0≤(a1:Int):=oD (by assumption)
   have a2:a1<(a0.size:Int):=oD (by assumption)
   have a9:=a5v a0 a1
   replace a3:=eq_true a3
   replace a2:=eq_true a2
   have a8:0≤(a1:Int):=oD (by assumption)
   have a7:a1<(a0.size:Int):=oD (by assumption)
   have aI:=a5v a0 a1
   replace a8:=eq_true a8
   replace a7:=eq_true a7
   have aE:0≤(a1:Int):=oD (by assumption)
   have aD:a1<(a0.size:Int):=oD (by assumption)
   have aS:=a5v a0 a1
   replace aE:=eq_true aE
   replace aD:=eq_true aD
   go_wp2
   go_roundg k2
   case measure=>have:=aH.out;have:=aG.out;omega
   case rel=>exact⟨(wrap64 ((wrap64 (10*a5))+(((bt a0 a1)-48)%256))),(wrap64 (a1+1)),rfl,rfl,H,⟨by have:=aH.out;have:=aG.out;omega⟩,dR⟩
end
mutual
def rY:Nat→ByteArray→Bool→Option (Int×Int×Bool)
 | 0,_,_=>none
 | k+1,x0,a2=>if a2=true then(some (0,0,false))else(uB k x0 1)
def rX:Nat→ByteArray→Int→Option (Int×Int×Bool)
 | 0,_,_=>none
 | k+1,x0,x7=>if x7=(x0.size:Int)then(some (0,0,false))else(if 1≤x7 then(if x7≤(x0.size:Int)then((qU k (x0.extract 1 (x7:Int).toNat)).bind fun a1=>(if 0≤(wrap64 (x7+1))then(if(wrap64 (x7+1))≤(x0.size:Int)then((qU k (x0.extract ((wrap64 (x7+1)):Int).toNat x0.size)).bind fun a0=>(if a1.2=true then(some (a1.1,a0.1,a0.2))else(some (a1.1,a0.1,false))))else(none))else(none)))else(none))else(none))
def uB:Nat→ByteArray→Int→Option (Int×Int×Bool)
 | 0,_,_=>none
 | k+1,x0,x7=>if x7<(x0.size:Int)then(if 0≤x7 then(if(bt x0 x7)=58 then(rX k x0 x7)else(uB k x0 (wrap64 (x7+1))))else(none))else(rX k x0 x7)
end
def sP(k:Nat)(a0:ByteArray)(a1:Int):Option (Int×Int×Bool):=if a0.toList=([]:List UInt8)then(rY k a0 true)else(if 0<(a0.size:Int)then(rY k a0 ((bt a0 0)!=a1))else(none))
theorem c5v{P:Prop}(h:P:=by
 simp only[Option.some.injEq,Prod.mk.injEq]at H
 obtain⟨rfl,rfl,rfl⟩:=H
 go_wp2_with (((with_reducible refine gW ?_);first|(refine gD (some 40) Tryz.func104 rfl (KCi _ _ _ _ _ aH.out) fun nd=>?_)|(refine gD (some 48) Tryz.func104 rfl (KCi _ _ _ _ _ aQ.out) fun nd=>?_)))
 go_ret3
 exact⟨rfl,dR⟩):P:=h
theorem c5m{P:Prop}(h:P:=by
 simp only[Option.some.injEq,Prod.mk.injEq]at H
 obtain⟨rfl,rfl,rfl⟩:=H
 go_wp2
 go_ret3
 exact⟨rfl,dR⟩):P:=h
theorem KFi(k:Nat)(a0:ByteArray)(a1 r1 r2:Int)(r3:Bool)(w:World)(h:sP k a0 a1=some (r1,r2,r3)) :
  Calls Tryz.prog 72 #[.string a0,.int .u8 a1] w fun e w'=>e= .returned (.tuple #[.int .i64 r1,.int .i64 r2,.bool r3])∧Drawn0 w w':=by
 have H:=h
 clear h
 unfold sP at H
 have aC:=am H;clear H
 go_enter Tryz.func72,Tryz.ntmps72
 go_upto_region 1 with(fail)
 go_cut [19] (fun aN wc =>∃(kq:Nat) (a4:Bool),aN= .bool a4∧Aside0 (rY kq a0 a4=some (r1,r2,r3))∧Aside0 (kq≤k)∧Drawn0 w wc)
 case first =>
  have H:=aC.out
  clear aC
  replace H:=iE H;rcases H with⟨aM,aL,H⟩|⟨aM,aL,H⟩
  ·replace H:=am H
   go_wp2
   go_meet
   case rel=>exact⟨_,true,rfl,H,⟨oM⟩,dR⟩
  replace H:=iP H;obtain⟨c5,H⟩:=H
  have b4:decide (0<(a0.size:Int))=true:=decide_eq_true c5
  have b3:decide (0<a0.size)=true:=decide_eq_true oM
  clear c5
  replace H:=am H
  have p6:0≤(0:Int):=oM
  have q6:0<a0.size:=(by have:(0:Int)<(a0.size:Int):=oD (by assumption);omega)
  have b9 :∀h:0<a0.size,((a0[0]'h).toNat:Int)=bt a0 0:=a5v a0 0
  clear p6
  have b5:(0<(a0.size:Int))=True:=eq_true (oD (by assumption))
  replace q6:=eq_true q6
  go_wp2
  go_meet
  case rel=>exact⟨_,(((bt a0 0)!=a1)),rfl,H,⟨oM⟩,dR⟩
 clear aC
 obtain⟨kq,a4,rfl,HA,a9,⟨b7,rfl⟩⟩:=hcut
 cases kq with
 | zero=>cases HA.out
 | succ aA =>
  obtain⟨H⟩:=HA
  simp only[rY]at H
  replace H:=iB H;rcases H with⟨rfl,H⟩|⟨rfl,H⟩
  ·exact c5m
  have aB:=am H;clear H
  go_upto_block 0 with(fail)
  go_cut [7] (fun v7 wc =>∃(kq:Nat) (a3:Int),v7= .int .i64 a3∧Aside0 (rX kq a0 a3=some (r1,r2,r3))∧Aside0 (kq≤aA)∧Drawn0 w wc)
  case first =>
   have H:=aB.out
   clear aB
   replace H:=am H
   go_wp2
   go_loopg [7] aA (fun kq v7 w' =>∃(a2:Int),v7= .int .i64 a2∧Aside0 (uB kq a0 a2=some (r1,r2,r3))∧Aside0 (kq≤aA)∧Drawn0 w w')
   case atStart=>exact⟨1,rfl,H,⟨Nat.le_refl _⟩,dR⟩
   clear H
   obtain⟨a2,rfl,HA,a8,⟨m2,rfl⟩⟩:=hrel
   cases gk with
   | zero=>cases HA.out
   | succ k2 =>
    obtain⟨H⟩:=HA
    simp only[uB]at H
    replace H:=iD H;rcases H with⟨aK,H⟩|⟨aK,H⟩
    rotate_left
    ·replace H:=am H
     go_wp2
     go_meet
     case rel=>exact⟨_,a2,rfl,H,⟨by have:=a9.out;have:=a8.out;omega⟩,dR⟩
    replace H:=iN H;obtain⟨aZ,H⟩:=H
    replace H:=iE H;rcases H with⟨aG,aF,H⟩|⟨aG,aF,H⟩
    ·replace H:=am H
     have a6:0≤(a2:Int):=oD (by assumption)
     have a5:a2<(a0.size:Int):=oD (by assumption)
     have aJ:=a5v a0 a2
     replace a6:=eq_true a6
     replace a5:=eq_true a5
     go_wp2
     go_meet
     case rel=>exact⟨_,a2,rfl,H,⟨by have:=a9.out;have:=a8.out;omega⟩,dR⟩
    replace H:=am H
    have a6:0≤(a2:Int):=oD (by assumption)
    have a5:a2<(a0.size:Int):=oD (by assumption)
    have aJ:=a5v a0 a2
    replace a6:=eq_true a6
    replace a5:=eq_true a5
    go_wp2
    go_roundg k2
    case measure=>have:=a9.out;have:=a8.out;omega
    case rel=>exact⟨(wrap64 (a2+1)),rfl,H,⟨by have:=a9.out;have:=a8.out;omega⟩,dR⟩
  clear aB
  obtain⟨kq,a3,rfl,HA,bA,⟨b6,rfl⟩⟩:=hcut
  cases kq with
  | zero=>cases HA.out
  | succ b8 =>
   obtain⟨H⟩:=HA
   simp only[rX]at H
   replace H:=iE H;rcases H with⟨aE,aD,H⟩|⟨aE,aD,H⟩
   ·exact c5m
   replace H:=iTD H;obtain⟨aY,aX,H⟩:=H
   replace H:=iTD H;obtain⟨aW,aV,H⟩:=H
   replace H:=oA H;obtain⟨⟨b2,b1⟩,aH,H⟩:=H
   try dsimp only at H
   generalize a7:wrap64 (a3+1)=aI at H
   (try rw[a7]at aH)
   have aO:(IntKind.i64.wrap (a3+1))=aI:=(vB _).trans a7
   replace H:=iTD H;obtain⟨aU,aT,H⟩:=H
   replace H:=iTD H;obtain⟨aS,aR,H⟩:=H
   replace H:=oA H;obtain⟨⟨b0,a_⟩,aQ,H⟩:=H
   try dsimp only at H
   replace H:=iB H;rcases H with⟨rfl,H⟩|⟨rfl,H⟩
   ·exact c5v
   exact c5v
variable {Ax:Option Addr} {cx:Nat}
theorem a4v{l:List (S31)}{code bad:Int}{n:S31}{frm:Int}(h:l.length≤80):(a5s l code bad n frm).2.1.length≤80:=by
 unfold a5s
 split
 ·split
  ·exact h
  ·split
   ·exact h
   ·simp;omega
 ·exact h
def c2l(l:List (S31))(code bad:Int)(n:S31)(frm a:Int):(Int×Bool)×Int×List (S31)×Int×Int :=
 ((a5s l code bad n frm).1,a,(a5s l code bad n frm).2)
def b7f(k:Nat)(s:ByteArray)(a:Int)(l:List (S31))(code bad frm:Int):Option ((Int×Bool)×Int×List (S31)×Int×Int) :=
 (wF k s a l code bad).bind fun w1=>(sP k w1.1 35).bind fun r=>if r.2.2=true then some (c2l l code bad ⟨0,r.1,r.2.1,0,0,0⟩ frm w1.2)else(sP k w1.1 118).bind fun q=>if q.2.2=true then some (c2l l code bad ⟨1,q.2.1,q.1,0,0,0⟩ frm w1.2)else some ((0,false),w1.2,l,2,frm)
def Left(w0 w W:World)(g:Nat)(s:ByteArray)(a:Int)(l:List (S31))(code bad:Int)(A0:Option Addr)(c0 n0:Nat):Prop :=
 (∃A' c',b0h w0 W g s a l code bad A' c'∧∀k,(Value.slice A' l.length c').ownBlock=some k→some k=(Value.slice A0 n0 c0).ownBlock∨w.heap.size≤k)∧Kept w W (fun k=>k=g∨some k=(Value.slice A0 n0 c0).ownBlock)∧l.length≤80
theorem impl_termReader_node.leaf(k g:Nat)(s:ByteArray)(a a1:Int)(l:List (S31))(code bad p:Int)(ok:Bool)(a':Int)(l':List (S31))(code' bad':Int)(A:Option Addr)(c:Nat)(w0 w:World)(hI:b0h w0 w g s a l code bad A c)(hl:l.length≤80)(hg:goF s a l code bad 40=some (false,a1))
  (hf:b7f k s a1 l code bad a=some ((p,ok),a',l',code',bad')) :
  Calls Tryz.prog 53 #[.pointer (some ⟨g,0,none⟩)] w fun e w'=>e= .returned (.tuple #[.int .i64 p,.bool ok])∧Left w0 w w' g s a' l' code' bad' A c l.length:=by
 obtain⟨hS,hR,hB⟩:=hI
 have HS:=am hS;have HR:=am hR;have HB:=am hB;have HL:=am hl;have HG:=am hg
 unfold b7f at hf
 obtain⟨⟨v1,a2⟩,a3,hf⟩:=oB hf
 obtain⟨⟨x1,x2,f1⟩,hr1,hf⟩:=oB hf
 have HW:=am a3;have HP:=am hr1;have HF:=am hf
 obtain⟨A2,c2,hbg,_,_,_⟩:=hS
 have g1:=(kE hbg 1)
 have g1:w.cell? ⟨g,1,none⟩=some (.int .i64 a):=g1.trans rfl
 have HK:=am (Kept.refl w (fun k=>k=g∨some k=(Value.slice A l.length c).ownBlock))
 clear hR hB hl hg a3 hr1 hf hbg
 go_enter Tryz.func53,Tryz.ntmps53
 go_wp2_with fail
 refine(b4o g s a l code bad 40 false a1 w0 _ HS.out HB.out HG.out).mono ?_
 rintro e w1 ⟨rfl,hi,hb,hk⟩
 have HS:=am hi;have HR:=am (Kd.YF HR.out hk (fun _ h=>h));have HB:=am hb;have HK:=am (qW HK.out hk (.inl (.inl rfl)))
 clear hi hb hk g1
 go_wp2_with fail
 refine(b8y k g s a1 l code bad v1 a2 w0 _ HS.out HB.out HW.out).mono ?_
 rintro e w2 ⟨rfl,hi,hb,hk⟩
 have HS:=am hi;have HR:=am (Kd.YF HR.out hk (fun _ h=>h));have HB:=am hb;have HK:=am (qW HK.out hk (.inl (.inl rfl)))
 clear hi hb hk
 go_wp2_with fail
 refine(KFi k v1 35 x1 x2 f1 _ HP.out).mono ?_
 rintro e w3 ⟨rfl,hd⟩
 have HS:=am (IsS84.below HS.out hd.below);have HR:=am (Kd.JK HR.out hd.below);have HB:=am (HB.out.trans (hd.below.mono HB.out.size));have HK:=am (HK.out.below hd.below)
 clear hd
 cases f1 with
 | true =>
  have hf:=HF.out
  rw[if_pos rfl]at hf
  unfold c2l at hf
  simp only[Option.some.injEq,Prod.mk.injEq]at hf
  obtain⟨h1,rfl,h2⟩:=hf
  have HQ:=am (show a5s l code bad ⟨0,x1,x2,0,0,0⟩ a=((p,ok),l',code',bad')from Prod.ext h1 h2)
  clear h1 h2
  go_wp2_with fail
  refine(KBi g s a2 l code bad 0 x1 x2 0 0 0 a p ok l' code' bad' A c w0 w3 ⟨HS.out,HR.out,HB.out⟩ HL.out HQ.out).mono ?_
  rintro e w4 ⟨rfl,⟨A',c',hI,ho⟩,hk⟩
  have HI:=am hI;have HO:=am ho;have a0:=am hk
  clear hI ho hk
  have HLN:=am (show l'.length≤80 from by have:=a4v (code:=code) (bad:=bad) (n:=⟨0,x1,x2,0,0,0⟩) (frm:=a) HL.out;rw[HQ.out]at this;exact this)
  go_wp2_with fail
  refine bodyPost_ret (pN (rs:=[.tmp 2,.tmp 3]) rfl (by simp) (.tmp (.tmp .nil))) rfl ?_
  refine⟨rfl,⟨A',c',HI.out,fun k e=>?_⟩,HK.out.then_ a0.out (fun _ h=> .inl h),HLN.out⟩
  rcases HO.out k e with h|h
  ·exact .inl h
  ·exact .inr (Nat.le_trans HK.out.1 h)
 | false =>
  have hf:=HF.out
  rw[if_neg (by decide)]at hf
  obtain⟨⟨y1,y2,f2⟩,hr2,hf⟩:=oB hf
  have a4:=am hr2;have HF:=am hf
  clear hr2 hf
  go_wp2_with fail
  refine(KFi k v1 118 y1 y2 f2 _ a4.out).mono ?_
  rintro e w4 ⟨rfl,hd⟩
  have HS:=am (IsS84.below HS.out hd.below);have HR:=am (Kd.JK HR.out hd.below);have HB:=am (HB.out.trans (hd.below.mono HB.out.size));have HK:=am (HK.out.below hd.below)
  clear hd
  cases f2 with
  | true =>
   have hf:=HF.out
   rw[if_pos rfl]at hf
   unfold c2l at hf
   simp only[Option.some.injEq,Prod.mk.injEq]at hf
   obtain⟨h1,rfl,h2⟩:=hf
   have HQ:=am (show a5s l code bad ⟨1,y2,y1,0,0,0⟩ a=((p,ok),l',code',bad')from Prod.ext h1 h2)
   clear h1 h2
   go_wp2_with fail
   refine(KBi g s a2 l code bad 1 y2 y1 0 0 0 a p ok l' code' bad' A c w0 w4 ⟨HS.out,HR.out,HB.out⟩ HL.out HQ.out).mono ?_
   rintro e w5 ⟨rfl,⟨A',c',hI,ho⟩,hk⟩
   have HI:=am hI;have HO:=am ho;have a0:=am hk
   clear hI ho hk
   have HLN:=am (show l'.length≤80 from by have:=a4v (code:=code) (bad:=bad) (n:=⟨1,y2,y1,0,0,0⟩) (frm:=a) HL.out;rw[HQ.out]at this;exact this)
   go_wp2_with fail
   refine bodyPost_ret (pN (rs:=[.tmp 2,.tmp 3]) rfl (by simp) (.tmp (.tmp .nil))) rfl ?_
   refine⟨rfl,⟨A',c',HI.out,fun k e=>?_⟩,HK.out.then_ a0.out (fun _ h=> .inl h),HLN.out⟩
   rcases HO.out k e with h|h
   ·exact .inl h
   ·exact .inr (Nat.le_trans HK.out.1 h)
  | false =>
   have hf:=HF.out
   rw[if_neg (by decide)]at hf
   simp only[Option.some.injEq,Prod.mk.injEq]at hf
   obtain⟨⟨rfl,rfl⟩,rfl,rfl,rfl,rfl⟩:=hf
   go_wp2_with fail
   refine(JSi g s a2 l code bad 2 a 0 false s a2 2 a w0 w4 HS.out HB.out rfl).mono ?_
   rintro e w5 ⟨rfl,hi,hb,hk⟩
   have HS:=am hi;have HR:=am (Kd.YF HR.out hk (fun _ h=>h));have HB:=am hb;have HK:=am (qW HK.out hk (.inl (.inl rfl)))
   clear hi hb hk
   go_wp2_with fail
   refine bodyPost_ret (pN (rs:=[.tmp 2,.tmp 3]) rfl (by simp) (.tmp (.tmp .nil))) rfl ?_
   exact⟨rfl,⟨A,c,⟨HS.out,HR.out,HB.out⟩,fun k e=> .inl e.symm⟩,HK.out,HL.out⟩
variable {Ax:Option Addr} {cx:Nat}
def pJ:Nat→Bool→ByteArray→Int→List (S31)→Int→Int→Int→Int→Int→Int→Int→Int→Option (Int×ByteArray×Int×Int×Int)
 | 0,_,_,_,_,_,_,_,_,_,_,_,_=>none
 | k+1,aB,a6,a5,a2,a4,a3,a7,aA,a9,a1,a0,a8=>if aB=true then(some (1,a6,a5,a4,a3))else(if a7=16 then(if 0≤a1 then(if a1<(a2.length:Int)then(if 0≤a0 then(if a0<(a2.length:Int)then(some (wrap64 (((kA a2 a1).f1)+((kA a2 a0).f1)),a6,a5,a4,a3))else(none))else(none))else(none))else(none))else(if a7=18 then(if 0≤a0 then(if a0<(a2.length:Int)then(some ((kA a2 a0).f1,a6,a5,a4,a3))else(none))else(none))else(if 0≤a1 then(if a1<(a2.length:Int)then(some ((kA a2 a1).f1,a6,a5,a4,a3))else(none))else(none))))
def qH(k:Nat)(a5:ByteArray)(a4:Int)(aA:List (S31))(a3:Int)(a2:Int)(a0:Int)(a1:Int)(a9:Int)(a8:Int)(a7:Int)(a6:Int):Option (Int×ByteArray×Int×Int×Int):=if a0=17 then(some (a1,a5,a4,a3,a2))else((qE a0 13 15).bind fun aC=>(if aC=true then(pJ k true a5 a4 aA a3 a2 a0 a1 a9 a8 a7 a6)else((rK a0 a1 a9 a8 a7 a6).bind fun aB=>(pJ k aB a5 a4 aA a3 a2 a0 a1 a9 a8 a7 a6))))
theorem b5n{P:Prop}(h:P:=by
 go_wp2
 repeat(go_quiet (fail);try go_wp2)
 go_ret
 exact⟨rfl,xB,a0j,by repeat(first|(with_reducible first|exact HK.out|apply yX|apply a0s|apply a2g|apply a0t|refine a5a ?_ aG.out _)|exact HK.out)⟩):P:=h
theorem KPi(k g:Nat)(a9:ByteArray)(a8:Int)(a4:List (S31))(a7 a6 a5 aJ aI aB aA aH r1:Int)(r2:ByteArray)(r3 r4 r5:Int)(w0 w:World)(hI:IsS84 Ax cx w0 w g a9 a8 a4 a7 a6)(hB:Below w0.heap.size w0 w)(hrow :∀W',KeepBut w W' g none→Kd.C k31 W' Ax a4.length a4)(h:qH k a9 a8 a4 a7 a6 a5 aJ aI aB aA aH=some (r1,r2,r3,r4,r5)) :
  Calls Tryz.prog 77 #[.pointer (some ⟨g,0,none⟩),.agg #[.int .i64 a5,.int .i64 aJ,.int .i64 aI,.int .i64 aB,.int .i64 aA,.int .i64 aH]] w fun e w'=>e= .returned (.int .i64 r1)∧IsS84 Ax cx w0 w' g r2 r3 a4 r4 r5∧Below w0.heap.size w0 w'∧KeepBut w w' g none:=by
 have HROW:=am hrow
 clear hrow
 have hu31:=Tryz.underlying33
 have HI0:=am hI
 have HK:=am (KeepBut.refl w g none)
 have HL:=am hB.size
 clear hI
 have HW0:=am hB.size
 have HB:=am hB
 clear hB
 have H:=h
 clear h
 unfold qH at H
 by_cases c3:a5=17
 ·rw[if_pos c3]at H
  have aT:(a5==17)=true:=beq_iff_eq.mpr c3
  have aS:(a5 !=17)=false:=bne_eq_false_iff_eq.mpr c3
  clear c3
  simp only[Option.some.injEq,Prod.mk.injEq]at H
  obtain⟨rfl,rfl,rfl,rfl,rfl⟩:=H
  go_enter Tryz.func77,Tryz.ntmps77
  go_wp2_with (((with_reducible refine gW ?_);refine bX 3 33 #[.int .i64 a5,.int .i64 aJ,.int .i64 aI,.int .i64 aB,.int .i64 aA,.int .i64 aH] ?_;intro a0 hg w4 hbox hb;have aF:=am (IsS84.below (by exact xB) hb);have aE:=kT (qD hb g none);have aD:=hX hb (by exact a0j);have aC:=am (hbox);have aN:=am ((by rw[hg];exact(sE (w:=w) (g:=g) (row:=none) (by exact kB)):w.heap.size≤a0));have aM:=am ((Nat.le_trans HW0.out (by rw[hg];exact(sE (w:=w) (g:=g) (row:=none) (by exact kB)):w.heap.size≤a0):w0.heap.size≤a0));have aL:=am ((by rw[hg];exact Nat.ne_of_lt (a1q (show IsS84 Ax cx w0 _ g a9 a8 a4 a7 a6 from by exact xB)):g≠a0));have aK:=am ((by rw[hg];exact Nat.ne_of_gt (a1q (show IsS84 Ax cx w0 _ g a9 a8 a4 a7 a6 from by exact xB)):a0≠g));clear HI0;clear HK;clear HB;have HI0:=aF;have HK:=aE;have HB:=aD;have a1:=aC;have aG:=aN;have aR:=aM;have a3:=aL;have a2:=aK;clear aF aE aD aC aN aM aL aK;clear hb hbox hg;have hnb5:=a2.out;have hnc5:=a3.out;have c_:=cf6 a1.out))
  go_ret
  exact⟨rfl,xB,a0j,by repeat(first|(with_reducible first|exact HK.out|apply yX|apply a0s|apply a2g|apply a0t|refine a5a ?_ aG.out _)|exact HK.out)⟩
 rw[if_neg c3]at H
 have aT:(a5==17)=false:=beq_eq_false_iff_ne.mpr c3
 have aS:(a5 !=17)=true:=bne_iff_ne.mpr c3
 have aU:=am H;clear H
 go_enter Tryz.func77,Tryz.ntmps77
 go_upto_region 3 with(((with_reducible refine pU (N:=3) rfl ?_);refine wG ?hg (N:=3) ?hd (cs:= #[.int .i64 a5,.int .i64 aJ,.int .i64 aI,.int .i64 aB,.int .i64 aA,.int .i64 aH]) (t:=33) ?hr ?_;(case hd=>rfl);(case hg=>rfl);(case hr=>(go_simp;done));intro a0 hg w8 hbox hb;have aF:=am (IsS84.below (by exact xB) hb);have aE:=kT (qD hb g none);have aD:=hX hb (by exact a0j);have aC:=am (hbox);have aN:=am ((by rw[hg];exact(sE (w:=w) (g:=g) (row:=none) (by exact kB)):w.heap.size≤a0));have aM:=am ((Nat.le_trans HW0.out (by rw[hg];exact(sE (w:=w) (g:=g) (row:=none) (by exact kB)):w.heap.size≤a0):w0.heap.size≤a0));have aL:=am ((by rw[hg];exact Nat.ne_of_lt (a1q (show IsS84 Ax cx w0 _ g a9 a8 a4 a7 a6 from by exact xB)):g≠a0));have aK:=am ((by rw[hg];exact Nat.ne_of_gt (a1q (show IsS84 Ax cx w0 _ g a9 a8 a4 a7 a6 from by exact xB)):a0≠g));clear HI0;clear HK;clear HB;have HI0:=aF;have HK:=aE;have HB:=aD;have a1:=aC;have aG:=aN;have aR:=aM;have a3:=aL;have a2:=aK;clear aF aE aD aC aN aM aL aK;clear hb hbox hg;have hnb9:=a2.out;have hnc9:=a3.out;have aO:=cf6 a1.out))
 repeat(go_quiet (((with_reducible refine pU (N:=3) rfl ?_);refine wG ?hg (N:=3) ?hd (cs:= #[.int .i64 a5,.int .i64 aJ,.int .i64 aI,.int .i64 aB,.int .i64 aA,.int .i64 aH]) (t:=33) ?hr ?_;(case hd=>rfl);(case hg=>rfl);(case hr=>first|(go_simp;done)|(go_simp;rfl));intro a0 hg w8 hbox hb;have aF:=am (IsS84.below (by exact xB) hb);have aE:=kT (qD hb g none);have aD:=hX hb (by exact a0j);have aC:=am (hbox);have aN:=am ((by rw[hg];exact(sE (w:=w) (g:=g) (row:=none) (by exact kB)):w.heap.size≤a0));have aM:=am ((Nat.le_trans HW0.out (by rw[hg];exact(sE (w:=w) (g:=g) (row:=none) (by exact kB)):w.heap.size≤a0):w0.heap.size≤a0));have aL:=am ((by rw[hg];exact Nat.ne_of_lt (a1q (show IsS84 Ax cx w0 _ g a9 a8 a4 a7 a6 from by exact xB)):g≠a0));have aK:=am ((by rw[hg];exact Nat.ne_of_gt (a1q (show IsS84 Ax cx w0 _ g a9 a8 a4 a7 a6 from by exact xB)):a0≠g));clear HI0;clear HK;clear HB;have HI0:=aF;have HK:=aE;have HB:=aD;have a1:=aC;have aG:=aN;have aR:=aM;have a3:=aL;have a2:=aK;clear aF aE aD aC aN aM aL aK;clear hb hbox hg;have hnb9:=a2.out;have hnc9:=a3.out;have aO:=cf6 a1.out));go_upto_region 3 with(((with_reducible refine pU (N:=3) rfl ?_);refine wG ?hg (N:=3) ?hd (cs:= #[.int .i64 a5,.int .i64 aJ,.int .i64 aI,.int .i64 aB,.int .i64 aA,.int .i64 aH]) (t:=33) ?hr ?_;(case hd=>rfl);(case hg=>rfl);(case hr=>first|(go_simp;done)|(go_simp;rfl));intro a0 hg w8 hbox hb;have aF:=am (IsS84.below (by exact xB) hb);have aE:=kT (qD hb g none);have aD:=hX hb (by exact a0j);have aC:=am (hbox);have aN:=am ((by rw[hg];exact(sE (w:=w) (g:=g) (row:=none) (by exact kB)):w.heap.size≤a0));have aM:=am ((Nat.le_trans HW0.out (by rw[hg];exact(sE (w:=w) (g:=g) (row:=none) (by exact kB)):w.heap.size≤a0):w0.heap.size≤a0));have aL:=am ((by rw[hg];exact Nat.ne_of_lt (a1q (show IsS84 Ax cx w0 _ g a9 a8 a4 a7 a6 from by exact xB)):g≠a0));have aK:=am ((by rw[hg];exact Nat.ne_of_gt (a1q (show IsS84 Ax cx w0 _ g a9 a8 a4 a7 a6 from by exact xB)):a0≠g));clear HI0;clear HK;clear HB;have HI0:=aF;have HK:=aE;have HB:=aD;have a1:=aC;have aG:=aN;have aR:=aM;have a3:=aL;have a2:=aK;clear aF aE aD aC aN aM aL aK;clear hb hbox hg;have hnb9:=a2.out;have hnc9:=a3.out;have aO:=cf6 a1.out)))
 (try simp only[Act.put,List.setIfInBounds_toArray,List.set_cons_zero,List.set_cons_succ])
 go_cut [11] (fun cZ wc =>∃(kq:Nat) (aQ:Bool),cZ= .bool aQ∧Aside0 (pJ kq aQ a9 a8 a4 a7 a6 a5 aJ aI aB aA aH=some (r1,r2,r3,r4,r5))∧Aside0 (kq≤k)∧Aside0 (wc.heap[a0]? = some (.cells #[.int .i64 a5,.int .i64 aJ,.int .i64 aI,.int .i64 aB,.int .i64 aA,.int .i64 aH] 33 (0,0)))∧Aside0 (IsS84 Ax cx w0 wc g a9 a8 a4 a7 a6)∧Aside0 (KeepBut w wc g none)∧Aside0 (Below w0.heap.size w0 wc))
 case first =>
  have H:=aU.out
  clear aU
  replace H:=oA H;obtain⟨dB,b0,H⟩:=H
  replace H:=iB H;rcases H with⟨rfl,H⟩|⟨rfl,H⟩
  ·replace H:=am H
   have hnb13:=a2.out
   have hnc13:=a3.out
   have cY:=cf6 a1.out
   go_wp2_with ((go_at_call 28;refine cD (JBi b0.out) fun nd=>?_;(try exact dq)))
   go_meet
   case rel=>exact⟨_,true,rfl,H,⟨oM⟩,⟨sB<|a1.out⟩,⟨xB⟩,⟨by repeat(first|(with_reducible first|exact HK.out|apply yX|apply a0s|apply a2g|apply a0t|refine a5a ?_ aG.out _)|exact HK.out)⟩,⟨a0j⟩⟩
  replace H:=oA H;obtain⟨b1,d0,H⟩:=H
  replace H:=am H
  have hnb16:=a2.out
  have hnc16:=a3.out
  have cX:=cf6 a1.out
  go_wp2_with (first|(go_at_call 28;refine cD (JBi b0.out) fun nd=>?_;(try exact dq))|(go_at_call 36;refine(JJi _ _ d0.out).mono ?_;rintro e w18 ⟨rfl,hb⟩;have aF:=am (IsS84.below (by exact xB) hb);have aE:=am (kJ (g:=a0) (o:= .cells #[.int .i64 a5,.int .i64 aJ,.int .i64 aI,.int .i64 aB,.int .i64 aA,.int .i64 aH] 33 (0,0)) (by exact sB<|a1.out) hb);have aD:=am (KeepBut.trans (by repeat(first|(with_reducible first|exact HK.out|apply yX|apply a0s|apply a2g|apply a0t|refine a5a ?_ aG.out _)|exact HK.out)) (qD hb g none) (.inl rfl));have aC:=hX hb (by exact a0j);clear HI0;clear a1;clear HK;clear HB;have HI0:=aF;have a1:=aE;have HK:=aD;have HB:=aC;clear aF aE aD aC;(try clear hb)))
  go_meet
  case rel=>exact⟨_,b1,rfl,H,⟨oM⟩,⟨sB<|a1.out⟩,⟨xB⟩,⟨by repeat(first|(with_reducible first|exact HK.out|apply yX|apply a0s|apply a2g|apply a0t|refine a5a ?_ aG.out _)|exact HK.out)⟩,⟨a0j⟩⟩
 clear aU
 clear c3 aT aS aO
 obtain⟨kq,aQ,rfl,HA,dL,a1,HI0,HK,HB⟩:=hcut
 cases kq with
 | zero=>cases HA.out
 | succ dK =>
  obtain⟨H⟩:=HA
  simp only[pJ]at H
  replace H:=iB H;rcases H with⟨rfl,H⟩|⟨rfl,H⟩
  ·simp only[Option.some.injEq,Prod.mk.injEq]at H
   obtain⟨rfl,rfl,rfl,rfl,rfl⟩:=H
   exact b5n
  replace H:=iE H;rcases H with⟨aY,aX,H⟩|⟨aY,aX,H⟩
  ·replace H:=iN H;obtain⟨d8,H⟩:=H
   replace H:=iN H;obtain⟨d7,H⟩:=H
   replace H:=iN H;obtain⟨d6,H⟩:=H
   replace H:=iN H;obtain⟨d5,H⟩:=H
   simp only[Option.some.injEq,Prod.mk.injEq]at H
   obtain⟨rfl,rfl,rfl,rfl,rfl⟩:=H
   have hnb25:=a2.out
   have hnc25:=a3.out
   have cW:=cf6 a1.out
   obtain⟨ASz27_2,cSz27_2,HGz27,hgz27,HSz27_2⟩:=HI0.out
   obtain⟨rfl,rfl⟩:=HSz27_2
   have HSz27_2:=HROW.out _ HK.out
   have cV:=xQ HGz27
   have cU:=xP HGz27
   have cT:=xO HGz27
   have cS:=xN HGz27
   have cR:=xM HGz27
   have cE:=kF HGz27 0
   have cC:=kF HGz27 1
   have cB:=kF HGz27 3
   have c1:=kF HGz27 4
   clear HGz27 hgz27
   obtain⟨dJ,dF,a_,rfl,bQ,bP,bO,bN,bM,bL⟩:=ix (pE HSz27_2 aB)
   obtain⟨dI,dE,aZ,b2,bK,bJ,bI,bH,bG,bF⟩:=ix (pE HSz27_2 aA)
   obtain rfl:a_=aZ:=(by injection b2)
   exact b5n
  replace H:=iE H;rcases H with⟨aW,aV,H⟩|⟨aW,aV,H⟩
  ·replace H:=iN H;obtain⟨d4,H⟩:=H
   replace H:=iN H;obtain⟨d3,H⟩:=H
   simp only[Option.some.injEq,Prod.mk.injEq]at H
   obtain⟨rfl,rfl,rfl,rfl,rfl⟩:=H
   have hnb31:=a2.out
   have hnc31:=a3.out
   have cQ:=cf6 a1.out
   obtain⟨ASz33_2,cSz33_2,HGz33,hgz33,HSz33_2⟩:=HI0.out
   obtain⟨rfl,rfl⟩:=HSz33_2
   have HSz33_2:=HROW.out _ HK.out
   have cP:=xQ HGz33
   have cO:=xP HGz33
   have cN:=xO HGz33
   have cM:=xN HGz33
   have cL:=xM HGz33
   have c0:=kF HGz33 0
   have b_:=kF HGz33 1
   have bZ:=kF HGz33 3
   have bV:=kF HGz33 4
   clear HGz33 hgz33
   obtain⟨dH,dD,dA,rfl,bE,bD,bC,bB,bA,b9⟩:=ix (pE HSz33_2 aA)
   exact b5n
  replace H:=iN H;obtain⟨d2,H⟩:=H
  replace H:=iN H;obtain⟨d1,H⟩:=H
  simp only[Option.some.injEq,Prod.mk.injEq]at H
  obtain⟨rfl,rfl,rfl,rfl,rfl⟩:=H
  have hnb36:=a2.out
  have hnc36:=a3.out
  have cK:=cf6 a1.out
  obtain⟨ASz38_2,cSz38_2,HGz38,hgz38,HSz38_2⟩:=HI0.out
  obtain⟨rfl,rfl⟩:=HSz38_2
  have HSz38_2:=HROW.out _ HK.out
  have cJ:=xQ HGz38
  have cI:=xP HGz38
  have cH:=xO HGz38
  have cG:=xN HGz38
  have cF:=xM HGz38
  have bU:=kF HGz38 0
  have bT:=kF HGz38 1
  have bS:=kF HGz38 3
  have bR:=kF HGz38 4
  clear HGz38 hgz38
  obtain⟨dG,dC,d9,rfl,b8,b7,b6,b5,b4,b3⟩:=ix (pE HSz38_2 aB)
  exact b5n
variable {Ax:Option Addr} {cx:Nat}
def a4z(k:Nat)(s:ByteArray)(a:Int)(l:List (S31))(c b:Int)(n:S31):Option (Bool×Int×S31) :=
 if n.f0=17 then
  (goF s a l c b 32).bind fun g1=>if g1.1=true then(wF k s g1.2 l c b).bind fun w1=>(qU k w1.1).bind fun r1=>if r1.2=true then(goF s w1.2 l c b 32).bind fun g2=>(if g2.1=true then(wF k s g2.2 l c b).bind fun w2=>(qU k w2.1).bind fun r2=>some (r2.2,w2.2,{n with f2:=r1.1,f1:=r2.1})else some (false,g2.2,n))else some (false,w1.2,n)else some (false,g1.2,n)
 else if n.f0=19∨n.f0=20 then
  (goF s a l c b 32).bind fun g1=>if g1.1=true then(wF k s g1.2 l c b).bind fun w1=>(sP k w1.1 118).bind fun r=>some (r.2.2,w1.2,{n with f2:=r.1,f4:=r.2.1})else some (false,g1.2,n)
 else some (true,a,n)
def NumSt(w0 w W:World)(g h:Nat)(s:ByteArray)(a:Int)(l:List (S31))(c b:Int)(n:S31)(A:Option Addr)(cc:Nat):Prop :=
 IsS84 A cc w0 W g s a l c b∧Below w0.heap.size w0 W∧W.heap[h]? = some (.cells #[.int .i64 n.f0,.int .i64 n.f1,.int .i64 n.f2,.int .i64 n.f3,.int .i64 n.f4,.int .i64 n.f5] 33 (0,0))∧Kept w W (fun k=>k=g∨k=h)
theorem NumSt.step{w0 w W W1:World}{g h:Nat}{s:ByteArray}{a a':Int}{l:List (S31)}{c b:Int}{n:S31}{A:Option Addr}{cc:Nat}(hs:NumSt w0 w W g h s a l c b n A cc)(hI:IsS84 A cc w0 W1 g s a' l c b)(hB:Below w0.heap.size w0 W1)(hk:KeepBut W W1 g none):NumSt w0 w W1 g h s a' l c b n A cc:=by
 obtain⟨h1,h2,h3,h4⟩:=hs
 have hne:g≠h:=xR h1 h3 (by decide)
 refine⟨hI,hB,?_,qW h4 hk (.inl (.inl rfl))⟩
 rw[hk.2 h (vD h3) (fun e=>hne e.symm) (by simp)]
 exact h3
theorem NumSt.drewn{w0 w W W1:World}{g h:Nat}{s:ByteArray}{a:Int}{l:List (S31)}{c b:Int}{n:S31}{A:Option Addr}{cc:Nat}(hs:NumSt w0 w W g h s a l c b n A cc)(hd:Below W.heap.size W W1):NumSt w0 w W1 g h s a l c b n A cc:=by
 obtain⟨h1,h2,h3,h4⟩:=hs
 exact⟨IsS84.below h1 hd,h2.trans (hd.mono h2.size),kJ h3 hd,h4.below hd⟩
theorem c4v{P:Prop}(h:P:=by
 go_enter Tryz.func76,Tryz.ntmps76
 obtain⟨q0,q1,q2,q3,q4,q5⟩:=a3d BX.out
 go_wp2_with fail
 refine(b4o g s a l c b 32 g1 a1 w0 _ HS.out.1 HS.out.2.1 HG1.out).mono ?_
 rintro e w1 ⟨rfl,hi,hb,hk⟩
 have HS:=am (HS.out.step hi hb hk)
 clear hi hb hk q0 q1 q2 q3 q4 q5
 cases g1 with
 | false =>
  have hf:=HF.out
  rw[if_neg (by decide)]at hf
  simp only[Option.some.injEq,Prod.mk.injEq]at hf
  obtain⟨rfl,rfl,rfl⟩:=hf
  go_wp2_with fail
  go_ret
  exact⟨rfl,HS.out⟩
 | true =>
  have hf:=HF.out
  rw[if_pos rfl]at hf
  obtain⟨⟨v1,a2⟩,a0,hf⟩:=oB hf
  obtain⟨⟨k1,b1,f1⟩,hr1,hf⟩:=oB hf
  simp only[Option.some.injEq,Prod.mk.injEq]at hf
  obtain⟨rfl,rfl,rfl⟩:=hf
  have HW1:=am a0;have a7:=am hr1
  clear a0 hr1
  go_wp2_with fail
  refine(b8y k g s a1 l c b v1 a2 w0 _ HS.out.1 HS.out.2.1 HW1.out).mono ?_
  rintro e w2 ⟨rfl,hi,hb,hk⟩
  have HS:=am (HS.out.step hi hb hk)
  clear hi hb hk
  go_wp2_with fail
  refine(KFi k v1 118 k1 b1 f1 _ a7.out).mono ?_
  rintro e w3 ⟨rfl,hd⟩
  have HS:=am (HS.out.drewn hd.below)
  clear hd
  have hz2:=kF HS.out.2.2.1 2
  have b2:(w3.setCell ⟨h,2,none⟩ (.int .i64 k1)).heap[h]? = some (.cells #[.int .i64 op,.int .i64 W,.int .i64 k1,.int .i64 A_,.int .i64 B,.int .i64 C] 33 (0,0)):=by simpa using tF HS.out.2.2.1 2 (.int .i64 k1)
  have hz3:=kF b2 4
  obtain⟨q0,q1,q2,q3,q4,q5⟩:=a3d HS.out.2.2.1
  obtain⟨p0,p1,p2,p3,p4,p5⟩:=a3d b2
  go_wp2_with fail
  go_ret
  refine⟨rfl,?_⟩
  have hne:g≠h:=xR HS.out.1 HS.out.2.2.1 (by decide)
  refine⟨xS (xS HS.out.1 hne _) hne _,kR (kR HS.out.2.1 HN0.out) HN0.out,?_,Kept.setCell (Kept.setCell HS.out.2.2.2 (p:=⟨h,2,none⟩) (.inl (.inr rfl)) _) (p:=⟨h,4,none⟩) (.inl (.inr rfl)) _⟩
  simpa using tF b2 4 (.int .i64 b1)):P:=h
theorem b7y{P:Prop}(h:P:=by
 have hf:=HF.out
 rw[if_neg (by decide)]at hf
 simp only[Option.some.injEq,Prod.mk.injEq]at hf
 obtain⟨rfl,rfl,rfl⟩:=hf
 go_wp2_with fail
 go_ret
 exact⟨rfl,HS.out⟩):P:=h
theorem YYi(k g h:Nat)(s:ByteArray)(a:Int)(l:List (S31))(c b:Int)(n:S31)(ok:Bool)(a':Int)(n':S31)(A:Option Addr)(cc:Nat)(w0 w:World)(hS:NumSt w0 w w g h s a l c b n A cc)(hh:w0.heap.size≤h)(hf:a4z k s a l c b n=some (ok,a',n')) :
  Calls Tryz.prog 76 #[.pointer (some ⟨g,0,none⟩),.pointer (some ⟨h,0,none⟩)] w fun e w'=>e= .returned (.bool ok)∧NumSt w0 w w' g h s a' l c b n' A cc:=by
 have HS:=am hS;have HN0:=am hh
 obtain⟨op,W,Kq,A_,B,C⟩:=n
 have BX:=am hS.2.2.1
 unfold a4z at hf
 simp only[]at hf
 by_cases o17:op=17
 rotate_left
 ·rw[if_neg o17]at hf
  have t1:(op==17)=false:=beq_eq_false_iff_ne.mpr o17
  by_cases oq:op=19∨op=20
  ·rw[if_pos oq]at hf
   obtain⟨⟨g1,a1⟩,hg1,hf⟩:=oB hf
   have HG1:=am hg1;have HF:=am hf
   obtain⟨a5,a9⟩ :∃a5,(op==19)=a5:=⟨_,rfl⟩
   have a6:a5=false→(op==20)=true:=by intro e;subst e;have:=beq_eq_false_iff_ne.mp a9;exact beq_iff_eq.mpr oM
   clear hg1 hS hh hf o17 oq
   cases a5 with
   | true =>
    clear a6
    exact c4v
   | false =>
    have a6:=a6 rfl
    exact c4v
  rw[if_neg oq]at hf
  have t2:(op==19)=false:=beq_eq_false_iff_ne.mpr (fun e=>oq (.inl e))
  have t3:(op==20)=false:=beq_eq_false_iff_ne.mpr (fun e=>oq (.inr e))
  simp only[Option.some.injEq,Prod.mk.injEq]at hf
  obtain⟨rfl,rfl,rfl⟩:=hf
  clear hS hh o17 oq
  go_enter Tryz.func76,Tryz.ntmps76
  obtain⟨q0,q1,q2,q3,q4,q5⟩:=a3d BX.out
  go_wp2_with fail
  go_ret
  exact⟨rfl,HS.out.drewn (by exact Below.refl _ _)⟩
 rw[if_pos o17]at hf
 obtain⟨⟨g1,a1⟩,hg1,hf⟩:=oB hf
 have HG1:=am hg1;have HF:=am hf
 have t1:(op==17)=true:=beq_iff_eq.mpr o17
 clear hg1 hS hh hf o17
 go_enter Tryz.func76,Tryz.ntmps76
 obtain⟨q0,q1,q2,q3,q4,q5⟩:=a3d BX.out
 go_wp2_with fail
 refine(b4o g s a l c b 32 g1 a1 w0 _ HS.out.1 HS.out.2.1 HG1.out).mono ?_
 rintro e w1 ⟨rfl,hi,hb,hk⟩
 have HS:=am (HS.out.step hi hb hk)
 clear hi hb hk q0 q1 q2 q3 q4 q5
 cases g1 with
 | false =>
  exact b7y
 | true =>
  have hf:=HF.out
  rw[if_pos rfl]at hf
  obtain⟨⟨v1,a2⟩,a0,hf⟩:=oB hf
  obtain⟨⟨k1,f1⟩,hr1,hf⟩:=oB hf
  have HW1:=am a0;have a7:=am hr1;have HF:=am hf
  clear a0 hr1 hf
  go_wp2_with fail
  refine(b8y k g s a1 l c b v1 a2 w0 _ HS.out.1 HS.out.2.1 HW1.out).mono ?_
  rintro e w2 ⟨rfl,hi,hb,hk⟩
  have HS:=am (HS.out.step hi hb hk)
  clear hi hb hk
  go_wp2_with fail
  refine(KCi k v1 k1 f1 _ a7.out).mono ?_
  rintro e w3 ⟨rfl,hd⟩
  have HS:=am (HS.out.drewn hd.below)
  clear hd
  cases f1 with
  | false =>
   exact b7y
  | true =>
   have hf:=HF.out
   rw[if_pos rfl]at hf
   obtain⟨⟨g2,a3⟩,hg2,hf⟩:=oB hf
   have HG2:=am hg2;have HF:=am hf
   clear hg2 hf
   go_wp2_with fail
   refine(b4o g s a2 l c b 32 g2 a3 w0 _ HS.out.1 HS.out.2.1 HG2.out).mono ?_
   rintro e w4 ⟨rfl,hi,hb,hk⟩
   have HS:=am (HS.out.step hi hb hk)
   clear hi hb hk
   cases g2 with
   | false =>
    exact b7y
   | true =>
    have hf:=HF.out
    rw[if_pos rfl]at hf
    obtain⟨⟨v2,a4⟩,a8,hf⟩:=oB hf
    obtain⟨⟨k2,f2⟩,hr2,hf⟩:=oB hf
    simp only[Option.some.injEq,Prod.mk.injEq]at hf
    obtain⟨rfl,rfl,rfl⟩:=hf
    have HW2:=am a8;have aA:=am hr2
    clear a8 hr2
    go_wp2_with fail
    refine(b8y k g s a3 l c b v2 a4 w0 _ HS.out.1 HS.out.2.1 HW2.out).mono ?_
    rintro e w5 ⟨rfl,hi,hb,hk⟩
    have HS:=am (HS.out.step hi hb hk)
    clear hi hb hk
    go_wp2_with fail
    refine(KCi k v2 k2 f2 _ aA.out).mono ?_
    rintro e w6 ⟨rfl,hd⟩
    have HS:=am (HS.out.drewn hd.below)
    clear hd
    have hz2:=kF HS.out.2.2.1 2
    have hz1:=kF HS.out.2.2.1 1
    have b2:(w6.setCell ⟨h,2,none⟩ (.int .i64 k1)).heap[h]? = some (.cells #[.int .i64 op,.int .i64 W,.int .i64 k1,.int .i64 A_,.int .i64 B,.int .i64 C] 33 (0,0)):=by simpa using tF HS.out.2.2.1 2 (.int .i64 k1)
    have hz3:=kF b2 1
    obtain⟨q0,q1,q2,q3,q4,q5⟩:=a3d HS.out.2.2.1
    obtain⟨p0,p1,p2,p3,p4,p5⟩:=a3d b2
    go_wp2_with fail
    go_ret
    refine⟨rfl,?_⟩
    have hne:g≠h:=xR HS.out.1 HS.out.2.2.1 (by decide)
    refine⟨xS (xS HS.out.1 hne _) hne _,kR (kR HS.out.2.1 HN0.out) HN0.out,?_,Kept.setCell (Kept.setCell HS.out.2.2.2 (p:=⟨h,2,none⟩) (.inl (.inr rfl)) _) (p:=⟨h,1,none⟩) (.inl (.inr rfl)) _⟩
    simpa using tF b2 1 (.int .i64 k2)
variable {Ax:Option Addr} {cx:Nat}
theorem a5w{k:Nat}{x:Bool}{s:ByteArray}{a:Int}{l:List (S31)}{c b n0 n1 n2 n3 n4 n5:Int}{r1:Int}{r2:ByteArray}{r3 r4 r5:Int}(h:pJ k x s a l c b n0 n1 n2 n3 n4 n5=some (r1,r2,r3,r4,r5)):r2=s∧r3=a∧r4=c∧r5=b:=by
 cases k with
 | zero=>simp[pJ]at h
 | succ k =>
  simp only[pJ]at h
  repeat' split at h
  all_goals first
   | (simp only[Option.some.injEq,Prod.mk.injEq]at h;exact⟨h.2.1.symm,h.2.2.1.symm,h.2.2.2.1.symm,h.2.2.2.2.symm⟩)
   | exact absurd h (by simp)
theorem b4c{k:Nat}{s:ByteArray}{a:Int}{l:List (S31)}{c b n0 n1 n2 n3 n4 n5:Int}{r1:Int}{r2:ByteArray}{r3 r4 r5:Int}(h:qH k s a l c b n0 n1 n2 n3 n4 n5=some (r1,r2,r3,r4,r5)):r2=s∧r3=a∧r4=c∧r5=b:=by
 unfold qH at h
 split at h
 ·simp only[Option.some.injEq,Prod.mk.injEq]at h;exact⟨h.2.1.symm,h.2.2.1.symm,h.2.2.2.1.symm,h.2.2.2.2.symm⟩
 ·obtain⟨t,_,h⟩:=oB h
  split at h
  ·exact a5w h
  ·obtain⟨t2,_,h⟩:=oB h
   exact a5w h
end Go.Proofs.YtkpipmojkhikaaaGreat.PAll
