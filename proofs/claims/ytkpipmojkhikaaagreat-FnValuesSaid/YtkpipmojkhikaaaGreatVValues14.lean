/- Go functions as Lean functions: a call comes to what they say. -/
import Derived.Test.YtkpipmojkhikaaaGreatVValues13
namespace Go.Proofs.YtkpipmojkhikaaaGreat.PAll
open Go.RowKit Go.A_ Go.B_ Go.C_ Go.D_
attribute [local go_sem] rF rC tE tD qK qJ rD rA
set_option linter.unusedVariables false
set_option maxHeartbeats 8000000
set_option maxRecDepth 100000
set_option linter.unusedSimpArgs false
def xX(a0:Int):Option (Bool):=(qE a0 0 255).bind fun a1=>(some a1)
theorem JUi{a0:Int}{r:Bool}{w:World}(h:xX a0=some r) :
  Calls Tryz.prog 61 #[.int .i64 a0] w fun e w'=>e= .returned (.bool r)∧Drawn0 w w':=by
 have H:=h
 clear h
 unfold xX at H
 replace H:=oA H;obtain⟨a1,A2,H⟩:=H
 obtain rfl:=oI H
 go_enter Tryz.func61,Tryz.ntmps61
 go_wp2_with (((with_reducible refine gW ?_);refine gD (some 4) Tryz.func28 rfl (JBi A2.out) fun nd=>?_))
 go_ret
 exact⟨rfl,dR⟩
def a1f(a0:Int)(a1:Int):Option (Int):=(rP a0 a1).bind fun a2=>(if a2=true then(if 0≤(IntKind.u64.wrap (a0))then(some (wrap64 ((wrap64 ((shl .i64 1 (IntKind.u64.wrap (a0)))-1))-a1)))else(none))else(some 0))
theorem c6a{P:Prop}(h:P:=by
 obtain rfl:=oI H
 go_enter Tryz.func62,Tryz.ntmps62
 go_wp2_with (((with_reducible refine gW ?_);refine gD (some 7) Tryz.func9 rfl (JDi _ _ _ _ A3.out) fun nd=>?_))
 go_ret
 exact⟨rfl,dR⟩):P:=h
theorem YIi{a0 a1 r:Int}{w:World}(h:a1f a0 a1=some r) :
  Calls Tryz.prog 62 #[.int .i64 a0,.int .i64 a1] w fun e w'=>e= .returned (.int .i64 r)∧Drawn0 w w':=by
 have H:=h
 clear h
 unfold a1f at H
 replace H:=oA H;obtain⟨aC,A3,H⟩:=H
 replace H:=iB H;rcases H with⟨rfl,H⟩|⟨rfl,H⟩
 ·generalize a7:IntKind.u64.wrap (a0)=a2 at H
  (try rw[a7]at A3)
  replace H:=iTD H;obtain⟨aE,aD,H⟩:=H
  generalize a4:shl .i64 1 (a2)=a3 at H
  (try rw[a4]at A3)
  have a6:(IntKind.i64.wrap (1*2 ^ min (a2).toNat 64))=a3:=a4
  have a5:(a2)≤64→(IntKind.i64.wrap (1*2 ^ (a2).toNat))=a3:=zY a4
  have aB:(IntKind.i64.wrap (2 ^ min (a2).toNat 64))=a3:=by have h_:=a6;rw[Int.one_mul]at h_;exact h_
  have aA:(a2)≤64→(IntKind.i64.wrap (2 ^ (a2).toNat))=a3:=fun hle_=>by have h_:=a5 hle_;rw[Int.one_mul]at h_;exact h_
  have a8:(wrap64 (1*2 ^ min (a2).toNat 64))=a3:=(vB _).symm.trans a6
  have a9:(a2)≤64→(wrap64 (1*2 ^ (a2).toNat))=a3:=fun h_=>(vB _).symm.trans (a5 h_)
  exact c6a
 exact c6a
def uQ(a0:Int)(a1:Int)(a2:Int):Option (Bool):=(rP a0 a1).bind fun a4=>(if a4=true then((rP a0 a2).bind fun a3=>(some a3))else(some false))
theorem JLi{a0 a1 a2:Int}{r:Bool}{w:World}(h:uQ a0 a1 a2=some r) :
  Calls Tryz.prog 87 #[.int .i64 a0,.int .i64 a1,.int .i64 a2] w fun e w'=>e= .returned (.bool r)∧Drawn0 w w':=by
 have H:=h
 clear h
 unfold uQ at H
 replace H:=oA H;obtain⟨a4,A4,H⟩:=H
 replace H:=iB H;rcases H with⟨rfl,H⟩|⟨rfl,H⟩
 ·replace H:=oA H;obtain⟨a3,A6,H⟩:=H
  obtain rfl:=oI H
  go_enter Tryz.func87,Tryz.ntmps87
  go_wp2_with (first|(go_at_call 9;refine cD (JDi _ _ _ _ A6.out) fun nd=>?_)|((with_reducible refine gW ?_);refine gD (some 9) Tryz.func9 rfl (JDi _ _ _ _ A4.out) fun nd=>?_))
  go_ret
  exact⟨rfl,dR⟩
 obtain rfl:=oI H
 go_enter Tryz.func87,Tryz.ntmps87
 go_wp2_with (((with_reducible refine gW ?_);refine gD (some 9) Tryz.func9 rfl (JDi _ _ _ _ A4.out) fun nd=>?_))
 go_ret
 exact⟨rfl,dR⟩
def xY(a0:Int)(a1:Int):Option (Int):=if 0≤(IntKind.u64.wrap (a0))then(some (Go.bits .and .i64 a1 (wrap64 ((shl .i64 1 (IntKind.u64.wrap (a0)))-1))))else(none)
theorem JXi{a0 a1 r:Int}{w:World}(h:xY a0 a1=some r) :
  Calls Tryz.prog 89 #[.int .i64 a0,.int .i64 a1] w fun e w'=>e= .returned (.int .i64 r)∧Drawn0 w w':=by
 have H:=h
 clear h
 unfold xY at H
 generalize aB:IntKind.u64.wrap (a0)=a2 at H
 replace H:=iTD H;obtain⟨aD,aC,H⟩:=H
 generalize a6:shl .i64 1 (a2)=a3 at H
 have a5:(IntKind.i64.wrap (1*2 ^ min (a2).toNat 64))=a3:=a6
 have a4:(a2)≤64→(IntKind.i64.wrap (1*2 ^ (a2).toNat))=a3:=zY a6
 have aA:(IntKind.i64.wrap (2 ^ min (a2).toNat 64))=a3:=by have h_:=a5;rw[Int.one_mul]at h_;exact h_
 have a9:(a2)≤64→(IntKind.i64.wrap (2 ^ (a2).toNat))=a3:=fun hle_=>by have h_:=a4 hle_;rw[Int.one_mul]at h_;exact h_
 have a7:(wrap64 (1*2 ^ min (a2).toNat 64))=a3:=(vB _).symm.trans a5
 have a8:(a2)≤64→(wrap64 (1*2 ^ (a2).toNat))=a3:=fun h_=>(vB _).symm.trans (a4 h_)
 obtain rfl:=oI H
 go_enter Tryz.func89,Tryz.ntmps89
 go_wp2
 go_ret
 exact⟨rfl,dR⟩
def a2n(a0:Int)(a1:Int)(a2:Int):Option (Int):=(uQ a0 a1 a2).bind fun a4=>(if a4=true then((xY a0 (wrap64 (a1+a2))).bind fun a3=>(some a3))else(some 0))
theorem XIi{a0 a1 a2 r:Int}{w:World}(h:a2n a0 a1 a2=some r) :
  Calls Tryz.prog 80 #[.int .i64 a0,.int .i64 a1,.int .i64 a2] w fun e w'=>e= .returned (.int .i64 r)∧Drawn0 w w':=by
 have H:=h
 clear h
 unfold a2n at H
 replace H:=oA H;obtain⟨a4,A4,H⟩:=H
 replace H:=iB H;rcases H with⟨rfl,H⟩|⟨rfl,H⟩
 ·replace H:=oA H;obtain⟨a3,A6,H⟩:=H
  obtain rfl:=oI H
  go_enter Tryz.func80,Tryz.ntmps80
  go_wp2_with (((with_reducible refine gW ?_);first|(refine gD (some 10) Tryz.func87 rfl (JLi A4.out) fun nd=>?_)|(refine gD (some 16) Tryz.func89 rfl (JXi A6.out) fun nd=>?_)))
  go_ret
  exact⟨rfl,dR⟩
 obtain rfl:=oI H
 go_enter Tryz.func80,Tryz.ntmps80
 go_wp2_with (((with_reducible refine gW ?_);refine gD (some 10) Tryz.func87 rfl (JLi A4.out) fun nd=>?_))
 go_ret
 exact⟨rfl,dR⟩
def a2h(a0:Int)(a1:Int)(a2:Int):Option (Int):=(uQ a0 a1 a2).bind fun a4=>(if a4=true then((xY a0 (wrap64 (a1-a2))).bind fun a3=>(some a3))else(some 0))
theorem YSi{a0 a1 a2 r:Int}{w:World}(h:a2h a0 a1 a2=some r) :
  Calls Tryz.prog 81 #[.int .i64 a0,.int .i64 a1,.int .i64 a2] w fun e w'=>e= .returned (.int .i64 r)∧Drawn0 w w':=by
 have H:=h
 clear h
 unfold a2h at H
 replace H:=oA H;obtain⟨a4,A4,H⟩:=H
 replace H:=iB H;rcases H with⟨rfl,H⟩|⟨rfl,H⟩
 ·replace H:=oA H;obtain⟨a3,A6,H⟩:=H
  obtain rfl:=oI H
  go_enter Tryz.func81,Tryz.ntmps81
  go_wp2_with (((with_reducible refine gW ?_);first|(refine gD (some 10) Tryz.func87 rfl (JLi A4.out) fun nd=>?_)|(refine gD (some 16) Tryz.func89 rfl (JXi A6.out) fun nd=>?_)))
  go_ret
  exact⟨rfl,dR⟩
 obtain rfl:=oI H
 go_enter Tryz.func81,Tryz.ntmps81
 go_wp2_with (((with_reducible refine gW ?_);refine gD (some 10) Tryz.func87 rfl (JLi A4.out) fun nd=>?_))
 go_ret
 exact⟨rfl,dR⟩
def a2l(a0:Int)(a1:Int)(a2:Int):Option (Int):=(uQ a0 a1 a2).bind fun a4=>(if a4=true then((xY a0 (wrap64 (a1*a2))).bind fun a3=>(some a3))else(some 0))
theorem YBi{a0 a1 a2 r:Int}{w:World}(h:a2l a0 a1 a2=some r) :
  Calls Tryz.prog 82 #[.int .i64 a0,.int .i64 a1,.int .i64 a2] w fun e w'=>e= .returned (.int .i64 r)∧Drawn0 w w':=by
 have H:=h
 clear h
 unfold a2l at H
 replace H:=oA H;obtain⟨a4,A4,H⟩:=H
 replace H:=iB H;rcases H with⟨rfl,H⟩|⟨rfl,H⟩
 ·replace H:=oA H;obtain⟨a3,A6,H⟩:=H
  obtain rfl:=oI H
  go_enter Tryz.func82,Tryz.ntmps82
  go_wp2_with (((with_reducible refine gW ?_);first|(refine gD (some 10) Tryz.func87 rfl (JLi A4.out) fun nd=>?_)|(refine gD (some 16) Tryz.func89 rfl (JXi A6.out) fun nd=>?_)))
  go_ret
  exact⟨rfl,dR⟩
 obtain rfl:=oI H
 go_enter Tryz.func82,Tryz.ntmps82
 go_wp2_with (((with_reducible refine gW ?_);refine gD (some 10) Tryz.func87 rfl (JLi A4.out) fun nd=>?_))
 go_ret
 exact⟨rfl,dR⟩
def a2m(a0:Int)(a1:Int)(a2:Int):Option (Int):=(uQ a0 a1 a2).bind fun a3=>(if a3=true then(if a2=0 then(if 0≤(IntKind.u64.wrap (a0))then(some (wrap64 ((shl .i64 1 (IntKind.u64.wrap (a0)))-1)))else(none))else(some (wrap64 (Int.tdiv a1 a2))))else(some 0))
theorem b8h{P:Prop}(h:P:=by
 obtain rfl:=oI H
 go_enter Tryz.func83,Tryz.ntmps83
 go_wp2_with (((with_reducible refine gW ?_);refine gD (some 11) Tryz.func87 rfl (JLi A4.out) fun nd=>?_))
 go_ret
 exact⟨rfl,dR⟩):P:=h
theorem YVi{a0 a1 a2 r:Int}{w:World}(h:a2m a0 a1 a2=some r) :
  Calls Tryz.prog 83 #[.int .i64 a0,.int .i64 a1,.int .i64 a2] w fun e w'=>e= .returned (.int .i64 r)∧Drawn0 w w':=by
 have H:=h
 clear h
 unfold a2m at H
 replace H:=oA H;obtain⟨aF,A4,H⟩:=H
 replace H:=iB H;rcases H with⟨rfl,H⟩|⟨rfl,H⟩
 rotate_left
 ·exact b8h
 by_cases c6:a2=0
 ·rw[if_pos c6]at H
  have aA:(a2==0)=true:=beq_iff_eq.mpr c6
  have a9:(a2 !=0)=false:=bne_eq_false_iff_eq.mpr c6
  clear c6
  generalize a8:IntKind.u64.wrap (a0)=a3 at H
  (try rw[a8]at A4)
  replace H:=iTD H;obtain⟨aH,aG,H⟩:=H
  generalize a5:shl .i64 1 (a3)=a4 at H
  (try rw[a5]at A4)
  have a7:(IntKind.i64.wrap (1*2 ^ min (a3).toNat 64))=a4:=a5
  have a6:(a3)≤64→(IntKind.i64.wrap (1*2 ^ (a3).toNat))=a4:=zY a5
  have aE:(IntKind.i64.wrap (2 ^ min (a3).toNat 64))=a4:=by have h_:=a7;rw[Int.one_mul]at h_;exact h_
  have aD:(a3)≤64→(IntKind.i64.wrap (2 ^ (a3).toNat))=a4:=fun hle_=>by have h_:=a6 hle_;rw[Int.one_mul]at h_;exact h_
  have aB:(wrap64 (1*2 ^ min (a3).toNat 64))=a4:=(vB _).symm.trans a7
  have aC:(a3)≤64→(wrap64 (1*2 ^ (a3).toNat))=a4:=fun h_=>(vB _).symm.trans (a6 h_)
  exact b8h
 rw[if_neg c6]at H
 have aA:(a2==0)=false:=beq_eq_false_iff_ne.mpr c6
 have a9:(a2 !=0)=true:=bne_iff_ne.mpr c6
 exact b8h
def a2k(a0:Int)(a1:Int)(a2:Int):Option (Int):=(uQ a0 a1 a2).bind fun a3=>(if a3=true then(if a2=0 then(some a1)else(some (Int.tmod a1 a2)))else(some 0))
theorem b8d{P:Prop}(h:P:=by
 obtain rfl:=oI H
 go_enter Tryz.func84,Tryz.ntmps84
 go_wp2_with (((with_reducible refine gW ?_);refine gD (some 11) Tryz.func87 rfl (JLi A4.out) fun nd=>?_))
 go_ret
 exact⟨rfl,dR⟩):P:=h
theorem ZKi{a0 a1 a2 r:Int}{w:World}(h:a2k a0 a1 a2=some r) :
  Calls Tryz.prog 84 #[.int .i64 a0,.int .i64 a1,.int .i64 a2] w fun e w'=>e= .returned (.int .i64 r)∧Drawn0 w w':=by
 have H:=h
 clear h
 unfold a2k at H
 replace H:=oA H;obtain⟨a5,A4,H⟩:=H
 replace H:=iB H;rcases H with⟨rfl,H⟩|⟨rfl,H⟩
 ·by_cases c6:a2=0
  ·rw[if_pos c6]at H
   have a4:(a2==0)=true:=beq_iff_eq.mpr c6
   have a3:(a2 !=0)=false:=bne_eq_false_iff_eq.mpr c6
   clear c6
   exact b8d
  rw[if_neg c6]at H
  have a4:(a2==0)=false:=beq_eq_false_iff_ne.mpr c6
  have a3:(a2 !=0)=true:=bne_iff_ne.mpr c6
  exact b8d
 exact b8d
def a2j(a0:Int)(a1:Int)(a2:Int):Option (Int):=(uQ a0 a1 a2).bind fun a4=>(if a4=true then(if a2≥a0 then(some 0)else(if 0≤(IntKind.u64.wrap (a2))then((xY a0 (shl .i64 a1 (IntKind.u64.wrap (a2)))).bind fun a3=>(some a3))else(none)))else(some 0))
theorem c4y{P:Prop}(h:P:=by
 obtain rfl:=oI H
 go_enter Tryz.func85,Tryz.ntmps85
 go_wp2_with (((with_reducible refine gW ?_);refine gD (some 10) Tryz.func87 rfl (JLi A4.out) fun nd=>?_))
 go_ret
 exact⟨rfl,dR⟩):P:=h
theorem ZGi{a0 a1 a2 r:Int}{w:World}(h:a2j a0 a1 a2=some r) :
  Calls Tryz.prog 85 #[.int .i64 a0,.int .i64 a1,.int .i64 a2] w fun e w'=>e= .returned (.int .i64 r)∧Drawn0 w w':=by
 have H:=h
 clear h
 unfold a2j at H
 replace H:=oA H;obtain⟨aE,A4,H⟩:=H
 replace H:=iB H;rcases H with⟨rfl,H⟩|⟨rfl,H⟩
 rotate_left
 ·exact c4y
 by_cases c6:a2≥a0
 ·rw[if_pos c6]at H
  have a9:decide (a0≤a2)=true:=decide_eq_true c6
  clear c6
  exact c4y
 rw[if_neg c6]at H
 have a9:decide (a0≤a2)=false:=decide_eq_false c6
 clear c6
 generalize a8:IntKind.u64.wrap (a2)=a3 at H
 (try rw[a8]at A4)
 replace H:=iTD H;obtain⟨aG,aF,H⟩:=H
 generalize a4:shl .i64 a1 (a3)=a5 at H
 (try rw[a4]at A4)
 have a7:(IntKind.i64.wrap (a1*2 ^ min (a3).toNat 64))=a5:=a4
 have a6:(a3)≤64→(IntKind.i64.wrap (a1*2 ^ (a3).toNat))=a5:=zY a4
 have aB:(wrap64 (a1*2 ^ min (a3).toNat 64))=a5:=(vB _).symm.trans a7
 have aC:(a3)≤64→(wrap64 (a1*2 ^ (a3).toNat))=a5:=fun h_=>(vB _).symm.trans (a6 h_)
 replace H:=oA H;obtain⟨aD,aA,H⟩:=H
 obtain rfl:=oI H
 go_enter Tryz.func85,Tryz.ntmps85
 go_wp2_with (((with_reducible refine gW ?_);first|(refine gD (some 10) Tryz.func87 rfl (JLi A4.out) fun nd=>?_)|(refine gD (some 22) Tryz.func89 rfl (JXi aA.out) fun nd=>?_)))
 go_ret
 exact⟨rfl,dR⟩
def a2i(a0:Int)(a1:Int)(a2:Int):Option (Int):=(uQ a0 a1 a2).bind fun a3=>(if a3=true then(if a2≥a0 then(some 0)else(if 0≤(IntKind.u64.wrap (a2))then(some (shr .i64 a1 (IntKind.u64.wrap (a2))))else(none)))else(some 0))
theorem b7z{P:Prop}(h:P:=by
 obtain rfl:=oI H
 go_enter Tryz.func86,Tryz.ntmps86
 go_wp2_with (((with_reducible refine gW ?_);refine gD (some 10) Tryz.func87 rfl (JLi A4.out) fun nd=>?_))
 go_ret
 exact⟨rfl,dR⟩):P:=h
theorem ZFi{a0 a1 a2 r:Int}{w:World}(h:a2i a0 a1 a2=some r) :
  Calls Tryz.prog 86 #[.int .i64 a0,.int .i64 a1,.int .i64 a2] w fun e w'=>e= .returned (.int .i64 r)∧Drawn0 w w':=by
 have H:=h
 clear h
 unfold a2i at H
 replace H:=oA H;obtain⟨aA,A4,H⟩:=H
 replace H:=iB H;rcases H with⟨rfl,H⟩|⟨rfl,H⟩
 rotate_left
 ·exact b7z
 by_cases c6:a2≥a0
 ·rw[if_pos c6]at H
  have a7:decide (a0≤a2)=true:=decide_eq_true c6
  clear c6
  exact b7z
 rw[if_neg c6]at H
 have a7:decide (a0≤a2)=false:=decide_eq_false c6
 clear c6
 generalize a6:IntKind.u64.wrap (a2)=a4 at H
 (try rw[a6]at A4)
 replace H:=iTD H;obtain⟨aC,aB,H⟩:=H
 generalize a3:shr .i64 a1 (a4)=a5 at H
 (try rw[a3]at A4)
 have a9:(a1 / 2 ^ min (a4).toNat 64)=a5:=a3
 have a8:(a4)≤64→(a1 / 2 ^ (a4).toNat)=a5:=b2l a3
 exact b7z
def zI(a0:Int)(a1:Int)(a2:Int)(a3:Int):Option (Int):=if a0=3 then(some (Go.bits .and .i64 a2 a3))else(if a0=4 then(some (Go.bits .or .i64 a2 a3))else(if a0=5 then(some (Go.bits .xor .i64 a2 a3))else(if a0=6 then((a2n a1 a2 a3).bind fun aA=>(some aA))else(if a0=7 then((a2h a1 a2 a3).bind fun a9=>(some a9))else(if a0=8 then((a2l a1 a2 a3).bind fun a8=>(some a8))else(if a0=9 then((a2m a1 a2 a3).bind fun a7=>(some a7))else(if a0=10 then((a2k a1 a2 a3).bind fun a6=>(some a6))else(if a0=11 then((a2j a1 a2 a3).bind fun a5=>(some a5))else((a2i a1 a2 a3).bind fun a4=>(some a4))))))))))
theorem XNi{a0 a1 a2 a3 r:Int}{w:World}(h:zI a0 a1 a2 a3=some r) :
  Calls Tryz.prog 63 #[.int .i64 a0,.int .i64 a1,.int .i64 a2,.int .i64 a3] w fun e w'=>e= .returned (.int .i64 r)∧Drawn0 w w':=by
 have H:=h
 clear h
 unfold zI at H
 replace H:=iE H;rcases H with⟨aL,aK,H⟩|⟨aL,aK,H⟩
 ·obtain rfl:=oI H
  go_enter Tryz.func63,Tryz.ntmps63
  go_wp2
  go_ret
  exact⟨rfl,dR⟩
 replace H:=iE H;rcases H with⟨aJ,aI,H⟩|⟨aJ,aI,H⟩
 ·obtain rfl:=oI H
  go_enter Tryz.func63,Tryz.ntmps63
  go_wp2
  go_ret
  exact⟨rfl,dR⟩
 replace H:=iE H;rcases H with⟨aH,aG,H⟩|⟨aH,aG,H⟩
 ·obtain rfl:=oI H
  go_enter Tryz.func63,Tryz.ntmps63
  go_wp2
  go_ret
  exact⟨rfl,dR⟩
 replace H:=iE H;rcases H with⟨aF,aE,H⟩|⟨aF,aE,H⟩
 ·replace H:=oA H;obtain⟨aZ,A9,H⟩:=H
  obtain rfl:=oI H
  go_enter Tryz.func63,Tryz.ntmps63
  go_wp2_with (((with_reducible refine gW ?_);refine gD (some 30) Tryz.func80 rfl (XIi A9.out) fun nd=>?_))
  go_ret
  exact⟨rfl,dR⟩
 replace H:=iE H;rcases H with⟨aD,aC,H⟩|⟨aD,aC,H⟩
 ·replace H:=oA H;obtain⟨aY,aS,H⟩:=H
  obtain rfl:=oI H
  go_enter Tryz.func63,Tryz.ntmps63
  go_wp2_with (((with_reducible refine gW ?_);refine gD (some 36) Tryz.func81 rfl (YSi aS.out) fun nd=>?_))
  go_ret
  exact⟨rfl,dR⟩
 replace H:=iE H;rcases H with⟨aB,aA,H⟩|⟨aB,aA,H⟩
 ·replace H:=oA H;obtain⟨aX,aR,H⟩:=H
  obtain rfl:=oI H
  go_enter Tryz.func63,Tryz.ntmps63
  go_wp2_with (((with_reducible refine gW ?_);refine gD (some 42) Tryz.func82 rfl (YBi aR.out) fun nd=>?_))
  go_ret
  exact⟨rfl,dR⟩
 replace H:=iE H;rcases H with⟨a9,a8,H⟩|⟨a9,a8,H⟩
 ·replace H:=oA H;obtain⟨aW,aQ,H⟩:=H
  obtain rfl:=oI H
  go_enter Tryz.func63,Tryz.ntmps63
  go_wp2_with (((with_reducible refine gW ?_);refine gD (some 48) Tryz.func83 rfl (YVi aQ.out) fun nd=>?_))
  go_ret
  exact⟨rfl,dR⟩
 replace H:=iE H;rcases H with⟨a7,a6,H⟩|⟨a7,a6,H⟩
 ·replace H:=oA H;obtain⟨aV,aO,H⟩:=H
  obtain rfl:=oI H
  go_enter Tryz.func63,Tryz.ntmps63
  go_wp2_with (((with_reducible refine gW ?_);refine gD (some 54) Tryz.func84 rfl (ZKi aO.out) fun nd=>?_))
  go_ret
  exact⟨rfl,dR⟩
 replace H:=iE H;rcases H with⟨a5,a4,H⟩|⟨a5,a4,H⟩
 ·replace H:=oA H;obtain⟨aU,aN,H⟩:=H
  obtain rfl:=oI H
  go_enter Tryz.func63,Tryz.ntmps63
  go_wp2_with (((with_reducible refine gW ?_);refine gD (some 60) Tryz.func85 rfl (ZGi aN.out) fun nd=>?_))
  go_ret
  exact⟨rfl,dR⟩
 replace H:=oA H;obtain⟨aT,aM,H⟩:=H
 obtain rfl:=oI H
 go_enter Tryz.func63,Tryz.ntmps63
 go_wp2_with (((with_reducible refine gW ?_);refine gD (some 64) Tryz.func86 rfl (ZFi aM.out) fun nd=>?_))
 go_ret
 exact⟨rfl,dR⟩
def a1e(a0:Int)(a1:Int)(a2:Int):Option (Int):=(uQ a0 a1 a2).bind fun a5=>(if a5=true then((vZ (decide (a1<a2))).bind fun a4=>(some a4))else((vZ false).bind fun a3=>(some a3)))
theorem c4p{P:Prop}(h:P:=by
 replace H:=oA H;obtain⟨a5,a3,H⟩:=H
 obtain rfl:=oI H
 go_enter Tryz.func64,Tryz.ntmps64
 go_wp2_with (((with_reducible refine gW ?_);first|(refine gD (some 10) Tryz.func87 rfl (JLi A4.out) fun nd=>?_)|(refine gD (some 16) Tryz.func60 rfl (JWi _ _ _ a3.out) fun nd=>?_)))
 go_ret
 exact⟨rfl,dR⟩):P:=h
theorem ZDi{a0 a1 a2 r:Int}{w:World}(h:a1e a0 a1 a2=some r) :
  Calls Tryz.prog 64 #[.int .i64 a0,.int .i64 a1,.int .i64 a2] w fun e w'=>e= .returned (.int .i64 r)∧Drawn0 w w':=by
 have H:=h
 clear h
 unfold a1e at H
 replace H:=oA H;obtain⟨a4,A4,H⟩:=H
 replace H:=iB H;rcases H with⟨rfl,H⟩|⟨rfl,H⟩
 ·exact c4p
 exact c4p
def xZ(a0:Int)(a1:Int):Option (Int):=(rP a0 a1).bind fun a2=>(if a2=true then(if 0≤(IntKind.u64.wrap (wrap64 (a0-1)))then(if a1≥(shl .i64 1 (IntKind.u64.wrap (wrap64 (a0-1))))then(if 0≤(IntKind.u64.wrap (a0))then(some (wrap64 (a1-(shl .i64 1 (IntKind.u64.wrap (a0))))))else(none))else(some a1))else(none))else(some 0))
theorem b7v{P:Prop}(h:P:=by
 obtain rfl:=oI H
 go_enter Tryz.func88,Tryz.ntmps88
 go_wp2_with (((with_reducible refine gW ?_);refine gD (some 8) Tryz.func9 rfl (JDi _ _ _ _ A3.out) fun nd=>?_))
 go_ret
 exact⟨rfl,dR⟩):P:=h
theorem KUi{a0 a1 r:Int}{w:World}(h:xZ a0 a1=some r) :
  Calls Tryz.prog 88 #[.int .i64 a0,.int .i64 a1] w fun e w'=>e= .returned (.int .i64 r)∧Drawn0 w w':=by
 have H:=h
 clear h
 unfold xZ at H
 replace H:=oA H;obtain⟨aQ,A3,H⟩:=H
 replace H:=iB H;rcases H with⟨rfl,H⟩|⟨rfl,H⟩
 rotate_left
 ·exact b7v
 generalize aD:IntKind.u64.wrap (wrap64 (a0-1))=a3 at H
 (try rw[aD]at A3)
 replace H:=iTD H;obtain⟨aS,aR,H⟩:=H
 generalize a9:shl .i64 1 (a3)=a4 at H
 (try rw[a9]at A3)
 have aB:(IntKind.i64.wrap (1*2 ^ min (a3).toNat 64))=a4:=a9
 have aA:(a3)≤64→(IntKind.i64.wrap (1*2 ^ (a3).toNat))=a4:=zY a9
 have aM:(IntKind.i64.wrap (2 ^ min (a3).toNat 64))=a4:=by have h_:=aB;rw[Int.one_mul]at h_;exact h_
 have aL:(a3)≤64→(IntKind.i64.wrap (2 ^ (a3).toNat))=a4:=fun hle_=>by have h_:=aA hle_;rw[Int.one_mul]at h_;exact h_
 have aJ:(wrap64 (1*2 ^ min (a3).toNat 64))=a4:=(vB _).symm.trans aB
 have aK:(a3)≤64→(wrap64 (1*2 ^ (a3).toNat))=a4:=fun h_=>(vB _).symm.trans (aA h_)
 by_cases c8:a1≥(a4)
 ·rw[if_pos c8]at H
  have aE:decide ((a4)≤a1)=true:=decide_eq_true c8
  clear c8
  generalize aC:IntKind.u64.wrap (a0)=a2 at H
  (try rw[aC]at A3)
  replace H:=iTD H;obtain⟨aO,aN,H⟩:=H
  generalize a6:shl .i64 1 (a2)=a5 at H
  (try rw[a6]at A3)
  have a8:(IntKind.i64.wrap (1*2 ^ min (a2).toNat 64))=a5:=a6
  have a7:(a2)≤64→(IntKind.i64.wrap (1*2 ^ (a2).toNat))=a5:=zY a6
  have aI:(IntKind.i64.wrap (2 ^ min (a2).toNat 64))=a5:=by have h_:=a8;rw[Int.one_mul]at h_;exact h_
  have aH:(a2)≤64→(IntKind.i64.wrap (2 ^ (a2).toNat))=a5:=fun hle_=>by have h_:=a7 hle_;rw[Int.one_mul]at h_;exact h_
  have aF:(wrap64 (1*2 ^ min (a2).toNat 64))=a5:=(vB _).symm.trans a8
  have aG:(a2)≤64→(wrap64 (1*2 ^ (a2).toNat))=a5:=fun h_=>(vB _).symm.trans (a7 h_)
  exact b7v
 rw[if_neg c8]at H
 have aE:decide ((a4)≤a1)=false:=decide_eq_false c8
 clear c8
 exact b7v
def wC(a0:Int)(a1:Int)(a2:Int):Option (Int):=(uQ a0 a1 a2).bind fun a7=>(if a7=true then((xZ a0 a1).bind fun a6=>((xZ a0 a2).bind fun a5=>((vZ (decide (a6<a5))).bind fun a4=>(some a4))))else((vZ false).bind fun a3=>(some a3)))
theorem ZEi{a0 a1 a2 r:Int}{w:World}(h:wC a0 a1 a2=some r) :
  Calls Tryz.prog 65 #[.int .i64 a0,.int .i64 a1,.int .i64 a2] w fun e w'=>e= .returned (.int .i64 r)∧Drawn0 w w':=by
 have H:=h
 clear h
 unfold wC at H
 replace H:=oA H;obtain⟨a7,A4,H⟩:=H
 replace H:=iB H;rcases H with⟨rfl,H⟩|⟨rfl,H⟩
 ·replace H:=oA H;obtain⟨a6,A6,H⟩:=H
  replace H:=oA H;obtain⟨a5,A7,H⟩:=H
  replace H:=oA H;obtain⟨a4,A8,H⟩:=H
  obtain rfl:=oI H
  go_enter Tryz.func65,Tryz.ntmps65
  go_wp2_with (first|(go_at_call 88;refine cD (KUi A6.out) fun nd=>?_)|(go_at_call 88;refine cD (KUi A7.out) fun nd=>?_)|((with_reducible refine gW ?_);first|(refine gD (some 10) Tryz.func87 rfl (JLi A4.out) fun nd=>?_)|(refine gD (some 20) Tryz.func60 rfl (JWi _ _ _ A8.out) fun nd=>?_)))
  go_ret
  exact⟨rfl,dR⟩
 replace H:=oA H;obtain⟨a3,A9,H⟩:=H
 obtain rfl:=oI H
 go_enter Tryz.func65,Tryz.ntmps65
 go_wp2_with (((with_reducible refine gW ?_);first|(refine gD (some 10) Tryz.func87 rfl (JLi A4.out) fun nd=>?_)|(refine gD (some 20) Tryz.func60 rfl (JWi _ _ _ A9.out) fun nd=>?_)))
 go_ret
 exact⟨rfl,dR⟩
def a0c(a0:Int)(a1:Int)(a2:Int)(a3:Int):Option (Int):=(rP a0 a1).bind fun a7=>(if a7=true then((qE a3 1 a0).bind fun a6=>(if a6=true then((qE a2 0 (wrap64 (a0-a3))).bind fun a5=>(if a5=true then(if 0≤(IntKind.u64.wrap (a2))then((xY a3 (shr .i64 a1 (IntKind.u64.wrap (a2)))).bind fun a4=>(some a4))else(none))else(some 0)))else(some 0)))else(some 0))
theorem XLi{a0 a1 a2 a3 r:Int}{w:World}(h:a0c a0 a1 a2 a3=some r) :
  Calls Tryz.prog 66 #[.int .i64 a0,.int .i64 a1,.int .i64 a2,.int .i64 a3] w fun e w'=>e= .returned (.int .i64 r)∧Drawn0 w w':=by
 have H:=h
 clear h
 unfold a0c at H
 replace H:=oA H;obtain⟨aG,A5,H⟩:=H
 replace H:=iB H;rcases H with⟨rfl,H⟩|⟨rfl,H⟩
 rotate_left
 ·obtain rfl:=oI H
  go_enter Tryz.func66,Tryz.ntmps66
  go_wp2_with (((with_reducible refine gW ?_);refine gD (some 11) Tryz.func9 rfl (JDi _ _ _ _ A5.out) fun nd=>?_))
  go_ret
  exact⟨rfl,dR⟩
 replace H:=oA H;obtain⟨aF,A7,H⟩:=H
 replace H:=iB H;rcases H with⟨rfl,H⟩|⟨rfl,H⟩
 rotate_left
 ·obtain rfl:=oI H
  go_enter Tryz.func66,Tryz.ntmps66
  go_wp2_with (first|(go_at_call 28;refine cD (JBi A7.out) fun nd=>?_)|((with_reducible refine gW ?_);refine gD (some 11) Tryz.func9 rfl (JDi _ _ _ _ A5.out) fun nd=>?_))
  go_ret
  exact⟨rfl,dR⟩
 replace H:=oA H;obtain⟨aE,A9,H⟩:=H
 replace H:=iB H;rcases H with⟨rfl,H⟩|⟨rfl,H⟩
 ·generalize a6:IntKind.u64.wrap (a2)=a5 at H
  (try rw[a6]at A5)
  (try rw[a6]at A7)
  (try rw[a6]at A9)
  replace H:=iTD H;obtain⟨aC,aB,H⟩:=H
  generalize a4:shr .i64 a1 (a5)=a7 at H
  (try rw[a4]at A5)
  (try rw[a4]at A7)
  (try rw[a4]at A9)
  have a9:(a1 / 2 ^ min (a5).toNat 64)=a7:=a4
  have a8:(a5)≤64→(a1 / 2 ^ (a5).toNat)=a7:=b2l a4
  replace H:=oA H;obtain⟨aD,aA,H⟩:=H
  obtain rfl:=oI H
  go_enter Tryz.func66,Tryz.ntmps66
  go_wp2_with (first|(go_at_call 28;refine cD (JBi A7.out) fun nd=>?_)|(go_at_call 28;refine cD (JBi A9.out) fun nd=>?_)|((with_reducible refine gW ?_);first|(refine gD (some 11) Tryz.func9 rfl (JDi _ _ _ _ A5.out) fun nd=>?_)|(refine gD (some 32) Tryz.func89 rfl (JXi aA.out) fun nd=>?_)))
  go_ret
  exact⟨rfl,dR⟩
 obtain rfl:=oI H
 go_enter Tryz.func66,Tryz.ntmps66
 go_wp2_with (first|(go_at_call 28;refine cD (JBi A7.out) fun nd=>?_)|(go_at_call 28;refine cD (JBi A9.out) fun nd=>?_)|((with_reducible refine gW ?_);refine gD (some 11) Tryz.func9 rfl (JDi _ _ _ _ A5.out) fun nd=>?_))
 go_ret
 exact⟨rfl,dR⟩
mutual
def sT:Nat→Int→Int→Int→Int→Bool→Int→Int→Int→Int→Int→Int→Option (Int)
 | 0,_,_,_,_,_,_,_,_,_,_,_=>none
 | k+1,x1,x2,x3,x4,aF,a0,a1,a2,a5,a4,a3=>if aF=true then(some 0)else(if a0=0 then(some a2)else(if a0=2 then((a1f a1 x2).bind fun aD=>(some aD))else((qE a0 3 12).bind fun aC=>(if aC=true then((zI a0 a1 x2 x3).bind fun aB=>(some aB))else(if a0=13 then((vZ (x2==x3)).bind fun aA=>(some aA))else(if a0=14 then((a1e x1 x2 x3).bind fun a9=>(some a9))else(if a0=15 then((wC x1 x2 x3).bind fun a8=>(some a8))else(if a0=16 then(zJ k x1 x2 x3 x4 (decide (a1<x1)) a0 a1 a2 a5 a4 a3)else(zJ k x1 x2 x3 x4 false a0 a1 a2 a5 a4 a3)))))))))
def zJ:Nat→Int→Int→Int→Int→Bool→Int→Int→Int→Int→Int→Int→Option (Int)
 | 0,_,_,_,_,_,_,_,_,_,_,_=>none
 | k+1,x1,x2,x3,x4,aE,a0,a1,a2,a5,a4,a3=>if aE=true then(some x3)else(if a0=16 then(if 0≤(IntKind.u64.wrap (wrap64 (a1-x1)))then(some (wrap64 ((shl .i64 x2 (IntKind.u64.wrap (wrap64 (a1-x1))))+x3)))else(none))else(if a0=17 then((a0c x1 x2 a2 a1).bind fun a7=>(some a7))else(if a0=18 then(yB k x3 x4 (x2==1) a0 a1 a2 a5 a4 a3)else(yB k x3 x4 false a0 a1 a2 a5 a4 a3))))
def yB:Nat→Int→Int→Bool→Int→Int→Int→Int→Int→Int→Option (Int)
 | 0,_,_,_,_,_,_,_,_,_=>none
 | k+1,x3,x4,a6,a0,a1,a2,a5,a4,a3=>if a6=true then(some x3)else(if a0=18 then(some x4)else(some 0))
end
def a0e(k:Nat)(a9:Int)(a0:Int)(a8:Int)(a7:Int)(a6:Int)(a5:Int)(a1:Int)(a2:Int)(a3:Int)(a4:Int):Option (Int):=(tP a0).bind fun aE=>(if aE=true then((tP a1).bind fun aD=>(if aD=true then((xX a2).bind fun aC=>(if aC=true then((xX a3).bind fun aB=>(if aB=true then((xX a4).bind fun aA=>(sT k a1 a2 a3 a4 (!aA) a9 a0 a8 a7 a6 a5))else(sT k a1 a2 a3 a4 true a9 a0 a8 a7 a6 a5)))else(sT k a1 a2 a3 a4 true a9 a0 a8 a7 a6 a5)))else(sT k a1 a2 a3 a4 true a9 a0 a8 a7 a6 a5)))else(sT k a1 a2 a3 a4 true a9 a0 a8 a7 a6 a5))
theorem ZLi(k:Nat)(a0 a6 aA a9 a8 a7 a1 a2 a3 a4 r:Int)(w:World)(h:a0e k a0 a6 aA a9 a8 a7 a1 a2 a3 a4=some r) :
  Calls Tryz.prog 41 #[.agg #[.int .i64 a0,.int .i64 a6,.int .i64 aA,.int .i64 a9,.int .i64 a8,.int .i64 a7],.int .i64 a1,.int .i64 a2,.int .i64 a3,.int .i64 a4] w fun e w'=>e= .returned (.int .i64 r)∧Below w.heap.size w w':=by
 have hu31:=Tryz.underlying33
 have HB:=am (Below.refl w.heap.size w)
 have H:=h
 clear h
 unfold a0e at H
 have bD:=am H;clear H
 go_enter Tryz.func41,Tryz.ntmps41
 go_upto_region 1 with(((with_reducible refine pU (N:=5) rfl ?_);refine wG ?hg (N:=5) ?hd (cs:= #[.int .i64 a0,.int .i64 a6,.int .i64 aA,.int .i64 a9,.int .i64 a8,.int .i64 a7]) (t:=33) ?hr ?_;(case hd=>rfl);(case hg=>rfl);(case hr=>(go_simp;done));intro aN hg w7 hbox hb;have bO:=am (zP (by exact sW HB.out) hb);have bN:=am (hbox);have bM:=gw hg;have bL:=gw hg;clear HB;have HB:=bO;have a5:=bN;have d2:=bM;have d3:=bL;clear bO bN bM bL;clear hb hbox hg))
 (try simp only[Act.put,List.setIfInBounds_toArray,List.set_cons_zero,List.set_cons_succ])
 go_cut [34] (fun cP wc =>∃(kq:Nat) (aL:Bool),cP= .bool aL∧Aside0 (sT kq a1 a2 a3 a4 aL a0 a6 aA a9 a8 a7=some r)∧Aside0 (kq≤k)∧Aside0 (wc.heap[aN]? = some (.cells #[.int .i64 a0,.int .i64 a6,.int .i64 aA,.int .i64 a9,.int .i64 a8,.int .i64 a7] 33 (0,0)))∧Aside0 (Below w.heap.size w wc))
 case first =>
  have H:=bD.out
  clear bD
  replace H:=oA H;obtain⟨dE,A8,H⟩:=H
  replace H:=iB H;rcases H with⟨rfl,H⟩|⟨rfl,H⟩
  rotate_left
  ·replace H:=am H
   have cJ:=cf6 a5.out
   go_wp2_with (((with_reducible refine gW ?_);refine gD (some 13) Tryz.func27 rfl (JFi A8.out) fun nd=>?_))
   go_meet
   case rel=>exact⟨_,true,rfl,H,⟨oM⟩,⟨sB<|a5.out⟩,⟨bW⟩⟩
  replace H:=oA H;obtain⟨dD,b7,H⟩:=H
  replace H:=iB H;rcases H with⟨rfl,H⟩|⟨rfl,H⟩
  rotate_left
  ·replace H:=am H
   have cK:=cf6 a5.out
   go_wp2_with (first|(go_at_call 27;refine cD (JFi b7.out) fun nd=>?_)|((with_reducible refine gW ?_);refine gD (some 13) Tryz.func27 rfl (JFi A8.out) fun nd=>?_))
   go_meet
   case rel=>exact⟨_,true,rfl,H,⟨oM⟩,⟨sB<|a5.out⟩,⟨bW⟩⟩
  replace H:=oA H;obtain⟨dC,bE,H⟩:=H
  replace H:=iB H;rcases H with⟨rfl,H⟩|⟨rfl,H⟩
  ·replace H:=oA H;obtain⟨dB,bP,H⟩:=H
   replace H:=iB H;rcases H with⟨rfl,H⟩|⟨rfl,H⟩
   ·replace H:=oA H;obtain⟨bR,cZ,H⟩:=H
    replace H:=am H
    have cN:=cf6 a5.out
    go_wp2_with (first|(go_at_call 27;refine cD (JFi b7.out) fun nd=>?_)|(go_at_call 61;refine cD (JUi bE.out) fun nd=>?_)|(go_at_call 61;refine cD (JUi bP.out) fun nd=>?_)|(go_at_call 61;refine cD (JUi cZ.out) fun nd=>?_)|((with_reducible refine gW ?_);refine gD (some 13) Tryz.func27 rfl (JFi A8.out) fun nd=>?_))
    go_meet
    case rel=>exact⟨_,(!bR),rfl,H,⟨oM⟩,⟨sB<|a5.out⟩,⟨bW⟩⟩
   replace H:=am H
   have cM:=cf6 a5.out
   go_wp2_with (first|(go_at_call 27;refine cD (JFi b7.out) fun nd=>?_)|(go_at_call 61;refine cD (JUi bE.out) fun nd=>?_)|(go_at_call 61;refine cD (JUi bP.out) fun nd=>?_)|((with_reducible refine gW ?_);refine gD (some 13) Tryz.func27 rfl (JFi A8.out) fun nd=>?_))
   go_meet
   case rel=>exact⟨_,true,rfl,H,⟨oM⟩,⟨sB<|a5.out⟩,⟨bW⟩⟩
  replace H:=am H
  have cL:=cf6 a5.out
  go_wp2_with (first|(go_at_call 27;refine cD (JFi b7.out) fun nd=>?_)|(go_at_call 61;refine cD (JUi bE.out) fun nd=>?_)|((with_reducible refine gW ?_);refine gD (some 13) Tryz.func27 rfl (JFi A8.out) fun nd=>?_))
  go_meet
  case rel=>exact⟨_,true,rfl,H,⟨oM⟩,⟨sB<|a5.out⟩,⟨bW⟩⟩
 clear bD
 obtain⟨kq,aL,rfl,HA,b6,a5,HB⟩:=hcut
 cases kq with
 | zero=>cases HA.out
 | succ cQ =>
  obtain⟨H⟩:=HA
  simp only[sT]at H
  replace H:=iB H;rcases H with⟨rfl,H⟩|⟨rfl,H⟩
  ·obtain rfl:=oI H
   go_wp2
   go_ret
   exact⟨rfl,bW⟩
  by_cases aJ:a0=0
  ·rw[if_pos aJ]at H
   have b5:(a0==0)=true:=beq_iff_eq.mpr aJ
   have b4:(a0 !=0)=false:=bne_eq_false_iff_eq.mpr aJ
   clear aJ
   obtain rfl:=oI H
   have cI:=cf6 a5.out
   go_wp2
   go_ret
   exact⟨rfl,bW⟩
  rw[if_neg aJ]at H
  have b5:(a0==0)=false:=beq_eq_false_iff_ne.mpr aJ
  have b4:(a0 !=0)=true:=bne_iff_ne.mpr aJ
  by_cases aI:a0=2
  ·rw[if_pos aI]at H
   have b3:(a0==2)=true:=beq_iff_eq.mpr aI
   have b2:(a0 !=2)=false:=bne_eq_false_iff_eq.mpr aI
   clear aI
   replace H:=oA H;obtain⟨dA,cY,H⟩:=H
   obtain rfl:=oI H
   have cH:=cf6 a5.out
   go_wp2_with (((with_reducible refine gW ?_);refine gD (some 48) Tryz.func62 rfl (YIi cY.out) fun nd=>?_))
   go_ret
   exact⟨rfl,bW⟩
  rw[if_neg aI]at H
  have b3:(a0==2)=false:=beq_eq_false_iff_ne.mpr aI
  have b2:(a0 !=2)=true:=bne_iff_ne.mpr aI
  replace H:=oA H;obtain⟨d9,aO,H⟩:=H
  replace H:=iB H;rcases H with⟨rfl,H⟩|⟨rfl,H⟩
  ·replace H:=oA H;obtain⟨d8,cX,H⟩:=H
   obtain rfl:=oI H
   have cG:=cf6 a5.out
   go_wp2_with (((with_reducible refine gW ?_);first|(refine gD (some 52) Tryz.func28 rfl (JBi aO.out) fun nd=>?_)|(refine gD (some 59) Tryz.func63 rfl (XNi cX.out) fun nd=>?_)))
   go_ret
   exact⟨rfl,bW⟩
  by_cases aH:a0=13
  ·rw[if_pos aH]at H
   have b1:(a0==13)=true:=beq_iff_eq.mpr aH
   have b0:(a0 !=13)=false:=bne_eq_false_iff_eq.mpr aH
   clear aH
   replace H:=oA H;obtain⟨d7,cW,H⟩:=H
   obtain rfl:=oI H
   have cF:=cf6 a5.out
   go_wp2_with (((with_reducible refine gW ?_);first|(refine gD (some 52) Tryz.func28 rfl (JBi aO.out) fun nd=>?_)|(refine gD (some 67) Tryz.func60 rfl (JWi _ _ _ cW.out) fun nd=>?_)))
   go_ret
   exact⟨rfl,bW⟩
  rw[if_neg aH]at H
  have b1:(a0==13)=false:=beq_eq_false_iff_ne.mpr aH
  have b0:(a0 !=13)=true:=bne_iff_ne.mpr aH
  by_cases aG:a0=14
  ·rw[if_pos aG]at H
   have a_:(a0==14)=true:=beq_iff_eq.mpr aG
   have aZ:(a0 !=14)=false:=bne_eq_false_iff_eq.mpr aG
   clear aG
   replace H:=oA H;obtain⟨d6,cV,H⟩:=H
   obtain rfl:=oI H
   have cE:=cf6 a5.out
   go_wp2_with (((with_reducible refine gW ?_);first|(refine gD (some 52) Tryz.func28 rfl (JBi aO.out) fun nd=>?_)|(refine gD (some 75) Tryz.func64 rfl (ZDi cV.out) fun nd=>?_)))
   go_ret
   exact⟨rfl,bW⟩
  rw[if_neg aG]at H
  have a_:(a0==14)=false:=beq_eq_false_iff_ne.mpr aG
  have aZ:(a0 !=14)=true:=bne_iff_ne.mpr aG
  by_cases aF:a0=15
  ·rw[if_pos aF]at H
   have aY:(a0==15)=true:=beq_iff_eq.mpr aF
   have aX:(a0 !=15)=false:=bne_eq_false_iff_eq.mpr aF
   clear aF
   replace H:=oA H;obtain⟨d5,cU,H⟩:=H
   obtain rfl:=oI H
   have cC:=cf6 a5.out
   go_wp2_with (((with_reducible refine gW ?_);first|(refine gD (some 52) Tryz.func28 rfl (JBi aO.out) fun nd=>?_)|(refine gD (some 83) Tryz.func65 rfl (ZEi cU.out) fun nd=>?_)))
   go_ret
   exact⟨rfl,bW⟩
  rw[if_neg aF]at H
  have aY:(a0==15)=false:=beq_eq_false_iff_ne.mpr aF
  have aX:(a0 !=15)=true:=bne_iff_ne.mpr aF
  have aR:=am H;clear H
  have b9:=cf6 a5.out
  go_upto_region 15 with(((with_reducible refine gW ?_);refine gD (some 52) Tryz.func28 rfl (JBi aO.out) fun nd=>?_))
  (try simp only[Act.put,List.setIfInBounds_toArray,List.set_cons_zero,List.set_cons_succ])
  go_cut [84] (fun cO wc =>∃(kq:Nat) (aK:Bool),cO= .bool aK∧Aside0 (zJ kq a1 a2 a3 a4 aK a0 a6 aA a9 a8 a7=some r)∧Aside0 (kq≤cQ)∧Aside0 (wc.heap[aN]? = some (.cells #[.int .i64 a0,.int .i64 a6,.int .i64 aA,.int .i64 a9,.int .i64 a8,.int .i64 a7] 33 (0,0)))∧Aside0 (Below w.heap.size w wc))
  case first =>
   have H:=aR.out
   clear aR
   replace H:=iE H;rcases H with⟨bK,bJ,H⟩|⟨bK,bJ,H⟩
   ·replace H:=am H
    have cB:=cf6 a5.out
    go_wp2
    go_meet
    case rel=>exact⟨_,(decide (a6<a1)),rfl,H,⟨by have:=b6.out;omega⟩,⟨sB<|a5.out⟩,⟨bW⟩⟩
   replace H:=am H
   have c1:=cf6 a5.out
   go_wp2
   go_meet
   case rel=>exact⟨_,false,rfl,H,⟨by have:=b6.out;omega⟩,⟨sB<|a5.out⟩,⟨bW⟩⟩
  clear aR
  clear aJ b5 b4 aI b3 b2 aH b1 b0 aG a_ aZ aF aY aX b9
  obtain⟨kq,aK,rfl,HA,bC,a5,HB⟩:=hcut
  cases kq with
  | zero=>cases HA.out
  | succ bS =>
   obtain⟨H⟩:=HA
   simp only[zJ]at H
   replace H:=iB H;rcases H with⟨rfl,H⟩|⟨rfl,H⟩
   ·obtain rfl:=oI H
    go_wp2
    go_ret
    exact⟨rfl,bW⟩
   by_cases aE:a0=16
   ·rw[if_pos aE]at H
    have aW:(a0==16)=true:=beq_iff_eq.mpr aE
    have aV:(a0 !=16)=false:=bne_eq_false_iff_eq.mpr aE
    clear aE
    generalize c_:IntKind.u64.wrap (wrap64 (a6-a1))=aB at H
    replace H:=iTD H;obtain⟨d1,d0,H⟩:=H
    generalize aS:shl .i64 a2 (aB)=aM at H
    have bB:(IntKind.i64.wrap (a2*2 ^ min (aB).toNat 64))=aM:=aS
    have bA:(aB)≤64→(IntKind.i64.wrap (a2*2 ^ (aB).toNat))=aM:=zY aS
    have cR:(wrap64 (a2*2 ^ min (aB).toNat 64))=aM:=(vB _).symm.trans bB
    have cS:(aB)≤64→(wrap64 (a2*2 ^ (aB).toNat))=aM:=fun h_=>(vB _).symm.trans (bA h_)
    obtain rfl:=oI H
    have c0:=cf6 a5.out
    go_wp2
    go_ret
    exact⟨rfl,bW⟩
   rw[if_neg aE]at H
   have aW:(a0==16)=false:=beq_eq_false_iff_ne.mpr aE
   have aV:(a0 !=16)=true:=bne_iff_ne.mpr aE
   by_cases aD:a0=17
   ·rw[if_pos aD]at H
    have aU:(a0==17)=true:=beq_iff_eq.mpr aD
    have aT:(a0 !=17)=false:=bne_eq_false_iff_eq.mpr aD
    clear aD
    replace H:=oA H;obtain⟨d4,cT,H⟩:=H
    obtain rfl:=oI H
    have b_:=cf6 a5.out
    go_wp2_with (((with_reducible refine gW ?_);refine gD (some 118) Tryz.func66 rfl (XLi cT.out) fun nd=>?_))
    go_ret
    exact⟨rfl,bW⟩
   rw[if_neg aD]at H
   have aU:(a0==17)=false:=beq_eq_false_iff_ne.mpr aD
   have aT:(a0 !=17)=true:=bne_iff_ne.mpr aD
   have aQ:=am H;clear H
   have b8:=cf6 a5.out
   go_upto_region 21 with(fail)
   go_cut [119] (fun bQ wc =>∃(kq:Nat) (aC:Bool),bQ= .bool aC∧Aside0 (yB kq a3 a4 aC a0 a6 aA a9 a8 a7=some r)∧Aside0 (kq≤bS)∧Aside0 (wc.heap[aN]? = some (.cells #[.int .i64 a0,.int .i64 a6,.int .i64 aA,.int .i64 a9,.int .i64 a8,.int .i64 a7] 33 (0,0)))∧Aside0 (Below w.heap.size w wc))
   case first =>
    have H:=aQ.out
    clear aQ
    replace H:=iE H;rcases H with⟨bI,bH,H⟩|⟨bI,bH,H⟩
    ·replace H:=am H
     have bZ:=cf6 a5.out
     go_wp2
     go_meet
     case rel=>exact⟨_,((a2==1)),rfl,H,⟨by have:=b6.out;have:=bC.out;omega⟩,⟨sB<|a5.out⟩,⟨bW⟩⟩
    replace H:=am H
    have bV:=cf6 a5.out
    go_wp2
    go_meet
    case rel=>exact⟨_,false,rfl,H,⟨by have:=b6.out;have:=bC.out;omega⟩,⟨sB<|a5.out⟩,⟨bW⟩⟩
   clear aQ
   clear aE aW aV aD aU aT b8
   obtain⟨kq,aC,rfl,HA,dG,a5,HB⟩:=hcut
   cases kq with
   | zero=>cases HA.out
   | succ dF =>
    obtain⟨H⟩:=HA
    simp only[yB]at H
    replace H:=iB H;rcases H with⟨rfl,H⟩|⟨rfl,H⟩
    ·obtain rfl:=oI H
     go_wp2
     go_ret
     exact⟨rfl,bW⟩
    replace H:=iE H;rcases H with⟨bG,bF,H⟩|⟨bG,bF,H⟩
    ·obtain rfl:=oI H
     have bU:=cf6 a5.out
     go_wp2
     go_ret
     exact⟨rfl,bW⟩
    obtain rfl:=oI H
    have bT:=cf6 a5.out
    go_wp2
    go_ret
    exact⟨rfl,bW⟩
def vpl(V:List Int→Int→List Int→Option (Int×List Int))(env:List Int):List Int→List Int→Option (List Int×List Int)
 | [],kn=>some ([],kn)
 | p::ps,kn=>(V env p kn).bind fun r=>(vpl V env ps r.2).bind fun s=>some (r.1::s.1,s.2)
theorem b4g(l:List Int)(i v:Int)(h0:0≤i)(h:i<(l.length:Int)):rd (l.set i.toNat v) i=v:=by
 have hl:i.toNat<l.length:=by omega
 simp[rd,hl,List.getD_eq_getElem?_getD]
def xc(acc:List Int):Array Value:= #[.int .i64 (rd acc 0),.int .i64 (rd acc 1),.int .i64 (rd acc 2)]
theorem c6x(acc:List Int)(j:Nat)(h:j<3) :∃v,(xc acc)[j]? = some (.int .i64 v):=by
 have:j=0∨j=1∨j=2:=by omega
 rcases this with rfl|rfl|rfl
 ·exact⟨_,rfl⟩
 ·exact⟨_,rfl⟩
 ·exact⟨_,rfl⟩
theorem c6w(acc:List Int)(v:Int)(h:acc.length<3):(xc acc).setIfInBounds acc.length (.int .i64 v)=xc (acc++[v]):=by
 match acc,h with
 | [],_=>rfl
 | [a],_=>rfl
 | [a,b],_=>rfl
 | a::b::c::t,h=>exact absurd h (by simp)
def d5h(l0:List (S31))(ps:List Int):Int:=if 0<ps.length then(kA l0 (rd ps 0)).f1 else 1
def impl_valueR(k:Nat)(V:List Int→Int→List Int→Option (Int×List Int))(l0:List (S31))(env:List Int)(i:Int)(known:List Int):Option (Int×List Int) :=
 if 0≤i∧i<(l0.length:Int)then
  if 0≤rd known i then some (rd known i,known)
  else if(kA l0 i).f0=1 then(if 0≤(kA l0 i).f2∧(kA l0 i).f2<8 then some (rd env (kA l0 i).f2,known.set i.toNat (rd env (kA l0 i).f2))else none)
  else if((kA l0 i).f0==19 || (kA l0 i).f0==20)=true then(impl_quantR V l0.length env (kA l0 i).f0 (kA l0 i).f2 (kA l0 i).f3 (kA l0 i).f4).bind fun r=>some (r,known.set i.toNat r)
  else if(kL (kA l0 i).f0 (kA l0 i).f3 (kA l0 i).f4 (kA l0 i).f5).all (fun p=>inB p 0 ((l0.length:Int)-1))=true then
   (vpl V env (kL (kA l0 i).f0 (kA l0 i).f3 (kA l0 i).f4 (kA l0 i).f5) known).bind fun s=>(a0e k (kA l0 i).f0 (kA l0 i).f1 (kA l0 i).f2 (kA l0 i).f3 (kA l0 i).f4 (kA l0 i).f5 (d5h l0 (kL (kA l0 i).f0 (kA l0 i).f3 (kA l0 i).f4 (kA l0 i).f5)) (rd s.1 0) (rd s.1 1) (rd s.1 2)).bind fun r=>some (r,s.2.set i.toNat r)
  else none
 else none
theorem c5z{P:Prop}(h:P:=by
 obtain⟨adk,ek,hx⟩:=Kd.JD (Kd.JA RK.out).2.2 i i0 (by have:=HKL.out;omega)
 cases ek
 simp only[pW]at hx
 obtain⟨g2,c2,e2,a5,_,cl2,HGO⟩:=Kd.JZ RK.out (by have:=HKL.out;omega)
 rw[HKL.out]at e2
 cases e2
 have hfx:=kF HGO i.toNat
 clear HGO
 go_wp2_with fail
 go_ret
 refine⟨by rw[← HR.out.1];rfl,?_,by rw[← HR.out.2,List.length_set];exact HKL.out,KW.out.setCell (.inl rfl) _,H0.out.setCell (Nat.zero_le _) _⟩
 rw[← HR.out.2]
 exact Kd.XC RK.out i rq):P:=h
theorem XRi(k g:Nat)(A0:Option Addr)(c0:Nat)(l0:List (S31))(V:List Int→Int→List Int→Option (Int×List Int))(hV:a6i g A0 c0 l0 V)(hc0:l0.length≤c0)(hm:l0.length≤1048576):a6i g A0 c0 l0 (impl_valueR k V l0):=by
 unfold a6i at hV ⊢
 intro hk ck base env i known r known' w hb he hgk hr0 hkl ho h
 unfold impl_valueR at h
 by_cases hi:0≤i∧i<(l0.length:Int)
 rotate_left
 ·rw[if_neg hi]at h
  exact absurd h (by simp)
 rw[if_pos hi]at h
 obtain⟨i0,i1⟩:=hi
 have t1:decide (0≤i)=true:=decide_eq_true i0
 have t2:decide (i<(l0.length:Int))=true:=decide_eq_true i1
 have hkb:=Kd.YB ho
 obtain⟨_,hkb,hkw,q,hq,cl,hcl⟩:=hkb.1 hk rfl
 have BGL:=am (vD hb);have HKW:=am hkw;have HKB:=am hkb
 clear hkb hkw q hq cl hcl
 obtain⟨adk,ek,hx⟩:=Kd.JD (Kd.JA ho).2.2 i i0 oM
 cases ek
 simp only[pW]at hx
 obtain⟨a6,e0,y0,y1,y2,y3,y4,y5⟩:=pE (hr0 w (Kept.refl _ _)) i i0 i1
 cases e0
 have x0:=(kE hb 0).trans (b0u _ _ _ _)
 have HV:=am hV;have BG:=am hb;have HE:=am he;have HGK:=am hgk;have a1:=am hr0;have HKL:=am hkl;have RK:=am ho;have HM:=am hm;have aA:=am hc0;have HH:=am h
 clear hV hb he hgk hr0 hkl ho hm hc0 h
 by_cases hkn:0≤rd known i
 ·have h:=HH.out
  rw[if_pos hkn]at h
  obtain⟨rfl,rfl⟩:=Prod.mk.inj (oI h)
  clear h
  have t3:decide (0≤rd known i)=true:=decide_eq_true hkn
  go_enter Tryz.func17,Tryz.ntmps17
  go_wp2_with fail
  go_ret
  exact⟨rfl,RK.out,HKL.out,Kept.refl _ _,Below.refl _ _⟩
 have t3:decide (0≤rd known i)=false:=decide_eq_false hkn
 have h:=HH.out
 rw[if_neg hkn]at h
 obtain⟨⟨op,W,Kq,A,B,C⟩,hnd⟩ :∃n,kA l0 i=n:=⟨_,rfl⟩
 rw[hnd]at h y0 y1 y2 y3 y4 y5
 simp only[]at h y0 y1 y2 y3 y4 y5
 have BN:=am (heap_alloc_new w (Obj.cells #[Value.int .i64 op,Value.int .i64 W,Value.int .i64 Kq,Value.int .i64 A,Value.int .i64 B,Value.int .i64 C] 33))
 have BG:=am (oZ BG.out (Obj.cells #[Value.int .i64 op,Value.int .i64 W,Value.int .i64 Kq,Value.int .i64 A,Value.int .i64 B,Value.int .i64 C] 33))
 have RK:=am (Kd.YT RK.out (Obj.cells #[Value.int .i64 op,Value.int .i64 W,Value.int .i64 Kq,Value.int .i64 A,Value.int .i64 B,Value.int .i64 C] 33))
 have KW:=am (Kept.alloc (Kept.refl w (fun k=>k=hk)) (Obj.cells #[Value.int .i64 op,Value.int .i64 W,Value.int .i64 Kq,Value.int .i64 A,Value.int .i64 B,Value.int .i64 C] 33))
 have H0:=am (show Below 0 w (w.alloc (Obj.cells #[Value.int .i64 op,Value.int .i64 W,Value.int .i64 Kq,Value.int .i64 A,Value.int .i64 B,Value.int .i64 C] 33))from(Below.refl 0 w).alloc (Nat.zero_le _) _)
 have HND:=am hnd
 clear hnd hkn
 by_cases hop:op=1
 ·rw[if_pos hop]at h
  by_cases hK:0≤Kq∧Kq<8
  rotate_left
  ·rw[if_neg hK]at h
   exact absurd h (by simp)
  rw[if_pos hK]at h
  have HR:=am (Prod.mk.inj (oI h))
  have K8:=am hK
  have t4:(op==1)=true:=beq_iff_eq.mpr hop
  clear h hK hop HH
  go_enter Tryz.func17,Tryz.ntmps17
  go_wp2_with fail
  clear x0 y0 y1 y2 y3 y4 y5 hx
  generalize w.alloc (Obj.cells #[Value.int .i64 op,Value.int .i64 W,Value.int .i64 Kq,Value.int .i64 A,Value.int .i64 B,Value.int .i64 C] 33)=wA at *
  obtain⟨q0,q1,q2,q3,q4,q5⟩:=a3d BN.out
  have x1:=(kE BG.out (Kq.toNat+1)).trans (a4o _ _ _ _ Kq.toNat (by rw[HE.out];have:=K8.out;omega))
  rw[Int.toNat_of_nonneg K8.out.1,Nat.add_comm Kq.toNat 1]at x1
  have kk:=K8.out
  obtain⟨adk,ek,hx⟩:=Kd.JD (Kd.JA RK.out).2.2 i i0 (by have:=HKL.out;omega)
  cases ek
  simp only[pW]at hx
  obtain⟨g2,c2,e2,a5,_,cl2,HGO⟩:=Kd.JZ RK.out (by have:=HKL.out;omega)
  rw[HKL.out]at e2
  cases e2
  have hfx:=kF HGO i.toNat
  clear HGO
  go_region
  clear q0 q1 q2 q3 q4 q5 x1 kk hx hfx
  have RK:=am (show Kd.R (Kd.int .i64) 3 (wA.setCell ⟨hk,i.toNat,none⟩ (.int .i64 (rd env Kq))).drew base (fun k=>k=hk) (.slice (some ⟨hk,0,none⟩) l0.length ck) (known.set i.toNat (rd env Kq))from Kd.JR (Kd.XC RK.out i (rd env Kq)))
  have KW:=am (show Kept w (wA.setCell ⟨hk,i.toNat,none⟩ (.int .i64 (rd env Kq))).drew (fun k=>k=hk)from Kept.drew (KW.out.setCell (.inl rfl) _))
  have H0:=am (show Below 0 w (wA.setCell ⟨hk,i.toNat,none⟩ (.int .i64 (rd env Kq))).drew from yV (H0.out.setCell (Nat.zero_le _) _))
  generalize (wA.setCell ⟨hk,i.toNat,none⟩ (.int .i64 (rd env Kq))).drew=wE at *
  obtain⟨adk,ek,hx⟩:=Kd.JD (Kd.JA RK.out).2.2 i i0 (by rw[List.length_set];have:=HKL.out;omega)
  cases ek
  simp only[pW]at hx
  rw[b4g known i (rd env Kq) i0 (by have:=HKL.out;omega)]at hx
  go_wp2_with fail
  go_ret
  exact⟨by rw[← HR.out.1];rfl,by rw[← HR.out.2];exact RK.out,by rw[← HR.out.2,List.length_set];exact HKL.out,KW.out,H0.out⟩
 rw[if_neg hop]at h
 have t4:(op==1)=false:=beq_eq_false_iff_ne.mpr hop
 clear hop
 by_cases hqb:(op==19 || op==20)=true
 ·rw[if_pos hqb]at h
  obtain⟨rq,hrq,h⟩:=oB h
  have HR:=am (Prod.mk.inj (oI h))
  have HQ:=am hqb;have HRQ:=am hrq
  clear h hqb HH hrq
  go_enter Tryz.func17,Tryz.ntmps17
  go_wp2_with fail
  clear x0 y0 y1 y2 y3 y4 y5 hx
  generalize w.alloc (Obj.cells #[Value.int .i64 op,Value.int .i64 W,Value.int .i64 Kq,Value.int .i64 A,Value.int .i64 B,Value.int .i64 C] 33)=wA at *
  refine(JJi true _ (by rw[a0n,HQ.out])).mono ?_
  rintro e w2 ⟨rfl,hb⟩
  have BG:=am (kJ BG.out hb);have BN:=am (kJ BN.out hb);have RK:=am (Kd.JK RK.out hb);have KW:=am (KW.out.below hb);have H0:=am (H0.out.trans (hb.mono (Nat.zero_le _)))
  clear hb
  obtain⟨q0,q1,q2,q3,q4,q5⟩:=a3d BN.out
  go_wp2_with fail
  refine(ZIi g _ c0 l0 V HV.out env op W Kq A B C rq _ BG.out HE.out oM HM.out (fun W_ hW=>a1.out W_ ((KW.out.mono (fun _ h=> .inr h)).then_ hW (fun k h=> .inl (.inl h)))) HRQ.out).mono ?_
  rintro e w3 ⟨rfl,hb⟩
  have RK:=am (Kd.JK RK.out hb);have KW:=am (KW.out.below hb);have H0:=am (H0.out.trans (hb.mono (Nat.zero_le _)))
  clear hb q0 q1 q2 q3 q4 q5
  exact c5z
 rw[if_neg hqb]at h
 have hqf:(op==19 || op==20)=false:=by cases hh:(op==19 || op==20)<;>simp_all
 clear hqb
 obtain⟨ps,hps⟩ :∃ps,kL op A B C=ps:=⟨_,rfl⟩
 have a0:=qF op A B C
 rw[hps]at h a0
 by_cases hpb:ps.all (fun p=>inB p 0 ((l0.length:Int)-1))=true
 rotate_left
 ·rw[if_neg hpb]at h
  exact absurd h (by simp)
 rw[if_pos hpb]at h
 obtain⟨⟨vs,kn⟩,hvp,h⟩:=oB h
 obtain⟨rq,hap,h⟩:=oB h
 have HR:=am (Prod.mk.inj (oI h))
 have HQ:=am hqf;have HAP:=am hap;have HVP:=am hvp;have HPS:=am hps;have HPB:=am hpb;have a7:=am a0
 clear h hqf HH hap hvp hps hpb a0
 go_enter Tryz.func17,Tryz.ntmps17
 go_wp2_with fail
 clear x0 y0 y1 y2 y3 y4 y5 hx
 generalize w.alloc (Obj.cells #[Value.int .i64 op,Value.int .i64 W,Value.int .i64 Kq,Value.int .i64 A,Value.int .i64 B,Value.int .i64 C] 33)=wA at *
 refine(JJi false _ (by rw[a0n,HQ.out])).mono ?_
 rintro e w2 ⟨rfl,hb⟩
 have BG:=am (kJ BG.out hb);have BN:=am (kJ BN.out hb);have RK:=am (Kd.JK RK.out hb);have KW:=am (KW.out.below hb);have H0:=am (H0.out.trans (hb.mono (Nat.zero_le _)))
 clear hb
 have BX:=am (heap_alloc_new w2 (Obj.cells #[Value.int .i64 0,Value.int .i64 0,Value.int .i64 0] 68))
 have GX:=am (show w.heap.size<w2.heap.size from vD BN.out)
 have GG:=am (show g<w.heap.size from BGL.out)
 have BG:=am (oZ BG.out (Obj.cells #[Value.int .i64 0,Value.int .i64 0,Value.int .i64 0] 68));have BN:=am (oZ BN.out (Obj.cells #[Value.int .i64 0,Value.int .i64 0,Value.int .i64 0] 68));have RK:=am (Kd.YT RK.out (Obj.cells #[Value.int .i64 0,Value.int .i64 0,Value.int .i64 0] 68));have KW:=am (KW.out.alloc (Obj.cells #[Value.int .i64 0,Value.int .i64 0,Value.int .i64 0] 68));have H0:=am (show Below 0 w (w2.alloc (Obj.cells #[Value.int .i64 0,Value.int .i64 0,Value.int .i64 0] 68))from H0.out.alloc (Nat.zero_le _) _)
 obtain⟨q0,q1,q2,q3,q4,q5⟩:=a3d BN.out
 go_wp2_with fail
 generalize hgx:w2.heap.size=gx at *
 generalize w2.alloc (Obj.cells #[Value.int .i64 0,Value.int .i64 0,Value.int .i64 0] 68)=wX at *
 have GXX:=am (show gx<wX.heap.size from vD BX.out)
 clear hgx
 refine(JIi 1 _ _ _ _ _ _ ps _ (by rw[a6a _ _ _ _ _ _ oM,HPS.out])).mono ?_
 rintro e w3 ⟨vp,rfl,hpr,hb⟩
 have BG:=am (kJ BG.out hb);have BN:=am (kJ BN.out hb);have BX:=am (kJ BX.out hb);have RK:=am (Kd.JK RK.out hb);have H0:=am (H0.out.trans (hb.mono (Nat.zero_le _)))
 obtain⟨Ap,cp,rfl,_,_⟩:=Kd.YL hpr
 have RP:=am (Kd.JC (ok':=fun k=>k≠hk) (Kd.YB hpr) (fun k hk'=>by have h1:=hk'.2.1;have h2:=HKW.out;have h3:=KW.out.1;omega))
 have KW:=am (KW.out.below hb)
 clear hb hpr q0 q1 q2 q3 q4 q5
 go_wp2_with fail
 go_loopg [9,10,11,32] ps.length (fun gk v9 a9 a8 a4 w' =>∃(j:Nat) (wv:Int) (acc rest kj:List Int),a4= .int .i64 (j:Int)∧v9= .int .i64 wv∧Aside0 (wv=if j=0 then 1 else d5h l0 ps)∧Aside0 (gk+j=ps.length)∧Aside0 (acc.length=j)∧Aside0 (vs=acc++rest)∧Aside0 (vpl V env (ps.drop j) kj=some (rest,kn))∧Aside0 (kj.length=l0.length)∧
  Aside0 (w'.heap[g]? = some (.cells (a1m (some a6) l0.length c0 env) 44 (0,0)))∧Aside0 (w'.heap[w.heap.size]? = some (.cells #[.int .i64 op,.int .i64 W,.int .i64 Kq,.int .i64 A,.int .i64 B,.int .i64 C] 33 (0,0)))∧Aside0 (w'.heap[gx]? = some (.cells (xc acc) 68 (0,0)))∧
  Aside0 (Kd.R (Kd.int .i64) 3 w' base (fun k=>k=hk) (.slice (some ⟨hk,0,none⟩) l0.length ck) kj)∧Aside0 (Kd.R (Kd.int .i64) 3 w' wX.heap.size (fun k=>k≠hk) (.slice Ap ps.length cp) ps)∧Aside0 (Kept w w' (fun k=>k=hk))∧Aside0 (Below 0 w w'))
 case atStart=>exact⟨0,1,[],vs,known,rfl,rfl,⟨rfl⟩,⟨rfl⟩,⟨rfl⟩,⟨rfl⟩,HVP,HKL,BG,BN,BX,RK,RP,KW,H0⟩
 obtain⟨j,wv,acc,rest,kj,rfl,rfl,HWV,HG,HAL,HVS,HVP,HKL,BG,BN,BX,RK,RP,KW,H0⟩:=hrel
 by_cases hj:j<ps.length
 rotate_left
 ·obtain rfl:j=ps.length:=by have:=HG.out;omega
  have p2:decide ((ps.length:Int)<(ps.length:Int))=false:=decide_eq_false oM
  have hv:=HVP.out
  rw[List.drop_length]at hv
  unfold vpl at hv
  obtain⟨hr1,hr2⟩:=Prod.mk.inj (oI hv)
  have hwv:wv=d5h l0 ps:=by
   rw[HWV.out]
   by_cases h0:ps.length=0
   ·rw[if_pos h0];unfold d5h;rw[if_neg oM]
   rw[if_neg h0]
  have hvs:vs=acc:=by rw[HVS.out,← hr1,List.append_nil]
  have hap:=HAP.out
  rw[hvs,← hwv]at hap
  have hR:=HR.out
  rw[← hr2]at hR
  have HAP:=am hap;have HR:=am hR
  clear hap hR hvs hwv hr1 hr2 hv HVP HVS
  obtain⟨q0,q1,q2,q3,q4,q5⟩:=a3d BN.out
  have z0:=(kE BX.out 0).trans (show(xc acc)[0]? = some (.int .i64 (rd acc 0))from rfl)
  have z1:=(kE BX.out 1).trans (show(xc acc)[1]? = some (.int .i64 (rd acc 1))from rfl)
  have z2:=(kE BX.out 2).trans (show(xc acc)[2]? = some (.int .i64 (rd acc 2))from rfl)
  go_wp2_with fail
  refine(ZLi k op W Kq A B C wv (rd acc 0) (rd acc 1) (rd acc 2) rq _ HAP.out).mono ?_
  rintro e w5 ⟨rfl,hb⟩
  have RK:=am (Kd.JK RK.out hb);have KW:=am (KW.out.below hb);have H0:=am (H0.out.trans (hb.mono (Nat.zero_le _)))
  clear hb q0 q1 q2 q3 q4 q5 z0 z1 z2
  exact c5z
 have p1:(0:Int)≤(j:Int):=by omega
 have p2:decide ((j:Int)<(ps.length:Int))=true:=decide_eq_true oM
 obtain⟨adp,ep,hxp⟩:=Kd.JD (Kd.JA RP.out).2.2 (j:Int) p1 oM
 cases ep
 have hpb:=List.all_eq_true.mp HPB.out ps[j] (List.getElem_mem hj)
 have hpr:rd ps (j:Int)=ps[j]:=by simp[rd,hj,List.getD_eq_getElem?_getD]
 obtain⟨pj,hpj⟩ :∃pj,ps[j]=pj:=⟨_,rfl⟩
 have hv:=HVP.out
 rw[List.drop_eq_getElem_cons hj]at hv
 rw[hpj]at hpb hpr hv
 rw[hpr,Int.toNat_natCast]at hxp
 simp only[inB,decide_eq_true_eq]at hpb
 unfold vpl at hv
 obtain⟨⟨rv,k1⟩,hv1,hv⟩:=oB hv
 obtain⟨⟨vr,k2⟩,hv2,hv⟩:=oB hv
 obtain⟨hr1,hr2⟩:=Prod.mk.inj (oI hv)
 have HV1:=am hv1;have HV2:=am hv2;have HRR:=am (And.intro hr1 hr2);have HPJ:=am hpb
 clear hpb hv hv1 hv2 hr1 hr2 HVP
 have J3:=am (show j<3 from by have:=a7.out;omega)
 have WP:=am hpr
 clear hpr
 go_wp2_with fail
 refine(HV.out hk ck base env pj kj rv k1 _ BG.out HE.out HGK.out (fun W_ hW=>a1.out W_ ((KW.out.mono (fun _ h=> .inr h)).then_ hW (fun k h=> .inl h))) HKL.out RK.out HV1.out).mono ?_
 rintro e w4 ⟨rfl,hR4,hl4,hK4,a3⟩
 have nk1:w.heap.size≠hk:=by have:=HKW.out;omega
 have nk2:gx≠hk:=by have:=HKW.out;have:=GX.out;omega
 have BG:=am (xD BG.out hK4 (fun h=>HGK.out h));have BN:=am (xD BN.out hK4 nk1);have BX:=am (xD BX.out hK4 nk2);have RK:=am hR4;have HKL:=am hl4
 have RP:=am (Kd.XL RP.out hK4 (fun k h=>h));have KW:=am (KW.out.then_ hK4 (fun k h=> .inl h));have H0:=am (H0.out.trans a3)
 clear hR4 hl4 hK4 a3 hxp nk1 nk2
 obtain⟨xv,hxv⟩:=c6x acc j J3.out
 have hxx:=(kE BX.out j).trans hxv
 have hfx:=kF BX.out j
 have kk:(0:Int)≤(j:Int)∧(j:Int)<3:=by have:=J3.out;omega
 clear hxv
 have ngx:g≠gx:=by have:=GG.out;have:=GX.out;omega
 have nbx:w.heap.size≠gx:=by have:=GX.out;omega
 have BG:=am (uH (p:=⟨gx,j,none⟩) BG.out ngx (.int .i64 rv));have BN:=am (uH (p:=⟨gx,j,none⟩) BN.out nbx (.int .i64 rv))
 have KW:=am (show Kept w (w4.setCell ⟨gx,j,none⟩ (.int .i64 rv)) (fun k=>k=hk)from KW.out.setCell (.inr (by have:=GX.out;show w.heap.size≤gx;omega)) _)
 have H0:=am (show Below 0 w (w4.setCell ⟨gx,j,none⟩ (.int .i64 rv))from H0.out.setCell (Nat.zero_le _) _)
 have RK:=am (Kd.JT (p:=⟨gx,j,none⟩) RK.out (fun k hk'=>by have:=HKW.out;have:=GX.out;show k≠gx;omega) (.int .i64 rv))
 have RP:=am (Kd.JT (p:=⟨gx,j,none⟩) (Kd.JC (ok':=fun k=>k≠hk∧k≠gx) (Kd.YB RP.out) (fun k hk'=>⟨hk'.1,by have:=hk'.2.1;have:=GXX.out;omega⟩)) (fun k hk'=>hk'.2) (.int .i64 rv))
 have RP:=am (Kd.JC (ok':=fun k=>k≠hk) RP.out (fun k hk'=>hk'.1))
 have x0:=(kE BG.out 0).trans (b0u _ _ _ _)
 have HG0:=am (a1.out _ (KW.out.mono (fun _ h=> .inr h)))
 obtain⟨_,e1,_,y1,_⟩:=pE HG0.out pj (by have:=HPJ.out;omega) (by have:=HPJ.out;omega)
 cases e1
 clear ngx nbx
 have u1:decide (0≤pj)=true:=decide_eq_true (by have:=HPJ.out;omega)
 have u2:decide (pj<(l0.length:Int))=true:=decide_eq_true (by have:=HPJ.out;omega)
 have uu:0≤pj∧pj<(l0.length:Int):=by have:=HPJ.out;omega
 obtain⟨g1,rfl⟩ :∃g1,gk=g1+1:=⟨gk-1,by have:=HG.out;omega⟩
 have BX1:=tF BX.out j (.int .i64 rv)
 rw[← HAL.out,c6w acc rv (by rw[HAL.out];exact J3.out),HAL.out]at BX1
 by_cases hj0:j=0
 ·have t5:((j:Int)==0)=true:=by rw[hj0];rfl
  have a2:=am hj0
  clear hj0
  go_wp2_with fail
  clear x0 y1 u1 u2 uu kk hxx hfx t5
  have hvs:vs=(acc++[rv])++vr:=by rw[HVS.out,← HRR.out.1,List.append_assoc];rfl
  have hv2:=HV2.out
  rw[HRR.out.2]at hv2
  go_roundg g1
  case measure=>omega
  case rel=>exact⟨j+1,_,acc++[rv],vr,k1,by go_num,rfl,⟨by rw[if_neg oM];unfold d5h;rw[if_pos oM];have h:=WP.out;rw[a2.out]at h;rw[show rd ps 0=pj from h]⟩,⟨by have:=HG.out;omega⟩,⟨by rw[List.length_append,HAL.out];rfl⟩,⟨hvs⟩,⟨hv2⟩,HKL,BG,BN,⟨BX1⟩,RK,RP,KW,H0⟩
 have t5:((j:Int)==0)=false:=beq_eq_false_iff_ne.mpr oM
 have a2:=am hj0
 clear hj0
 go_wp2_with fail
 clear x0 y1 u1 u2 uu kk hxx hfx t5
 have hvs:vs=(acc++[rv])++vr:=by rw[HVS.out,← HRR.out.1,List.append_assoc];rfl
 have hv2:=HV2.out
 rw[HRR.out.2]at hv2
 go_roundg g1
 case measure=>omega
 case rel=>exact⟨j+1,_,acc++[rv],vr,k1,by go_num,rfl,⟨by rw[if_neg oM,HWV.out,if_neg a2.out]⟩,⟨by have:=HG.out;omega⟩,⟨by rw[List.length_append,HAL.out];rfl⟩,⟨hvs⟩,⟨hv2⟩,HKL,BG,BN,⟨BX1⟩,RK,RP,KW,H0⟩
def impl_valueF(l0:List (S31)):Nat→List Int→Int→List Int→Option (Int×List Int)
 | 0=>fun _ _ _=>none
 | n+1=>impl_valueR (n+1) (impl_valueF l0 n) l0
theorem XAi(g:Nat)(A0:Option Addr)(c0:Nat)(l0:List (S31))(hc0:l0.length≤c0)(hm:l0.length≤1048576) :∀n,a6i g A0 c0 l0 (impl_valueF l0 n)
 | 0=>by
  unfold a6i
  intro hk ck base env i known r known' w hb he hgk hr0 hkl ho h
  exact absurd h (by simp[impl_valueF])
 | n+1=>XRi (n+1) g A0 c0 l0 _ (XAi g A0 c0 l0 hc0 hm n) hc0 hm
def d7i(cs:Array Value):Nat→List Value→Array Value
 | _,[]=>cs
 | o,v::r=>d7i (cs.setIfInBounds o v) (o+1) r
theorem a6g{g t:Nat} :∀(vs:List Value) (o:Nat) (w:World) (cs:Array Value),w.heap[g]? = some (.cells cs t (0,0))→(w.setCells g o vs).heap[g]? = some (.cells (d7i cs o vs) t (0,0))
 | [],_,_,_,h=>h
 | v::r,o,w,cs,h=>a6g r (o+1) _ _ (tF h o v)
theorem a4b{w:World}{g:Nat}(hg:w.heap.size≤g) :∀(vs:List Value) (o:Nat) (W:World),Below w.heap.size w W→Below w.heap.size w (W.setCells g o vs)
 | [],_,_,h=>h
 | v::r,o,W,h=>a4b hg r (o+1) _ (kR h hg)
theorem c3b(A:Option Addr)(n c:Nat)(l:List Int)(h:l.length=8):d7i #[.slice A n c,.int .i64 0,.int .i64 0,.int .i64 0,.int .i64 0,.int .i64 0,.int .i64 0,.int .i64 0,.int .i64 0] 1 (l.map (Value.int .i64))=a1m A n c l:=by
 match l,h with
 | [a,b,c,d,e,f,g,h],_=>simp[d7i,a1m]
theorem a8o(k:Nat)(A0:Option Addr)(c0:Nat)(l0:List (S31))(A1:Option Addr)(c1:Nat)(l1:List Int)(r:Int)(kn:List Int)(w:World)(hr0:Kd.C k31 w A0 l0.length l0)(hc0:l0.length≤c0)(hr1:Kd.C (Kd.int .i64) w A1 l1.length l1)(hc1:l1.length≤c1)(h8:l1.length=8)(hl:1≤l0.length)(hm:l0.length≤1048576)
  (ht:uG k l0=some true) (h:impl_valueF l0 k l1 ((l0.length:Int)-1) (List.replicate l0.length (-1))=some (r,kn))
  (hs :∀w:World,Kd.C k31 w A0 l0.length l0→Kd.C (Kd.int .i64) w A1 l1.length l1→Calls Tryz.prog 15 #[.slice A0 l0.length c0,.slice A1 l1.length c1] w fun e w'=>e= .returned (.bool true)∧Below w.heap.size w w')
  (q:Int) (hq:uC k l0=some q) (hq12 :¬q>12) :
  Calls Tryz.prog 6 #[.slice A0 l0.length c0,.slice A1 l1.length c1] w fun e w'=>e= .returned (.tuple #[.int .i64 r,.bool true])∧Below w.heap.size w w':=by
 have a1:=am hr0;have a3:=am hc0;have a2:=am hr1;have a5:=am hc1;have HL:=am hl;have HM:=am hm;have HT:=am ht;have HH:=am h;have HS:=am hs;have HQ:=am hq;have H8:=am h8
 have t1:((l1.length:Int)!=8)=false:=by rw[h8];rfl
 have t2:decide (12<q)=false:=decide_eq_false oM
 clear hr0 hc0 hr1 hc1 hl hm ht h hs hq hq12 h8
 go_enter Tryz.func6,Tryz.ntmps6
 go_wp2_with fail
 refine(JQi k A0 c0 l0 true w a1.out a3.out HT.out).mono ?_
 rintro e w2 ⟨rfl,hb⟩
 have HB:=am hb
 clear hb
 go_wp2_with fail
 refine(HS.out w2 (Kd.JE a1.out HB.out) (Kd.JE a2.out HB.out)).mono ?_
 rintro e w3 ⟨rfl,hb⟩
 have HB:=am (HB.out.trans (hb.mono HB.out.size))
 clear hb
 go_wp2_with fail
 refine(KTi k A0 c0 l0 q w3 (Kd.JE a1.out HB.out) a3.out HQ.out).mono ?_
 rintro e w4 ⟨rfl,hb⟩
 have HB:=am (HB.out.trans (hb.mono HB.out.size))
 clear hb
 go_wp2_with fail
 have hHB4:=HB.out
 have BX:=heap_alloc_new w4 (Obj.cells #[.slice A0 l0.length c0,.int .i64 0,.int .i64 0,.int .i64 0,.int .i64 0,.int .i64 0,.int .i64 0,.int .i64 0,.int .i64 0] 44)
 have hA:=kO HB.out (Obj.cells #[.slice A0 l0.length c0,.int .i64 0,.int .i64 0,.int .i64 0,.int .i64 0,.int .i64 0,.int .i64 0,.int .i64 0,.int .i64 0] 44)
 generalize hWA:w4.alloc (Obj.cells #[.slice A0 l0.length c0,.int .i64 0,.int .i64 0,.int .i64 0,.int .i64 0,.int .i64 0,.int .i64 0,.int .i64 0,.int .i64 0] 44)=wA at *
 obtain⟨a0,ea1,hc1'⟩ :∃a0,A1=some a0∧∀j v,(l1.map (Value.int .i64))[j]? = some v→wA.cell? (a0.add j)=some v:=by
  obtain⟨ad,e1,_⟩:=Kd.JD a2.out 0 oM (by rw[H8.out];decide)
  refine⟨ad,e1,fun j v hv=>?_⟩
  obtain⟨x,hx,rfl⟩:=Option.map_eq_some_iff.mp (by rw[List.getElem?_map]at hv;exact hv)
  have hj:=(List.getElem?_eq_some_iff.mp hx).1
  obtain⟨ad',e2,hc⟩:=Kd.JD a2.out (j:Int) oM oM
  rw[e1]at e2
  cases e2
  rw[Int.toNat_natCast,show rd l1 (j:Int)=x by simp[rd,hx,List.getD_eq_getElem?_getD]]at hc
  exact kC hA hc
 subst ea1
 rw[run_copy_cells wA 25 25 3 3 w4.heap.size 1 8 8 a0 l1.length c1 (l1.map (Value.int .i64)) Tryz.underlying25 rfl (by rw[List.length_map,H8.out];rfl) hc1' ?hcc ?hff ?hoo]
 case hcc =>
  intro j hj
  rw[List.length_map,H8.out]at hj
  rw[kE BX (1+j)]
  have:j=0∨j=1∨j=2∨j=3∨j=4∨j=5∨j=6∨j=7:=by omega
  rcases this with rfl|rfl|rfl|rfl|rfl|rfl|rfl|rfl<;>rfl
 case hff=>exact fun j _=>kF BX _
 case hoo =>
  intro v hv
  obtain⟨x,_,rfl⟩:=List.mem_map.mp hv
  rfl
 have hBX:=a6g (l1.map (Value.int .i64)) 1 _ _ BX
 rw[c3b _ _ _ _ H8.out]at hBX
 have hHB:=a4b HB.out.size (l1.map (Value.int .i64)) 1 _ hA
 have BG:=am hBX;have HB:=am hHB
 have G4:=am (show w.heap.size≤w4.heap.size from kG hHB4)
 clear hBX hHB BX hA hc1'
 generalize wA.setCells w4.heap.size 1 (l1.map (Value.int .i64))=wB at *
 go_wp2_with fail
 refine(KSi w4.heap.size A0 c0 l0 l1 wB BG.out HL.out HM.out).mono ?_
 rintro e w5 ⟨hk,ck,rfl,hRK,hb⟩
 have hn:wrap64 ((l0.length:Int)-1)=(l0.length:Int)-1:=by have:=HL.out;have:=HM.out;unfold wrap64;omega
 have hgk:w4.heap.size<hk:=by
  obtain⟨g2,c2,e2,a4,_⟩:=Kd.JZ hRK (by rw[List.length_replicate];exact HL.out)
  rw[List.length_replicate]at e2
  cases e2
  exact Nat.lt_of_lt_of_le (vD BG.out) a4
 have BG:=am (kJ BG.out hb)
 have HB:=am (HB.out.trans (hb.mono HB.out.size))
 have RK:=am hRK
 have HV:=XAi w4.heap.size A0 c0 l0 a3.out HM.out k
 unfold a6i at HV
 have HV:=am HV
 have HGK:=am hgk
 clear hb hRK hgk
 go_wp2_with fail
 try rw[hn]
 clear hn
 refine(HV.out hk ck _ l1 ((l0.length:Int)-1) (List.replicate l0.length (-1)) r kn w5 BG.out H8.out (by have:=HGK.out;omega) (fun W_ hW=>?_) (by simp) RK.out HH.out).mono ?_
 ·have hbl:Below w.heap.size w {W_ with os:=w.os,tape:=w.tape,output:=w.output}:=⟨rfl,rfl,rfl,Nat.le_trans HB.out.size hW.1,fun i hi=>by
   show W_.heap[i]? = w.heap[i]?
   rw[hW.2 i (Nat.lt_of_lt_of_le hi HB.out.size) (by have:=HGK.out;have:=G4.out;omega),HB.out.block i hi]⟩
  have hC:=Kd.JE a1.out hbl
  exact hC
 ·rintro e w6 ⟨rfl,_,_,hK,h0⟩
  go_wp2
  refine bodyPost_ret (pN (rs:=[.tmp 4,.tmp 5]) rfl (by simp) (.tmp (.tmp .nil))) rfl ?_
  refine⟨rfl,h0.os.trans HB.out.os,h0.tape.trans HB.out.tape,h0.output.trans HB.out.output,Nat.le_trans HB.out.size h0.size,fun i hi=>?_⟩
  rw[hK.2 i (Nat.lt_of_lt_of_le hi HB.out.size) (by have:=HGK.out;have:=G4.out;omega),HB.out.block i hi]
def sF(k:Nat)(l0:List (S31))(l1:List Int):Option (Int×Bool) :=
 (uG k l0).bind fun ok=>(if ok=true then(if l1.length=8 then(if 1≤l0.length∧l0.length≤1048576 then(yU k l0 l1).bind fun s=>(if s=true then(uC k l0).bind fun q=>(if q>12 then some (0,false)else(impl_valueF l0 k l1 ((l0.length:Int)-1) (List.replicate l0.length (-1))).bind fun p=>some (p.1,true))else some (0,false))else none)else some (0,false))else some (0,false))
theorem b5o{P:Prop}(h:P:=by
 clear hb
 go_wp2_with fail
 refine bodyPost_ret (pN (rs:=[.tmp 4,.tmp 5]) rfl (by simp) (.tmp (.tmp .nil))) rfl ?_
 exact⟨rfl,HB.out⟩):P:=h
theorem KEi{k:Nat}{A0:Option Addr}{c0:Nat}{l0:List (S31)}{A1:Option Addr}{c1:Nat}{l1:List Int}{r1:Int}{r2:Bool}{w:World}(hr0:Kd.C k31 w A0 l0.length l0)(hc0:l0.length≤c0)(hr1:Kd.C (Kd.int .i64) w A1 l1.length l1)(hc1:l1.length≤c1)(h:sF k l0 l1=some (r1,r2)) :
  Calls Tryz.prog 6 #[.slice A0 l0.length c0,.slice A1 l1.length c1] w fun e w'=>e= .returned (.tuple #[.int .i64 r1,.bool r2])∧Below w.heap.size w w':=by
 unfold sF at h
 obtain⟨ok,ht,h⟩:=oB h
 cases ok with
 | false =>
  rw[if_neg (by decide)]at h
  obtain⟨rfl,rfl⟩:=Prod.mk.inj (oI h)
  have a0:=am hr0;have a1:=am hc0;have HT:=am ht
  clear h ht hr0 hc0 hr1 hc1
  go_enter Tryz.func6,Tryz.ntmps6
  go_wp2_with fail
  refine(JQi k A0 c0 l0 false w a0.out a1.out HT.out).mono ?_
  rintro e w2 ⟨rfl,hb⟩
  have HB:=am hb
  exact b5o
 | true =>
  rw[if_pos rfl]at h
  by_cases h8:l1.length=8
  rotate_left
  ·rw[if_neg h8]at h
   obtain⟨rfl,rfl⟩:=Prod.mk.inj (oI h)
   have a0:=am hr0;have a1:=am hc0;have HT:=am ht
   have t1:((l1.length:Int)!=8)=true:=bne_iff_ne.mpr oM
   clear h ht hr0 hc0 hr1 hc1 h8
   go_enter Tryz.func6,Tryz.ntmps6
   go_wp2_with fail
   refine(JQi k A0 c0 l0 true w a0.out a1.out HT.out).mono ?_
   rintro e w2 ⟨rfl,hb⟩
   have HB:=am hb
   exact b5o
  rw[if_pos h8]at h
  by_cases hl:1≤l0.length∧l0.length≤1048576
  rotate_left
  ·rw[if_neg hl]at h
   exact absurd h (by simp)
  rw[if_pos hl]at h
  obtain⟨s,hs,h⟩:=oB h
  cases s with
  | false =>
   rw[if_neg (by decide)]at h
   obtain⟨rfl,rfl⟩:=Prod.mk.inj (oI h)
   have a0:=am hr0;have a1:=am hc0;have HT:=am ht;have a2:=am hr1;have a3:=am hc1;have HS:=am hs
   have t1:((l1.length:Int)!=8)=false:=by rw[h8];rfl
   clear h ht hr0 hc0 hr1 hc1 hs h8 hl
   go_enter Tryz.func6,Tryz.ntmps6
   go_wp2_with fail
   refine(JQi k A0 c0 l0 true w a0.out a1.out HT.out).mono ?_
   rintro e w2 ⟨rfl,hb⟩
   have HB:=am hb
   clear hb
   go_wp2_with fail
   refine(KDi k A0 c0 l0 A1 c1 l1 false w2 (Kd.JE a0.out HB.out) a1.out (Kd.JE a2.out HB.out) a3.out HS.out).mono ?_
   rintro e w3 ⟨rfl,hb⟩
   have HB:=am (HB.out.trans (hb.mono HB.out.size))
   exact b5o
  | true =>
   rw[if_pos rfl]at h
   obtain⟨q,hq,h⟩:=oB h
   by_cases hq12:q>12
   rotate_left
   ·rw[if_neg hq12]at h
    obtain⟨⟨r,kn⟩,hv,h⟩:=oB h
    obtain⟨rfl,rfl⟩:=Prod.mk.inj (oI h)
    exact a8o k A0 c0 l0 A1 c1 l1 r kn w hr0 hc0 hr1 hc1 h8 hl.1 hl.2 ht hv (fun w' a b=>KDi k A0 c0 l0 A1 c1 l1 true w' a hc0 b hc1 hs) q hq hq12
   rw[if_pos hq12]at h
   obtain⟨rfl,rfl⟩:=Prod.mk.inj (oI h)
   have a0:=am hr0;have a1:=am hc0;have HT:=am ht;have a2:=am hr1;have a3:=am hc1;have HS:=am hs;have HQ:=am hq
   have t1:((l1.length:Int)!=8)=false:=by rw[h8];rfl
   have t2:decide (12<q)=true:=decide_eq_true oM
   clear h ht hr0 hc0 hr1 hc1 hs h8 hl hq hq12
   go_enter Tryz.func6,Tryz.ntmps6
   go_wp2_with fail
   refine(JQi k A0 c0 l0 true w a0.out a1.out HT.out).mono ?_
   rintro e w2 ⟨rfl,hb⟩
   have HB:=am hb
   clear hb
   go_wp2_with fail
   refine(KDi k A0 c0 l0 A1 c1 l1 true w2 (Kd.JE a0.out HB.out) a1.out (Kd.JE a2.out HB.out) a3.out HS.out).mono ?_
   rintro e w3 ⟨rfl,hb⟩
   have HB:=am (HB.out.trans (hb.mono HB.out.size))
   clear hb
   go_wp2_with fail
   refine(KTi k A0 c0 l0 q w3 (Kd.JE a0.out HB.out) a1.out HQ.out).mono ?_
   rintro e w4 ⟨rfl,hb⟩
   have HB:=am (HB.out.trans (hb.mono HB.out.size))
   exact b5o
end Go.Proofs.YtkpipmojkhikaaaGreat.PAll
