/- Plain facts on words of at most eight bits: powers of two, wraps, masks and shifts of whole numbers. -/
import Derived.Test.YtkpipmojkhikaaaGreatWWords
import GoSem.Claim
set_option linter.unusedVariables false
set_option linter.unusedSimpArgs false
namespace Go.Proofs.YtkpipmojkhikaaaGreat.Base
open Go.RowKit Go.A_ Go.C_
def P2(w:Int):Int:=(2:Int) ^ w.toNat
theorem c4k{w:Int}(h0:0≤w)(h8:w≤8) :
  (w=0∧P2 w=1)∨(w=1∧P2 w=2)∨(w=2∧P2 w=4)∨(w=3∧P2 w=8)∨(w=4∧P2 w=16)∨
  (w=5∧P2 w=32)∨(w=6∧P2 w=64)∨(w=7∧P2 w=128)∨(w=8∧P2 w=256):=by
 have:w=0∨w=1∨w=2∨w=3∨w=4∨w=5∨w=6∨w=7∨w=8:=by omega
 rcases this with rfl|rfl|rfl|rfl|rfl|rfl|rfl|rfl|rfl<;>simp[P2]
theorem rM{w:Int}(h0:0≤w)(h8:w≤8):1≤P2 w∧P2 w≤256:=by
 have:=c4k h0 h8;omega
theorem d6y{v w:Int}(h0:0≤v)(h1:0≤w):P2 (v+w)=P2 v*P2 w:=by
 unfold P2
 rw[show(v+w).toNat=v.toNat+w.toNat by omega,Int.pow_add]
def wok(w a:Int):Bool:=decide (1≤w∧w≤8∧0≤a∧a≤P2 w-1)
theorem pO{w a:Int}:wok w a=true ↔ 1≤w∧w≤8∧0≤a∧a≤P2 w-1:=by simp[wok]
theorem e0i{a:Int}(h:(Lit.int .i64 a).wf=true): -9223372036854775808≤a∧a≤9223372036854775807:=by
 have hmin:IntKind.i64.min= -9223372036854775808:=rfl
 have hmax:IntKind.i64.max=9223372036854775807:=rfl
 simp only[Lit.wf,Bool.and_eq_true,decide_eq_true_eq]at h
 omega
theorem kU{x:Int}(h1: -9223372036854775808≤x)(h2:x≤9223372036854775807):wrap64 x=x:=by
 unfold wrap64;omega
theorem b5u(x:Int):IntKind.u64.wrap x=x%18446744073709551616:=by simp[IntKind.wrap,IntKind.bits,IntKind.signed]
theorem a1u{x:Int}(h1:0≤x)(h2:x≤18446744073709551615):IntKind.u64.wrap x=x:=by
 rw[b5u];omega
theorem wU(x:Int):0≤IntKind.u64.wrap x:=by rw[b5u];omega
theorem a8a{a b A B:Int}(ha:0≤a)(hA:a≤A)(hb:0≤b)(hB:b≤B):0≤a*b∧a*b≤A*B :=
 ⟨Int.mul_nonneg ha hb,Int.mul_le_mul hA hB hb (Int.le_trans ha hA)⟩
theorem b9o{a n:Int}(ha:0≤a)(hA:a≤255)(hn:0≤n)(hN:n≤8):shl .i64 a n=a*P2 n:=by
 unfold shl
 have hp:=rM hn hN
 have hb:=a8a ha hA (by omega:0≤P2 n) hp.2
 rw[show min n.toNat IntKind.i64.bits=n.toNat from Nat.min_eq_left (by show n.toNat≤64;omega)]
 show IntKind.i64.wrap (a*P2 n)=_
 rw[IntKind.wrap_i64];omega
theorem a4e{n:Int}(hn:0≤n)(hN:n≤8):shl .i64 1 n=P2 n:=by
 rw[b9o (by omega) (by omega) hn hN,Int.one_mul]
theorem c7c{a n:Int}(hn:0≤n)(hN:n≤8):shr .i64 a n=a / P2 n:=by
 unfold shr
 rw[show min n.toNat IntKind.i64.bits=n.toNat from Nat.min_eq_left (by show n.toNat≤64;omega)]
 rfl
theorem zO{x:Int}(h1: -9223372036854775808≤x)(h2:x≤9223372036854775807) :
  ((BitVec.ofInt 64 x).toNat:Int)=x%18446744073709551616:=by
 simp only[BitVec.toNat_ofInt]
 omega
theorem c3o(x:Int)(w:Nat)(hw:w≤8)(h1: -9223372036854775808≤x)(h2:x≤9223372036854775807) :
  Go.bits .and .i64 x ((2:Int) ^ w-1)=x%(2:Int) ^ w:=by
 have hp:((2:Int) ^ w)=((2 ^ w:Nat):Int):=by simp
 have hle:2 ^ w≤2 ^ 8:=Nat.pow_le_pow_right (by omega) hw
 have hpos:0<2 ^ w:=Nat.two_pow_pos w
 have hm:(BitVec.ofInt 64 ((2:Int) ^ w-1)).toNat=2 ^ w-1:=by
  have:=zO (x:=(2:Int) ^ w-1) (by rw[hp];omega) (by rw[hp];omega)
  rw[hp]at this ⊢
  omega
 have hx:=zO h1 h2
 show IntKind.i64.wrap ((BitVec.ofInt 64 x &&& BitVec.ofInt 64 ((2:Int) ^ w-1)).toNat:Int)=_
 rw[BitVec.toNat_and,hm,Nat.and_two_pow_sub_one_eq_mod,Int.natCast_emod,hx,← hp,IntKind.wrap_i64]
 have hd:(2:Int) ^ w ∣ 18446744073709551616:=by
  have h3:w=0∨w=1∨w=2∨w=3∨w=4∨w=5∨w=6∨w=7∨w=8:=by omega
  rcases h3 with rfl|rfl|rfl|rfl|rfl|rfl|rfl|rfl|rfl<;>decide
 rw[Int.emod_emod_of_dvd _ hd]
 have h4:=Int.emod_nonneg x (show(2:Int) ^ w≠0 by rw[hp];omega)
 have h5:=Int.emod_lt_of_pos x (show(0:Int)<(2:Int) ^ w by rw[hp];omega)
 rw[hp]at *
 omega
theorem d1b{x w:Int}(hw0:0≤w)(hw8:w≤8)(h1: -9223372036854775808≤x)(h2:x≤9223372036854775807) :
  Go.bits .and .i64 x (P2 w-1)=x%P2 w:=c3o x w.toNat (by omega) h1 h2
theorem d5w(a b w:Nat)(hw:w≤8)(ha:a≤255)(hb:b<2 ^ w):Go.bits .or .i64 ((a:Int)*2 ^ w) (b:Int)=(a:Int)*2 ^ w+b:=by
 have hp:((2:Int) ^ w)=((2 ^ w:Nat):Int):=by simp
 have hle:2 ^ w≤2 ^ 8:=Nat.pow_le_pow_right (by omega) hw
 have hab:a*2 ^ w≤255*256:=Nat.mul_le_mul ha hle
 have e1:(a:Int)*(2:Int) ^ w=((a*2 ^ w:Nat):Int):=by rw[hp];simp
 have ha':(BitVec.ofInt 64 (((a*2 ^ w:Nat)):Int)).toNat=a*2 ^ w:=by
  have:=zO (x:=((a*2 ^ w:Nat):Int)) (by omega) (by omega)
  omega
 have hb':(BitVec.ofInt 64 (b:Int)).toNat=b:=by
  have:=zO (x:=(b:Int)) (by omega) (by omega)
  omega
 rw[e1]
 show IntKind.i64.wrap ((BitVec.ofInt 64 _ ||| BitVec.ofInt 64 _).toNat:Int)=_
 rw[BitVec.toNat_or,ha',hb',Nat.mul_comm a,← Nat.two_pow_add_eq_or_of_lt hb,IntKind.wrap_i64,Nat.mul_comm]
 omega
theorem d9k{a b v:Int}(hv0:0≤v)(hv8:v≤8)(ha:0≤a)(hA:a≤255)(hb:0≤b)(hB:b≤P2 v-1) :
  Go.bits .or .i64 (a*P2 v) b=a*P2 v+b:=by
 obtain⟨a,rfl⟩:=Int.eq_ofNat_of_zero_le ha
 obtain⟨b,rfl⟩:=Int.eq_ofNat_of_zero_le hb
 have hlt:b<2 ^ v.toNat:=by
  have:((b:Int))<(2:Int) ^ v.toNat:=by unfold P2 at hB;omega
  exact_mod_cast this
 exact d5w a b v.toNat (by omega) (by omega) hlt
theorem b9s{k:Nat}(h:20≤k) :∃m,k=m+20:=⟨k-20,by omega⟩
end Go.Proofs.YtkpipmojkhikaaaGreat.Base
