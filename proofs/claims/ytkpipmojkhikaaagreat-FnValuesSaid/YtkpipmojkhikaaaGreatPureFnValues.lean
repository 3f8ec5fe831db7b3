/- FnValues: what the printed functions come to, for every input. -/
import Derived.Test.YtkpipmojkhikaaaGreatVValues26
import Derived.Test.YtkpipmojkhikaaaGreatEv
set_option linter.unusedVariables false
set_option linter.unusedSimpArgs false
namespace Go.Proofs.YtkpipmojkhikaaaGreat.Pure.ValuesW
open Go.RowKit Go.Proofs.YtkpipmojkhikaaaGreat.PAll Go.A_ Go.B_ Go.C_ Go.Proofs.YtkpipmojkhikaaaGreat.Base
theorem a9e{w:Int}(h0:0≤w)(h8:w≤8){k:Nat}(hk:20≤k):kY k w=some (P2 w):=by
 obtain⟨m,rfl⟩:=b9s hk
 have:w=0∨w=1∨w=2∨w=3∨w=4∨w=5∨w=6∨w=7∨w=8:=by omega
 rcases this with rfl|rfl|rfl|rfl|rfl|rfl|rfl|rfl|rfl<;>simp[kY,xG,P2,wrap64]
theorem inS(x a b:Int):pX x a b=some (decide (a≤x∧x≤b)):=by
 unfold pX
 by_cases h:x≥a
 ·rw[if_pos h];simp[h]
 ·rw[if_neg h];simp[h]
theorem inI(x a b:Int):qE x a b=some (decide (a≤x∧x≤b)):=by
 unfold qE
 by_cases h:x≥a
 ·rw[if_pos h];simp[h]
 ·rw[if_neg h];simp[h]
theorem c6z(w a:Int){k:Nat}(hk:20≤k):rV k w a=some (wok w a):=by
 unfold rV wok
 rw[inS];simp only[Option.bind_some]
 by_cases h:1≤w∧w≤8
 ·have hp:=rM (by omega:0≤w) h.2
  rw[if_pos (by simp[h]),a9e oM h.2 hk];simp only[Option.bind_some]
  rw[inS,kU oM oM];simp[h]
 ·rw[if_neg (by simp;omega)];simp;omega
theorem c9z(w a:Int):rP w a=some (wok w a):=by
 unfold rP tP wok
 rw[inI];simp only[Option.bind_some]
 by_cases h:1≤w∧w≤8
 ·have hp:=rM (by omega:0≤w) h.2
  rw[if_pos (by simp[h]),if_pos (wU w),a1u oM oM,a4e oM h.2,inI,kU oM oM]
  simp[h]
 ·rw[if_neg (by simp;omega)];simp;omega
theorem c2w(w a b:Int){k:Nat}(hk:20≤k):rN k w a b=some (wok w a&&wok w b):=by
 unfold rN
 rw[c6z w a hk,c6z w b hk];cases wok w a<;>simp
theorem c2x(w a b:Int):uQ w a b=some (wok w a&&wok w b):=by
 unfold uQ
 rw[c9z w a,c9z w b];cases wok w a<;>simp
theorem d6l{w x:Int}(h0:0≤w)(h8:w≤8)(h1: -9223372036854775808≤x)(h2:x≤9223372036854775807):xY w x=some (x%P2 w):=by
 unfold xY
 have hp:=rM h0 h8
 rw[if_pos (wU w),a1u oM oM,a4e h0 h8,kU oM oM,d1b h0 h8 h1 h2]
theorem e0f(w a b:Int){k:Nat}(hk:20≤k):a2e k w a b=some (if(wok w a&&wok w b)=true then(a+b)%P2 w else 0):=by
 unfold a2e
 rw[c2w w a b hk];simp only[Option.bind_some]
 by_cases h:(wok w a&&wok w b)=true
 ·rw[if_pos h,if_pos h]
  obtain⟨ha,hb⟩:=Bool.and_eq_true_iff.mp h
  obtain⟨h1,h8,ha0,hA⟩:=pO.mp ha
  obtain⟨_,_,hb0,hB⟩:=pO.mp hb
  have hp:=rM (by omega:0≤w) h8
  rw[a9e oM h8 hk];simp only[Option.bind_some]
  rw[if_neg oM,kU oM oM,Int.tmod_eq_emod_of_nonneg oM]
 ·rw[if_neg h,if_neg h]
theorem e0g(w a b:Int):a2n w a b=some (if(wok w a&&wok w b)=true then(a+b)%P2 w else 0):=by
 unfold a2n
 rw[c2x w a b];simp only[Option.bind_some]
 by_cases h:(wok w a&&wok w b)=true
 ·rw[if_pos h,if_pos h]
  obtain⟨ha,hb⟩:=Bool.and_eq_true_iff.mp h
  obtain⟨h1,h8,ha0,hA⟩:=pO.mp ha
  obtain⟨_,_,hb0,hB⟩:=pO.mp hb
  have hp:=rM (by omega:0≤w) h8
  rw[kU oM oM,d6l oM h8 oM oM];rfl
 ·rw[if_neg h,if_neg h]
theorem d9s(w a b:Int){k:Nat}(hk:20≤k):a1v k w a b=some (if(wok w a&&wok w b)=true then(a-b)%P2 w else 0):=by
 unfold a1v
 rw[c2w w a b hk];simp only[Option.bind_some]
 by_cases h:(wok w a&&wok w b)=true
 ·rw[if_pos h,if_pos h]
  obtain⟨ha,hb⟩:=Bool.and_eq_true_iff.mp h
  obtain⟨h1,h8,ha0,hA⟩:=pO.mp ha
  obtain⟨_,_,hb0,hB⟩:=pO.mp hb
  have hp:=rM (by omega:0≤w) h8
  rw[a9e oM h8 hk];simp only[Option.bind_some]
  rw[if_neg oM,kU (x:=a+P2 w) oM oM,kU oM oM,Int.tmod_eq_emod_of_nonneg oM,
   show a+P2 w-b=a-b+P2 w by omega,Int.add_emod_right]
 ·rw[if_neg h,if_neg h]
theorem d9t(w a b:Int):a2h w a b=some (if(wok w a&&wok w b)=true then(a-b)%P2 w else 0):=by
 unfold a2h
 rw[c2x w a b];simp only[Option.bind_some]
 by_cases h:(wok w a&&wok w b)=true
 ·rw[if_pos h,if_pos h]
  obtain⟨ha,hb⟩:=Bool.and_eq_true_iff.mp h
  obtain⟨h1,h8,ha0,hA⟩:=pO.mp ha
  obtain⟨_,_,hb0,hB⟩:=pO.mp hb
  have hp:=rM (by omega:0≤w) h8
  rw[kU oM oM,d6l oM h8 oM oM];rfl
 ·rw[if_neg h,if_neg h]
theorem e0b(w a b:Int){k:Nat}(hk:20≤k):a2c k w a b=some (if(wok w a&&wok w b)=true then(a*b)%P2 w else 0):=by
 unfold a2c
 rw[c2w w a b hk];simp only[Option.bind_some]
 by_cases h:(wok w a&&wok w b)=true
 ·rw[if_pos h,if_pos h]
  obtain⟨ha,hb⟩:=Bool.and_eq_true_iff.mp h
  obtain⟨h1,h8,ha0,hA⟩:=pO.mp ha
  obtain⟨_,_,hb0,hB⟩:=pO.mp hb
  have hp:=rM (by omega:0≤w) h8
  have hm:=a8a ha0 (by omega:a≤255) hb0 (by omega:b≤255)
  rw[a9e oM h8 hk];simp only[Option.bind_some]
  rw[if_neg oM,kU oM oM,Int.tmod_eq_emod_of_nonneg oM]
 ·rw[if_neg h,if_neg h]
theorem e0c(w a b:Int):a2l w a b=some (if(wok w a&&wok w b)=true then(a*b)%P2 w else 0):=by
 unfold a2l
 rw[c2x w a b];simp only[Option.bind_some]
 by_cases h:(wok w a&&wok w b)=true
 ·rw[if_pos h,if_pos h]
  obtain⟨ha,hb⟩:=Bool.and_eq_true_iff.mp h
  obtain⟨h1,h8,ha0,hA⟩:=pO.mp ha
  obtain⟨_,_,hb0,hB⟩:=pO.mp hb
  have hp:=rM (by omega:0≤w) h8
  have hm:=a8a ha0 (by omega:a≤255) hb0 (by omega:b≤255)
  rw[kU oM oM,d6l oM h8 oM oM];rfl
 ·rw[if_neg h,if_neg h]
theorem e0d(w a b:Int){k:Nat}(hk:20≤k):a2d k w a b=some (if(wok w a&&wok w b)=true then(if b=0 then P2 w-1 else a / b)else 0):=by
 unfold a2d
 rw[c2w w a b hk];simp only[Option.bind_some]
 by_cases h:(wok w a&&wok w b)=true
 ·rw[if_pos h,if_pos h]
  obtain⟨ha,hb⟩:=Bool.and_eq_true_iff.mp h
  obtain⟨h1,h8,ha0,hA⟩:=pO.mp ha
  obtain⟨_,_,hb0,hB⟩:=pO.mp hb
  have hp:=rM (by omega:0≤w) h8
  by_cases h0:b=0
  ·rw[if_pos h0,if_pos h0,a9e oM h8 hk];simp only[Option.bind_some]
   rw[kU oM oM]
  ·rw[if_neg h0,if_neg h0]
   have hq:0≤a / b∧a / b≤a:=⟨Int.ediv_nonneg ha0 hb0,Int.ediv_le_self _ ha0⟩
   try rw[if_neg h0]
   rw[Int.tdiv_eq_ediv_of_nonneg ha0,kU oM oM]
 ·rw[if_neg h,if_neg h]
theorem e0e(w a b:Int):a2m w a b=some (if(wok w a&&wok w b)=true then(if b=0 then P2 w-1 else a / b)else 0):=by
 unfold a2m
 rw[c2x w a b];simp only[Option.bind_some]
 by_cases h:(wok w a&&wok w b)=true
 ·rw[if_pos h,if_pos h]
  obtain⟨ha,hb⟩:=Bool.and_eq_true_iff.mp h
  obtain⟨h1,h8,ha0,hA⟩:=pO.mp ha
  obtain⟨_,_,hb0,hB⟩:=pO.mp hb
  have hp:=rM (by omega:0≤w) h8
  by_cases h0:b=0
  ·rw[if_pos h0,if_pos h0]
   try rw[if_pos (wU w)]
   rw[a1u oM oM,a4e oM h8,kU oM oM]
  ·rw[if_neg h0,if_neg h0]
   have hq:0≤a / b∧a / b≤a:=⟨Int.ediv_nonneg ha0 hb0,Int.ediv_le_self _ ha0⟩
   try rw[if_neg h0]
   rw[Int.tdiv_eq_ediv_of_nonneg ha0,kU oM oM]
 ·rw[if_neg h,if_neg h]
theorem d9y(w a b:Int){k:Nat}(hk:20≤k):a2b k w a b=some (if(wok w a&&wok w b)=true then(if b=0 then a else a%b)else 0):=by
 unfold a2b
 rw[c2w w a b hk];simp only[Option.bind_some]
 by_cases h:(wok w a&&wok w b)=true
 ·rw[if_pos h,if_pos h]
  obtain⟨ha,hb⟩:=Bool.and_eq_true_iff.mp h
  obtain⟨h1,h8,ha0,hA⟩:=pO.mp ha
  obtain⟨_,_,hb0,hB⟩:=pO.mp hb
  have hp:=rM (by omega:0≤w) h8
  by_cases h0:b=0
  ·rw[if_pos h0,if_pos h0]
  ·rw[if_neg h0,if_neg h0]
   try rw[if_neg h0]
   rw[Int.tmod_eq_emod_of_nonneg ha0]
 ·rw[if_neg h,if_neg h]
theorem d9z(w a b:Int):a2k w a b=some (if(wok w a&&wok w b)=true then(if b=0 then a else a%b)else 0):=by
 unfold a2k
 rw[c2x w a b];simp only[Option.bind_some]
 by_cases h:(wok w a&&wok w b)=true
 ·rw[if_pos h,if_pos h]
  obtain⟨ha,hb⟩:=Bool.and_eq_true_iff.mp h
  obtain⟨h1,h8,ha0,hA⟩:=pO.mp ha
  obtain⟨_,_,hb0,hB⟩:=pO.mp hb
  have hp:=rM (by omega:0≤w) h8
  by_cases h0:b=0
  ·rw[if_pos h0,if_pos h0]
  ·rw[if_neg h0,if_neg h0]
   try rw[if_neg h0]
   rw[Int.tmod_eq_emod_of_nonneg ha0]
 ·rw[if_neg h,if_neg h]
theorem d9u(w a b:Int){k:Nat}(hk:20≤k):a1w k w a b=some (if(wok w a&&wok w b)=true then(if b≥w then 0 else a / P2 b)else 0):=by
 unfold a1w
 rw[c2w w a b hk];simp only[Option.bind_some]
 by_cases h:(wok w a&&wok w b)=true
 ·rw[if_pos h,if_pos h]
  obtain⟨ha,hb⟩:=Bool.and_eq_true_iff.mp h
  obtain⟨h1,h8,ha0,hA⟩:=pO.mp ha
  obtain⟨_,_,hb0,hB⟩:=pO.mp hb
  have hp:=rM (by omega:0≤w) h8
  by_cases hw:b≥w
  ·rw[if_pos hw,if_pos hw]
  ·have hpb:=rM hb0 (by omega:b≤8)
   have hq:0≤a / P2 b∧a / P2 b≤a:=⟨Int.ediv_nonneg ha0 oM,Int.ediv_le_self _ ha0⟩
   rw[if_neg hw,if_neg hw,a9e hb0 oM hk];simp only[Option.bind_some]
   rw[if_neg oM,Int.tdiv_eq_ediv_of_nonneg ha0,kU oM oM]
 ·rw[if_neg h,if_neg h]
theorem d9v(w a b:Int):a2i w a b=some (if(wok w a&&wok w b)=true then(if b≥w then 0 else a / P2 b)else 0):=by
 unfold a2i
 rw[c2x w a b];simp only[Option.bind_some]
 by_cases h:(wok w a&&wok w b)=true
 ·rw[if_pos h,if_pos h]
  obtain⟨ha,hb⟩:=Bool.and_eq_true_iff.mp h
  obtain⟨h1,h8,ha0,hA⟩:=pO.mp ha
  obtain⟨_,_,hb0,hB⟩:=pO.mp hb
  have hp:=rM (by omega:0≤w) h8
  by_cases hw:b≥w
  ·rw[if_pos hw,if_pos hw]
  ·rw[if_neg hw,if_neg hw,if_pos (wU b),a1u oM oM,c7c hb0 oM]
 ·rw[if_neg h,if_neg h]
theorem d9w(w a b:Int){k:Nat}(hk:21≤k):a1x k w a b=some (if(wok w a&&wok w b)=true then(if b≥w then 0 else(a*P2 b)%P2 w)else 0):=by
 unfold a1x
 obtain⟨k,rfl⟩ :∃m,k=m+1:=⟨k-1,oM⟩
 rw[c2w w a b oM];simp only[Option.bind_some,a0w]
 by_cases h:(wok w a&&wok w b)=true
 ·rw[if_pos h,if_pos h]
  obtain⟨ha,hb⟩:=Bool.and_eq_true_iff.mp h
  obtain⟨h1,h8,ha0,hA⟩:=pO.mp ha
  obtain⟨_,_,hb0,hB⟩:=pO.mp hb
  have hp:=rM (by omega:0≤w) h8
  by_cases hw:b≥w
  ·rw[if_pos (by simpa using hw),if_pos hw]
  ·have hpb:=rM hb0 (by omega:b≤8)
   have hm:=a8a ha0 (by omega:a≤255) (by omega:0≤P2 b) (by omega:P2 b≤256)
   rw[if_neg (by simpa using hw),if_neg hw,a9e hb0 oM oM,a9e oM h8 oM];simp only[Option.bind_some]
   rw[if_neg oM,kU oM oM,Int.tmod_eq_emod_of_nonneg oM]
 ·rw[if_neg h,if_neg h];rfl
theorem d9x(w a b:Int):a2j w a b=some (if(wok w a&&wok w b)=true then(if b≥w then 0 else(a*P2 b)%P2 w)else 0):=by
 unfold a2j
 rw[c2x w a b];simp only[Option.bind_some]
 by_cases h:(wok w a&&wok w b)=true
 ·rw[if_pos h,if_pos h]
  obtain⟨ha,hb⟩:=Bool.and_eq_true_iff.mp h
  obtain⟨h1,h8,ha0,hA⟩:=pO.mp ha
  obtain⟨_,_,hb0,hB⟩:=pO.mp hb
  have hp:=rM (by omega:0≤w) h8
  by_cases hw:b≥w
  ·rw[if_pos hw,if_pos hw]
  ·have hpb:=rM hb0 (by omega:b≤8)
   have hm:=a8a ha0 (by omega:a≤255) (by omega:0≤P2 b) (by omega:P2 b≤256)
   rw[if_neg hw,if_neg hw,if_pos (wU b),a1u oM oM,b9o ha0 oM hb0 oM,d6l oM h8 oM oM];rfl
 ·rw[if_neg h,if_neg h]
theorem d8r(w a:Int){k:Nat}(hk:20≤k):a0y k w a=some (if wok w a=true then P2 w-1-a else 0):=by
 unfold a0y
 rw[c6z w a hk];simp only[Option.bind_some]
 by_cases ha:wok w a=true
 ·rw[if_pos ha,if_pos ha]
  obtain⟨h1,h8,ha0,hA⟩:=pO.mp ha
  have hp:=rM (by omega:0≤w) h8
  rw[a9e oM h8 hk];simp only[Option.bind_some]
  rw[kU (x:=P2 w-1) oM oM,kU oM oM]
 ·rw[if_neg ha,if_neg ha]
theorem d8s(w a:Int):a1f w a=some (if wok w a=true then P2 w-1-a else 0):=by
 unfold a1f
 rw[c9z w a];simp only[Option.bind_some]
 by_cases ha:wok w a=true
 ·rw[if_pos ha,if_pos ha]
  obtain⟨h1,h8,ha0,hA⟩:=pO.mp ha
  have hp:=rM (by omega:0≤w) h8
  rw[if_pos (wU w),a1u oM oM,a4e oM h8,kU (x:=P2 w-1) oM oM,kU oM oM]
 ·rw[if_neg ha,if_neg ha]
theorem c2b(w a:Int){k:Nat}(hk:20≤k):xU k w a=some (if wok w a=true then(if a≥P2 (w-1)then a-P2 w else a)else 0):=by
 unfold xU
 rw[c6z w a hk];simp only[Option.bind_some]
 by_cases ha:wok w a=true
 ·rw[if_pos ha,if_pos ha]
  obtain⟨h1,h8,ha0,hA⟩:=pO.mp ha
  have hp:=rM (by omega:0≤w) h8
  have hq:=rM (by omega:0≤w-1) oM
  rw[kU (x:=w-1) oM oM,a9e oM oM hk,a9e oM h8 hk];simp only[Option.bind_some]
  by_cases hs:a≥P2 (w-1)
  ·rw[if_pos hs,if_pos hs,kU oM oM]
  ·rw[if_neg hs,if_neg hs]
 ·rw[if_neg ha,if_neg ha]
theorem c2c(w a:Int):xZ w a=some (if wok w a=true then(if a≥P2 (w-1)then a-P2 w else a)else 0):=by
 unfold xZ
 rw[c9z w a];simp only[Option.bind_some]
 by_cases ha:wok w a=true
 ·rw[if_pos ha,if_pos ha]
  obtain⟨h1,h8,ha0,hA⟩:=pO.mp ha
  have hp:=rM (by omega:0≤w) h8
  have hq:=rM (by omega:0≤w-1) oM
  rw[if_pos (wU _),kU (x:=w-1) oM oM,a1u (x:=w-1) oM oM,a1u (x:=w) oM oM,a4e oM oM,a4e oM h8]
  by_cases hs:a≥P2 (w-1)
  ·rw[if_pos hs,if_pos hs,if_pos oM,kU oM oM]
  ·rw[if_neg hs,if_neg hs]
 ·rw[if_neg ha,if_neg ha]
theorem c1w(b:Bool):tM b=some (if b=true then 1 else 0):=by
 unfold tM;cases b<;>simp
theorem d6m(b:Bool):vZ b=some (if b=true then 1 else 0):=by
 unfold vZ;cases b<;>simp
theorem d8o(w a b:Int){k:Nat}(hk:20≤k):a0x k w a b=some (if(wok w a&&wok w b)=true∧a<b then 1 else 0):=by
 unfold a0x
 rw[c2w w a b hk];simp only[Option.bind_some]
 by_cases h:(wok w a&&wok w b)=true
 ·rw[if_pos h,c1w];simp only[Option.bind_some];by_cases hl:a<b<;>simp[h,hl]
 ·rw[if_neg h,c1w];simp only[Option.bind_some];simp[h]
theorem d8p(w a b:Int):a1e w a b=some (if(wok w a&&wok w b)=true∧a<b then 1 else 0):=by
 unfold a1e
 rw[c2x w a b];simp only[Option.bind_some]
 by_cases h:(wok w a&&wok w b)=true
 ·rw[if_pos h,d6m];simp only[Option.bind_some];by_cases hl:a<b<;>simp[h,hl]
 ·rw[if_neg h,d6m];simp only[Option.bind_some];simp[h]
theorem b4u(w a b:Int){k:Nat}(hk:20≤k):vY k w a b=some (if(wok w a&&wok w b)=true∧(if wok w a=true then(if a≥P2 (w-1)then a-P2 w else a)else 0)<(if wok w b=true then(if b≥P2 (w-1)then b-P2 w else b)else 0)then 1 else 0):=by
 unfold vY
 rw[c2w w a b hk,c2b w a hk,c2b w b hk];simp only[Option.bind_some]
 by_cases h:(wok w a&&wok w b)=true
 ·rw[if_pos h,c1w];simp only[Option.bind_some,decide_eq_true_eq,h,true_and]
 ·rw[if_neg h,c1w];simp only[Option.bind_some];rw[if_neg (by simp),if_neg (fun z=>h z.1)]
theorem b4v(w a b:Int):wC w a b=some (if(wok w a&&wok w b)=true∧(if wok w a=true then(if a≥P2 (w-1)then a-P2 w else a)else 0)<(if wok w b=true then(if b≥P2 (w-1)then b-P2 w else b)else 0)then 1 else 0):=by
 unfold wC
 rw[c2x w a b,c2c w a,c2c w b];simp only[Option.bind_some]
 by_cases h:(wok w a&&wok w b)=true
 ·rw[if_pos h,d6m];simp only[Option.bind_some,decide_eq_true_eq,h,true_and]
 ·rw[if_neg h,d6m];simp only[Option.bind_some];rw[if_neg (by simp),if_neg (fun z=>h z.1)]
theorem d6o(w a l n:Int)(hl1: -9223372036854775808≤l)(hl2:l≤9223372036854775807){k:Nat}(hk:21≤k):zV k w a l n=some (if wok w a=true∧0≤l∧1≤n∧n≤w-l then a / P2 l%P2 n else 0):=by
 unfold zV
 obtain⟨k,rfl⟩ :∃m,k=m+1:=⟨k-1,oM⟩
 rw[c6z w a oM];simp only[Option.bind_some,xT]
 by_cases ha:wok w a=true
 ·rw[if_pos ha]
  obtain⟨h1,h8,ha0,hA⟩:=pO.mp ha
  have hp:=rM (by omega:0≤w) h8
  by_cases hl:l<0
  ·rw[if_pos hl,if_pos trivial,if_neg oM]
  ·rw[if_neg hl,inS,kU oM oM];simp only[Option.bind_some]
   by_cases hn:1≤n∧n≤w-l
   ·have hpl:=rM (by omega:0≤l) (by omega:l≤8)
    have hpn:=rM (by omega:0≤n) (by omega:n≤8)
    have hq:0≤a / P2 l∧a / P2 l≤a:=⟨Int.ediv_nonneg ha0 oM,Int.ediv_le_self _ ha0⟩
    rw[if_neg (by simpa using hn),if_pos ⟨ha,oM,hn.1,hn.2⟩,a9e oM oM oM,a9e oM oM oM];simp only[Option.bind_some]
    rw[if_neg oM,if_neg oM,Int.tdiv_eq_ediv_of_nonneg ha0,kU oM oM,Int.tmod_eq_emod_of_nonneg oM]
   ·rw[if_pos (by simp;omega),if_neg oM]
 ·rw[if_neg ha,if_pos trivial,if_neg (fun z=>ha z.1)]
theorem d6p(w a l n:Int)(hn1: -9223372036854775808≤n)(hn2:n≤9223372036854775807):a0c w a l n=some (if wok w a=true∧0≤l∧1≤n∧n≤w-l then a / P2 l%P2 n else 0):=by
 unfold a0c
 rw[c9z w a];simp only[Option.bind_some]
 by_cases ha:wok w a=true
 ·rw[if_pos ha,inI];simp only[Option.bind_some]
  obtain⟨h1,h8,ha0,hA⟩:=pO.mp ha
  have hp:=rM (by omega:0≤w) h8
  by_cases hn:1≤n∧n≤w
  ·rw[if_pos (by simpa using hn),inI,kU oM oM];simp only[Option.bind_some]
   by_cases hl:0≤l∧l≤w-n
   ·have hpl:=rM (by omega:0≤l) (by omega:l≤8)
    have hpn:=rM (by omega:0≤n) (by omega:n≤8)
    have hq:0≤a / P2 l∧a / P2 l≤a:=⟨Int.ediv_nonneg ha0 oM,Int.ediv_le_self _ ha0⟩
    rw[if_pos (by simpa using hl),if_pos (wU l),a1u oM oM,c7c oM oM,d6l oM oM oM oM,if_pos ⟨ha,oM,oM,oM⟩]
    rfl
   ·rw[if_neg (by simpa using hl),if_neg oM]
  ·rw[if_neg (by simpa using hn),if_neg oM]
 ·rw[if_neg ha,if_neg (fun z=>ha z.1)]
def Cur(l:List Int)(i:Int):Prop:=0≤i∧i≤(l.length:Int)∧(l.length:Int)≤140737488351232
theorem b6j(x:Int):0≤Go.bits .and .i64 x 255∧Go.bits .and .i64 x 255≤255:=by
 have hm:(BitVec.ofInt 64 (255:Int)).toNat=255:=by decide
 have hle:((BitVec.ofInt 64 x).toNat &&& 255)≤255:=Nat.and_le_right
 have e:Go.bits .and .i64 x 255=IntKind.i64.wrap (((BitVec.ofInt 64 x).toNat &&& 255:Nat):Int):=by
  show IntKind.i64.wrap ((BitVec.ofInt 64 x &&& BitVec.ofInt 64 (255:Int)).toNat:Int)=_
  rw[BitVec.toNat_and,hm]
 rw[e,IntKind.wrap_i64]
 omega
theorem a3l(l:List Int)(i h:Int)(hc:Cur l i) :∃x i' h',tL l i h=some (x,i',h')∧0≤x∧x≤255∧Cur l i':=by
 unfold tL
 obtain⟨h0,h1,h2⟩:=hc
 by_cases hi:i<(l.length:Int)
 ·rw[if_pos hi,if_pos h0]
  exact⟨_,_,_,rfl,(b6j _).1,(b6j _).2,by rw[kU oM oM];exact⟨oM,oM,h2⟩⟩
 ·rw[if_neg hi]
  exact⟨_,_,_,rfl,(b6j _).1,(b6j _).2,h0,h1,h2⟩
theorem qV(l:List Int)(i h n:Int)(hc:Cur l i) :∃x i' h',kV l i h n=some (x,i',h')∧0≤x∧(n≤0→x=0)∧(0<n→x<n)∧Cur l i':=by
 unfold kV
 by_cases h0:n≤0
 ·rw[if_pos h0]
  exact⟨0,i,h,rfl,oM,fun _=>rfl,fun _=>by omega,hc⟩
 ·rw[if_neg h0]
  by_cases h1:n≤256
  ·rw[if_pos h1]
   obtain⟨x,i1,h2,e,b0,b1,c1⟩:=a3l l i h hc
   rw[e];simp only[Option.bind_some]
   rw[if_neg oM]
   refine⟨_,_,_,rfl,?_,oM,fun _=>?_,c1⟩
   ·exact Int.tmod_nonneg _ b0
   ·rw[Int.tmod_eq_emod_of_nonneg b0];exact Int.emod_lt_of_pos _ oM
  ·rw[if_neg h1]
   obtain⟨x,i1,z1,e1,b0,b1,c1⟩:=a3l l i h hc
   rw[e1];simp only[Option.bind_some]
   obtain⟨y,i2,z2,e2,d0,d1,c2⟩:=a3l l i1 z1 c1
   rw[e2];simp only[Option.bind_some]
   obtain⟨z,i3,z3,e3,f0,f1,c3⟩:=a3l l i2 z2 c2
   rw[e3];simp only[Option.bind_some]
   obtain⟨v,i4,z4,e4,g0,g1,c4⟩:=a3l l i3 z3 c3
   rw[e4];simp only[Option.bind_some]
   rw[if_neg oM,kU (x:=x*16777216) oM oM,kU (x:=y*65536) oM oM,kU (x:=x*16777216+y*65536) oM oM,kU (x:=z*256) oM oM,kU (x:=x*16777216+y*65536+z*256) oM oM,kU oM oM]
   refine⟨_,_,_,rfl,?_,oM,fun _=>?_,c4⟩
   ·exact Int.tmod_nonneg _ oM
   ·rw[Int.tmod_eq_emod_of_nonneg oM];exact Int.emod_lt_of_pos _ oM
theorem a1b(l:List Int)(i h n:Int)(hc:Cur l i) :∃b i' h',rT l i h n=some (b,i',h')∧Cur l i':=by
 unfold rT
 obtain⟨x,i1,h1,e,_,_,_,c⟩:=qV l i h n hc
 rw[e];exact⟨_,_,_,rfl,c⟩
theorem a5y(l:List Int)(i h:Int)(xs:List Int)(hx:xs≠[])(hc:Cur l i) :∃x i' h',uO l i h xs=some (x,i',h')∧x∈xs∧Cur l i':=by
 unfold uO
 have hl:0<(xs.length:Int):=by have:=List.length_pos_iff.mpr hx;omega
 obtain⟨x,i1,h1,e,x0,_,x1,c⟩:=qV l i h (xs.length:Int) hc
 rw[e];simp only[Option.bind_some]
 have hlt:=x1 hl
 rw[if_pos x0,if_pos hlt]
 refine⟨_,_,_,rfl,?_,c⟩
 unfold rd
 rw[List.getD_eq_getElem?_getD,List.getElem?_eq_getElem oM]
 exact List.getElem_mem _
def d2h(op w a b:Int):Int :=
 if op=3 then Go.bits .and .i64 a b else if op=4 then Go.bits .or .i64 a b else if op=5 then Go.bits .xor .i64 a b
 else if op=6 then(if(wok w a&&wok w b)=true then(a+b)%P2 w else 0)
 else if op=7 then(if(wok w a&&wok w b)=true then(a-b)%P2 w else 0)
 else if op=8 then(if(wok w a&&wok w b)=true then(a*b)%P2 w else 0)
 else if op=9 then(if(wok w a&&wok w b)=true then(if b=0 then P2 w-1 else a / b)else 0)
 else if op=10 then(if(wok w a&&wok w b)=true then(if b=0 then a else a%b)else 0)
 else if op=11 then(if(wok w a&&wok w b)=true then(if b≥w then 0 else(a*P2 b)%P2 w)else 0)
 else(if(wok w a&&wok w b)=true then(if b≥w then 0 else a / P2 b)else 0)
def d7o(w a b:Int):Int:=if(wok w a&&wok w b)=true∧a<b then 1 else 0
def d5j(w a b:Int):Int:=if(wok w a&&wok w b)=true∧(if wok w a=true then(if a≥P2 (w-1)then a-P2 w else a)else 0)<(if wok w b=true then(if b≥P2 (w-1)then b-P2 w else b)else 0)then 1 else 0
def c7b(w a l n:Int):Int:=if wok w a=true∧0≤l∧1≤n∧n≤w-l then a / P2 l%P2 n else 0
def d0c(w a:Int):Int:=if wok w a=true then P2 w-1-a else 0
def b1q(W w a b c:Int):Prop:=(1≤W∧W≤8)∧(1≤w∧w≤8)∧(0≤a∧a≤255)∧(0≤b∧b≤255)∧(0≤c∧c≤255)
instance (W w a b c:Int):Decidable (b1q W w a b c):=by unfold b1q;infer_instance
def c2k(op W K w a b c:Int):Int :=
 if op=0 then K else if op=2 then d0c W a else if 3≤op∧op≤12 then d2h op W a b
 else if op=13 then(if a=b then 1 else 0)else if op=14 then d7o w a b else if op=15 then d5j w a b
 else if op=16 then(if W<w then b else a*P2 (W-w)+b)
 else if op=17 then c7b w a K W
 else if op=18 then(if a=1 then b else c)else 0
def xA(op W K w a b c:Int):Int:=if b1q W w a b c then c2k op W K w a b c else 0
theorem c1y(op W K A B C w a b c:Int)(h:b1q W w a b c)(hk1: -9223372036854775808≤K)(hk2:K≤9223372036854775807){k:Nat}(hk:40≤k) :
  sO k w a b c false op W K A B C=some (c2k op W K w a b c):=by
 obtain⟨k,rfl⟩ :∃m,k=m+1:=⟨k-1,oM⟩
 obtain⟨⟨W1,W8⟩,⟨w1,w8⟩,⟨a0,a1⟩,⟨b0,b1⟩,c0,c1⟩:=h
 simp only[sO]
 rw[if_neg (by simp)]
 unfold c2k
 by_cases h0:op=0
 ·rw[if_pos h0,if_pos h0]
 rw[if_neg h0,if_neg h0]
 by_cases h2:op=2
 ·rw[if_pos h2,if_pos h2,d8r _ _ oM];rfl
 rw[if_neg h2,if_neg h2]
 by_cases hb:3≤op∧op≤12
 ·rw[if_pos hb]
  have hc:op=3∨op=4∨op=5∨op=6∨op=7∨op=8∨op=9∨op=10∨op=11∨op=12:=by omega
  rw[e0f _ _ _ oM,d9s _ _ _ oM,e0b _ _ _ oM,e0d _ _ _ oM,d9y _ _ _ oM,d9w _ _ _ oM,d9u _ _ _ oM]
  rcases hc with rfl|rfl|rfl|rfl|rfl|rfl|rfl|rfl|rfl|rfl<;>simp[d2h]
 rw[if_neg (by omega :¬op=3),if_neg (by omega :¬op=4),if_neg (by omega :¬op=5),if_neg (by omega :¬op=6),if_neg (by omega :¬op=7),if_neg (by omega :¬op=8),if_neg (by omega :¬op=9),if_neg (by omega :¬op=10),if_neg (by omega :¬op=11),if_neg (by omega :¬op=12),if_neg hb]
 by_cases h13:op=13
 ·rw[if_pos h13,if_pos h13,c1w];simp
 rw[if_neg h13,if_neg h13]
 by_cases h14:op=14
 ·rw[if_pos h14,if_pos h14,d8o _ _ _ oM];rfl
 rw[if_neg h14,if_neg h14]
 by_cases h15:op=15
 ·rw[if_pos h15,if_pos h15,b4u _ _ _ oM];rfl
 rw[if_neg h15,if_neg h15]
 by_cases h16:op=16
 ·rw[if_pos h16,if_pos h16]
  by_cases hw:W<w
  ·rw[if_pos hw,if_pos hw]
  ·have hp:=rM (by omega:0≤W-w) oM
   have hm:=a8a a0 a1 (by omega:0≤P2 (W-w)) hp.2
   rw[if_neg hw,if_neg hw,kU (x:=W-w) oM oM,a9e oM oM oM]
   simp only[Option.bind_some]
   rw[kU (x:=a*P2 (W-w)) oM oM,kU oM oM]
 rw[if_neg h16,if_neg h16]
 by_cases h17:op=17
 ·rw[if_pos h17,if_pos h17,d6o _ _ _ _ hk1 hk2 oM];rfl
 rw[if_neg h17,if_neg h17]
 by_cases h18:op=18
 ·rw[if_pos h18,if_pos h18];by_cases h1:a=1<;>simp[h1]
 rw[if_neg h18,if_neg h18]
theorem b3n(op W K A B C w a b c:Int){k:Nat}(hk:1≤k):sO k w a b c true op W K A B C=some 0:=by
 obtain⟨k,rfl⟩ :∃m,k=m+1:=⟨k-1,oM⟩
 simp only[sO,if_true]
theorem d7e(op W K A B C w a b c:Int)(hk1: -9223372036854775808≤K)(hk2:K≤9223372036854775807){k:Nat}(hk:40≤k) :
  zX k op W K A B C w a b c=some (xA op W K w a b c):=by
 unfold zX xA
 simp only[inS,Option.bind_some,decide_eq_true_eq,b3n op W K A B C w a b c (by omega:1≤k)]
 by_cases h:b1q W w a b c
 ·rw[if_pos h]
  have h':=h
  obtain⟨hW,hw,ha,hb,hc⟩:=h'
  simp only[hW,hw,ha,hb,hc,and_self,if_true,decide_true,Bool.not_true]
  exact c1y op W K A B C w a b c h hk1 hk2 hk
 ·rw[if_neg h]
  unfold b1q at h
  by_cases hW:1≤W∧W≤8
  ·rw[if_pos hW]
   by_cases hw:1≤w∧w≤8
   ·rw[if_pos hw]
    by_cases ha:0≤a∧a≤255
    ·rw[if_pos ha]
     by_cases hb:0≤b∧b≤255
     ·rw[if_pos hb]
      have hc :¬(0≤c∧c≤255):=fun hc=>h ⟨hW,hw,ha,hb,hc⟩
      rw[decide_eq_false hc]
      exact b3n op W K A B C w a b c oM
     ·rw[if_neg hb]
    ·rw[if_neg ha]
   ·rw[if_neg hw]
  ·rw[if_neg hW]
theorem d9q(op w a b:Int)(h:3≤op∧op≤12):zI op w a b=some (d2h op w a b):=by
 unfold zI
 have hc:op=3∨op=4∨op=5∨op=6∨op=7∨op=8∨op=9∨op=10∨op=11∨op=12:=by omega
 rw[e0g,d9t,e0c,e0e,d9z,d9x,d9v]
 rcases hc with rfl|rfl|rfl|rfl|rfl|rfl|rfl|rfl|rfl|rfl<;>simp[d2h]
theorem b3p(op W K A B C b c:Int)(x:Bool){k:Nat}(hk:1≤k):yB k b c x op W K A B C=some (if x=true then b else if op=18 then c else 0):=by
 obtain⟨k,rfl⟩ :∃m,k=m+1:=⟨k-1,oM⟩
 simp only[yB]
 cases x<;>simp
 by_cases h:op=18<;>simp[h]
theorem c1z(op W K A B C w a b c:Int)(h:b1q W w a b c){k:Nat}(hk:40≤k) :
  sT k w a b c false op W K A B C=some (c2k op W K w a b c):=by
 obtain⟨k,rfl⟩ :∃m,k=m+2:=⟨k-2,oM⟩
 obtain⟨⟨W1,W8⟩,⟨w1,w8⟩,⟨a0,a1⟩,⟨b0,b1⟩,c0,c1⟩:=h
 simp only[sT,zJ]
 rw[if_neg (by simp)]
 unfold c2k
 by_cases h0:op=0
 ·rw[if_pos h0,if_pos h0]
 rw[if_neg h0,if_neg h0]
 by_cases h2:op=2
 ·rw[if_pos h2,if_pos h2,d8s];rfl
 rw[if_neg h2,if_neg h2,inI]
 simp only[Option.bind_some,decide_eq_true_eq]
 by_cases hb:3≤op∧op≤12
 ·rw[if_pos hb,if_pos hb,d9q _ _ _ _ hb];rfl
 rw[if_neg hb,if_neg hb]
 by_cases h13:op=13
 ·rw[if_pos h13,if_pos h13,d6m];simp
 rw[if_neg h13,if_neg h13]
 by_cases h14:op=14
 ·rw[if_pos h14,if_pos h14,d8p];rfl
 rw[if_neg h14,if_neg h14]
 by_cases h15:op=15
 ·rw[if_pos h15,if_pos h15,b4v];rfl
 rw[if_neg h15,if_neg h15]
 by_cases h16:op=16
 ·rw[if_pos h16,if_pos h16,if_pos h16]
  by_cases hw:W<w
  ·rw[if_pos hw,if_pos hw]
  ·have hp:=rM (by omega:0≤W-w) oM
   have hm:=a8a a0 a1 (by omega:0≤P2 (W-w)) hp.2
   rw[if_neg hw,if_neg hw,kU (x:=W-w) oM oM,if_pos (wU _),a1u oM oM,b9o a0 a1 oM oM,kU oM oM]
 rw[if_neg h16,if_neg h16,if_neg h16,if_neg (by simp)]
 by_cases h17:op=17
 ·rw[if_pos h17,if_pos h17,d6p _ _ _ _ oM oM];rfl
 rw[if_neg h17,if_neg h17]
 by_cases h18:op=18
 ·rw[if_pos h18,if_pos h18,b3p _ _ _ _ _ _ _ _ _ oM];by_cases h1:a=1<;>simp[h1,h18]
 rw[if_neg h18,if_neg h18,b3p _ _ _ _ _ _ _ _ _ oM];simp[h18]
theorem b3o(op W K A B C w a b c:Int){k:Nat}(hk:1≤k):sT k w a b c true op W K A B C=some 0:=by
 obtain⟨k,rfl⟩ :∃m,k=m+1:=⟨k-1,oM⟩
 simp only[sT,if_true]
theorem d7f(op W K A B C w a b c:Int){k:Nat}(hk:40≤k) :
  a0e k op W K A B C w a b c=some (xA op W K w a b c):=by
 unfold a0e tP xX xA
 simp only[inI,Option.bind_some,decide_eq_true_eq,b3o op W K A B C w a b c (by omega:1≤k)]
 by_cases h:b1q W w a b c
 ·rw[if_pos h]
  have h':=h
  obtain⟨hW,hw,ha,hb,hc⟩:=h'
  simp only[hW,hw,ha,hb,hc,and_self,if_true,decide_true,Bool.not_true]
  exact c1z op W K A B C w a b c h hk
 ·rw[if_neg h]
  unfold b1q at h
  by_cases hW:1≤W∧W≤8
  ·rw[if_pos hW]
   by_cases hw:1≤w∧w≤8
   ·rw[if_pos hw]
    by_cases ha:0≤a∧a≤255
    ·rw[if_pos ha]
     by_cases hb:0≤b∧b≤255
     ·rw[if_pos hb]
      have hc :¬(0≤c∧c≤255):=fun hc=>h ⟨hW,hw,ha,hb,hc⟩
      rw[decide_eq_false hc]
      exact b3o op W K A B C w a b c oM
     ·rw[if_neg hb]
    ·rw[if_neg ha]
   ·rw[if_neg hw]
  ·rw[if_neg hW]
theorem a5z(op w q a b c:Int){k:Nat}(hk:1≤k):sZ k op w q a b c=some (kL op a b c):=by
 obtain⟨k,rfl⟩ :∃m,k=m+1:=⟨k-1,oM⟩
 unfold sZ kL
 simp only[wK,inS]
 by_cases h2:op=2
 ·subst h2;simp
 ·by_cases h17:op=17
  ·subst h17;simp
  ·by_cases h19:op=19
   ·subst h19;simp
   ·by_cases h20:op=20
    ·subst h20;simp
    ·have hq :¬(op=2∨op=17∨op=19∨op=20):=by omega
     rw[if_neg h2,if_neg h17,if_neg h19,if_neg (by simpa using h20),if_neg hq]
     simp only[Option.bind_some,decide_eq_true_eq]
     by_cases h3:3≤op∧op≤16
     ·rw[if_pos h3,if_pos h3]
     ·rw[if_neg h3,if_neg h3]
      by_cases h18:op=18
      ·rw[if_pos h18,if_pos h18]
      ·rw[if_neg h18,if_neg h18]
theorem rdN(l:List S31)(i:Nat)(h:i<l.length):kA l (i:Int)=l[i]:=by
 unfold kA
 rw[Int.toNat_natCast,List.getD_eq_getElem?_getD,List.getElem?_eq_getElem h];rfl
theorem rdI(l:List Int)(i:Nat)(h:i<l.length):rd l (i:Int)=l[i]:=by simp[rd,h]
theorem qL{x a b:Int}:inB x a b=true ↔ a≤x∧x≤b:=by simp[inB]
theorem d2i(x a b:Int):pX x a b=some (inB x a b):=inS x a b
theorem d0y(l:List S31)(i:Int)(hi0:0≤i)(hi1:i≤9223372036854775807)(ps:List Int)(hps:ps.length≤3)(n0 n1 n2 n3 n4 n5:Int)(r:Bool)
  (h1:(∀p∈ps,inB p 0 (i-1)=true)→Ev (fun k=>tS k l i ps (ps.length:Int) n0 n1 n2 n3 n4 n5) r) (h2:(¬∀p∈ps,inB p 0 (i-1)=true)→r=false) (d:Nat) :
  ∀j:Nat,j+d=ps.length→(∀t:Nat,t<j→inB (rd ps (t:Int)) 0 (i-1)=true)→Ev (fun k=>tS k l i ps (j:Int) n0 n1 n2 n3 n4 n5) r:=by
 induction d with
 | zero =>
  intro j hj hA
  obtain rfl:j=ps.length:=by omega
  refine h1 fun p hp=>?_
  obtain⟨t,ht,rfl⟩:=List.getElem_of_mem hp
  rw[← rdI ps t ht];exact hA t ht
 | succ d ih =>
  intro j hj hA
  have hlt:j<ps.length:=by omega
  refine kS ?_
  simp only[tS]
  refine kD oM (kD oM (qA (d2i _ _ _) ?_))
  rw[kU (x:=i-1) oM oM]
  by_cases hb:inB (rd ps (j:Int)) 0 (i-1)=true
  ·refine kD hb ?_
   rw[kU oM oM]
   refine ih (j+1) oM fun t ht=>?_
   rcases Nat.lt_or_ge t j with h|h
   ·exact hA t h
   ·obtain rfl:t=j:=by omega
    exact hb
  ·refine kN hb ?_
   rw[h2 fun h=>hb (by rw[rdI ps j hlt];exact h _ (List.getElem_mem hlt))]
   exact pZ
theorem d0x(l:List S31)(hl:l.length≤4611686018427387904)(ps:List Int)(hps:ps.length≤3)(hp :∀p∈ps,0≤p∧p<(l.length:Int))(n0 n1 n2 n3 n4 n5:Int)(r:Bool)
  (h:Ev (fun k=>sL k l ps (ps.map fun p=>(kA l p).f1) (ps.length:Int) n0 n1 n2 n3 n4 n5) r) (d:Nat) :
  ∀j:Nat,j+d=ps.length→Ev (fun k=>sL k l ps ((ps.take j).map fun p=>(kA l p).f1) (j:Int) n0 n1 n2 n3 n4 n5) r:=by
 induction d with
 | zero =>
  intro j hj
  obtain rfl:j=ps.length:=by omega
  rw[List.take_of_length_le oM];exact h
 | succ d ih =>
  intro j hj
  have hlt:j<ps.length:=by omega
  have hq:=hp _ (List.getElem_mem hlt)
  refine kS ?_
  simp only[sL]
  rw[rdI ps j hlt]
  refine kD oM (kD oM (kD hq.1 (kD hq.2 (kD (by simp;omega) ?_))))
  rw[wS j]
  have:=ih (j+1) oM
  rwa [List.take_succ_eq_append_getElem hlt,List.map_append]at this
theorem a5r(l:List S31)(i:Nat)(p:Int)(h0:0≤p)(h1:p<i):kA (l.take i) p=kA l p:=by
 unfold kA
 rw[List.getD_eq_getElem?_getD,List.getD_eq_getElem?_getD,List.getElem?_take,if_pos oM]
theorem d7p(l:List S31)(ps ws:List Int)(op W K A B C:Int)(hps:ps=kL op A B C)(hws:ws.length=ps.length) :
  Ev (fun k=>sL k l ps ws (ps.length:Int) op W K A B C) (inB op 0 20&&xE op K A B C&&pG op W K B (ws.getD 0 0) (ws.getD 1 0) (ws.getD 2 0)):=by
 have hl:=qF op A B C
 refine a1h 60 fun k hk=>?_
 obtain⟨k,rfl⟩ :∃m,k=m+2:=⟨k-2,oM⟩
 simp only[sL]
 rw[if_neg oM,c6z _ _ oM,d2i,d2i,d2i]
 simp only[Option.bind_some,xF,d2i]
 have rd0:rd ws 0=ws.getD 0 0:=rfl
 have rd1:rd ws 1=ws.getD 1 0:=rfl
 have rd2:rd ws 2=ws.getD 2 0:=rfl
 rw[rd0,rd1,rd2]
 generalize ws.getD 0 0=u
 generalize ws.getD 1 0=v
 generalize ws.getD 2 0=x
 by_cases h0:op=0
 ·subst h0;simp[inB,xE,pG];by_cases g:wok W K=true<;>by_cases a:A=0<;>by_cases b:B=0<;>simp[g,a,b]
 rw[if_neg h0]
 by_cases h1:op=1
 ·subst h1;by_cases g:inB K 0 7=true<;>by_cases a:A=0<;>by_cases b:B=0<;>simp[xE,pG,g,a,b,qL.mpr (show(0:Int)≤1∧(1:Int)≤20 by omega)]
 rw[if_neg h1]
 by_cases h2:op=2
 ·subst h2
  have hn:(0:Int)<(ws.length:Int):=by rw[hws,hps];simp[kL]
  rw[if_pos rfl,if_pos hn]
  by_cases a:u=W<;>by_cases b:K=0<;>by_cases c:B=0<;>simp[inB,xE,pG,a,b,c]
 rw[if_neg h2]
 by_cases h3:3≤op∧op≤12
 ·have e:ps=[A,B]:=by rw[hps];unfold kL;rw[if_neg oM,if_pos oM]
  have hn:ws.length=2:=by rw[hws,e];rfl
  rw[if_pos (qL.mpr h3),if_pos oM,if_pos (c:=(1:Int)<_) oM]
  have hu:xE op K A B C=(K==0&&C==0):=by unfold xE;rw[if_neg oM,if_neg oM,if_neg oM,if_neg oM,if_pos oM]
  have hr:pG op W K B u v x=(u==W&&v==W):=by unfold pG;rw[if_neg oM,if_neg oM,if_neg oM,if_pos oM]
  rw[hu,hr,qL.mpr (show 0≤op∧op≤20 by omega)]
  by_cases a:u=W<;>by_cases b:K=0<;>by_cases c:v=W<;>simp[a,b,c]
 rw[if_neg (fun h=>h3 (qL.mp h))]
 by_cases h4:13≤op∧op≤15
 ·have e:ps=[A,B]:=by rw[hps];unfold kL;rw[if_neg oM,if_pos oM]
  have hn:ws.length=2:=by rw[hws,e];rfl
  rw[if_pos (qL.mpr h4),if_pos oM,if_pos (c:=(1:Int)<_) oM]
  have hu:xE op K A B C=(K==0&&C==0):=by unfold xE;rw[if_neg oM,if_neg oM,if_neg oM,if_neg oM,if_pos oM]
  have hr:pG op W K B u v x=(u==v&&W==1):=by unfold pG;rw[if_neg oM,if_neg oM,if_neg oM,if_neg oM,if_pos oM]
  rw[hu,hr,qL.mpr (show 0≤op∧op≤20 by omega)]
  by_cases a:u=v<;>by_cases b:K=0<;>by_cases c:W=1<;>simp[a,b,c]
 rw[if_neg (fun h=>h4 (qL.mp h))]
 by_cases h16:op=16
 ·subst h16
  have hn:ws.length=2:=by rw[hws,hps];rfl
  rw[if_pos rfl,if_pos oM,if_pos (c:=(1:Int)<_) oM]
  by_cases a:wrap64 (u+v)=W<;>by_cases b:K=0<;>simp[inB,xE,pG,a,b]
 rw[if_neg h16]
 by_cases h17:op=17
 ·subst h17
  have hn:ws.length=1:=by rw[hws,hps];rfl
  rw[if_pos rfl,if_pos (c:=(0:Int)<_) oM]
  by_cases a:0≤K<;>by_cases b:K≤wrap64 (u-W)<;>by_cases c:B=0<;>simp[inB,xE,pG,a,b,c]
 rw[if_neg h17]
 by_cases h18:op=18
 ·subst h18
  have hn:ws.length=3:=by rw[hws,hps];rfl
  rw[if_pos rfl,if_pos (c:=(0:Int)<_) oM,if_pos (c:=(1:Int)<_) oM,if_pos (c:=(2:Int)<_) oM]
  by_cases a:u=1<;>by_cases b:v=W<;>by_cases c:x=W<;>simp[inB,xE,pG,a,b,c]
 rw[if_neg h18]
 by_cases h19:op=19
 ·subst h19
  have hn:ws.length=1:=by rw[hws,hps];rfl
  rw[if_pos rfl,if_pos trivial,if_pos (c:=(0:Int)<_) oM]
  by_cases a:inB K 0 7=true<;>by_cases b:inB B 1 8=true<;>by_cases c:u=1<;>by_cases d:W=1<;>simp[xE,pG,a,b,c,d,qL.mpr (show(0:Int)≤19∧(19:Int)≤20 by omega)]
 rw[if_neg h19]
 by_cases h20:op=20
 ·subst h20
  have hn:ws.length=1:=by rw[hws,hps];rfl
  rw[if_pos (by rfl),if_pos (c:=(0:Int)<_) oM]
  by_cases a:inB K 0 7=true<;>by_cases b:inB B 1 8=true<;>by_cases c:u=1<;>by_cases d:W=1<;>simp[xE,pG,a,b,c,d,qL.mpr (show(0:Int)≤20∧(20:Int)≤20 by omega)]
 rw[if_neg (by simpa using h20)]
 have hn:inB op 0 20=false:=by simp[inB];omega
 simp[hn]
theorem d0z(l:List S31)(hl:l.length≤4611686018427387904)(i:Nat)(hi:i<l.length):Ev (fun k=>yH k l (i:Int)) (tG (l.take i) (kA l i).f0 (kA l i).f1 (kA l i).f2 (kA l i).f3 (kA l i).f4 (kA l i).f5):=by
 unfold yH
 refine kD oM (kD oM (kP (a1h 1 fun k hk=>a5z _ _ _ _ _ _ hk) ?_))
 generalize (kA l i).f0=op
 generalize (kA l i).f1=W
 generalize (kA l i).f2=K
 generalize (kA l i).f3=A
 generalize (kA l i).f4=B
 generalize (kA l i).f5=C
 have hlen:=qF op A B C
 have htk:((l.take i).length:Int)=i:=by rw[List.length_take];omega
 refine d0y l i oM oM _ hlen op W K A B C _ (fun hall=>?_) (fun hn=>?_) _ 0 (Nat.zero_add _) (fun t ht=>absurd ht oM)
 ·refine kS ?_
  simp only[tS]
  refine kN oM (qA (d2i _ _ _) ?_)
  have hall':(kL op A B C).all (fun p=>inB p 0 (((l.take i).length:Int)-1))=true:=by rw[htk];exact List.all_eq_true.mpr hall
  unfold tG
  rw[hall']
  by_cases hw:inB W 1 8=true
  ·refine kD hw ?_
   rw[hw]
   have hwv :∀t:Nat,wv (l.take i) (kL op A B C) (kL op A B C).length t=((kL op A B C).map fun p=>(kA l p).f1).getD t 0:=by
    intro t
    unfold wv
    by_cases ht:t<(kL op A B C).length
    ·rw[if_pos ht,rdI _ t ht,List.getD_eq_getElem?_getD,List.getElem?_map,List.getElem?_eq_getElem ht]
     have:=qL.mp (hall _ (List.getElem_mem ht))
     rw[a5r l i _ this.1 oM];rfl
    ·rw[if_neg ht,List.getD_eq_getElem?_getD,List.getElem?_eq_none (by simp;omega)];rfl
   rw[hwv,hwv,hwv]
   simp only[Bool.true_and,Bool.and_true]
   exact d0x l hl _ hlen (fun p hp=>by have:=qL.mp (hall p hp);omega) op W K A B C _ (d7p l _ _ op W K A B C rfl (by simp)) _ 0 (Nat.zero_add _)
  ·have hw':inB W 1 8=false:=by simpa using hw
   refine kN hw ?_
   rw[hw'];simp only[Bool.false_and];exact pZ
 ·unfold tG
  have hnot:(kL op A B C).all (fun p=>inB p 0 (((l.take i).length:Int)-1))=false:=by
   rw[htk]
   cases e:(kL op A B C).all (fun p=>inB p 0 ((i:Int)-1))with
   | false=>rfl
   | true=>exact absurd (List.all_eq_true.mp e) hn
  rw[hnot];simp
def a2s(l:List S31)(i:Nat):Bool:=tG (l.take i) (kA l i).f0 (kA l i).f1 (kA l i).f2 (kA l i).f3 (kA l i).f4 (kA l i).f5
def pL(l:List S31):Prop :=∀i<l.length,a2s l i=true
def zQ(l:List S31):Prop:=1≤l.length∧l.length≤80∧pL l
theorem b6p(l:List S31)(hl:l.length≤80)(d:Nat) :∀i:Nat,i+d=l.length→∃r,Ev (fun k=>uM k l (i:Int)) r∧Ev (fun k=>uN k l l (l.length:Int) (i:Int)) r∧(r=true ↔ ∀j<l.length,i≤j→a2s l j=true):=by
 induction d with
 | zero =>
  intro i hi
  refine⟨true,kS ?_,kS ?_,by simp;intro j h1 h2;omega⟩
  ·simp only[uM];exact kN oM pZ
  ·simp only[uN];exact kN oM pZ
 | succ d ih =>
  intro i hi
  have hlt:i<l.length:=by omega
  obtain⟨r,e1,e2,h⟩:=ih (i+1) oM
  have hn:=d0z l oM i hlt
  by_cases hb:a2s l i=true
  ·refine⟨r,kS ?_,kS ?_,?_⟩
   ·simp only[uM]
    refine kD oM (kP hn (kD hb ?_))
    rw[wS i];exact e1
   ·simp only[uN]
    refine kD oM (kD oM (kD oM (kD oM (qA rfl (kD hb ?_)))))
    rw[wS i];exact e2
   ·rw[h]
    constructor
    ·intro hh j h1 h2
     rcases Nat.lt_or_ge i j with h3|h3
     ·exact hh j h1 h3
     ·obtain rfl:i=j:=by omega
      exact hb
    ·intro hh j h1 h2
     exact hh j h1 oM
  ·refine⟨false,kS ?_,kS ?_,?_⟩
   ·simp only[uM]
    exact kD oM (kP hn (kN hb pZ))
   ·simp only[uN]
    exact kD oM (kD oM (kD oM (kD oM (qA rfl (kN hb pZ)))))
   ·simp only[Bool.false_eq_true,false_iff]
    intro hh
    exact hb (hh i hlt oM)
theorem a7q(l:List S31) :∃r,Ev (fun k=>tN k l) r∧Ev (fun k=>uG k l) r∧(r=true ↔ zQ l):=by
 by_cases hb:1≤(l.length:Int)∧(l.length:Int)≤80
 ·obtain⟨r,e1,e2,h⟩:=b6p l oM l.length 0 oM
  refine⟨r,?_,?_,?_⟩
  ·unfold tN;exact qA (inS _ _ _) (kD (by simpa using hb) e1)
  ·unfold uG;exact qA (inI _ _ _) (kD (by simpa using hb) e2)
  ·rw[h];unfold zQ pL
   constructor
   ·intro hh;exact⟨oM,oM,fun i hi=>hh i hi oM⟩
   ·intro hh j h1 _;exact hh.2.2 j h1
 ·refine⟨false,?_,?_,?_⟩
  ·unfold tN;exact qA (inS _ _ _) (kN (by simpa using hb) pZ)
  ·unfold uG;exact qA (inI _ _ _) (kN (by simpa using hb) pZ)
  ·simp only[Bool.false_eq_true,false_iff];unfold zQ;omega
def pl(l:List S31)(i:Nat):List Int:=kL (kA l i).f0 (kA l i).f3 (kA l i).f4 (kA l i).f5
def qX(l:List S31):Prop :=∀i<l.length,∀p∈pl l i,0≤p∧p<(i:Int)
theorem pP{l:List S31}(h:pL l):qX l:=by
 intro i hi p hp
 have hb:=h i hi
 unfold a2s tG at hb
 simp only[Bool.and_eq_true]at hb
 have:=qL.mp (List.all_eq_true.mp hb.1.2 p hp)
 rw[List.length_take]at this
 omega
def yQ(met:List Bool)(ps:List Int):List Bool:=ps.foldl (fun m p=>m.set p.toNat true) met
theorem a3q(ps:List Int) :∀met:List Bool,(yQ met ps).length=met.length:=by
 induction ps with
 | nil=>intro met;rfl
 | cons p ps ih=>intro met;show(yQ (met.set p.toNat true) ps).length=_;rw[ih,List.length_set]
def zM(pb:Nat→Bool)(l:List S31)(j:Nat)(met:List Bool):List Bool:=if met.getD j false=true∧pb j=true then yQ met (pl l j)else met
def rgo(pb:Nat→Bool)(l:List S31):Nat→List Bool→List Bool
 | 0,met=>met
 | j+1,met=>rgo pb l j (zM pb l j met)
theorem a7s(pb:Nat→Bool)(l:List S31)(j:Nat)(met:List Bool):(zM pb l j met).length=met.length:=by
 unfold zM;split
 ·rw[a3q]
 ·rfl
theorem d0p(pb:Nat→Bool)(l:List S31)(j:Nat) :∀met,(rgo pb l j met).length=met.length:=by
 induction j with
 | zero=>intro met;rfl
 | succ j ih=>intro met;show(rgo pb l j _).length=_;rw[ih,a7s]
def xC(pb:Nat→Bool)(l:List S31)(root:Nat):List Bool:=rgo pb l (root+1) ((List.replicate l.length false).set root true)
theorem xW(pb:Nat→Bool)(l:List S31)(root:Nat):(xC pb l root).length=l.length:=by unfold xC;rw[d0p];simp
theorem rdB(l:List Bool)(i:Nat)(h:i<l.length):wH false l (i:Int)=l[i]:=by
 unfold wH
 rw[Int.toNat_natCast,List.getD_eq_getElem?_getD,List.getElem?_eq_getElem h];rfl
theorem gdB(l:List Bool)(i:Nat)(h:i<l.length):l.getD i false=l[i]:=by
 rw[List.getD_eq_getElem?_getD,List.getElem?_eq_getElem h];rfl
theorem a7u(ps:List Int)(t:Nat)(h:t<ps.length)(met:List Bool):yQ met (ps.drop t)=yQ (met.set (rd ps (t:Int)).toNat true) (ps.drop (t+1)):=by
 rw[List.drop_eq_getElem_cons h,rdI ps t h];rfl
theorem c0d(pf:Int→Option Bool)(l:List S31)(x8:Int)(ps:List Int)(hps:ps.length≤3)(hp :∀p∈ps,0≤p∧p<(l.length:Int))(R:List Bool)(d:Nat) :∀(t:Nat) (met:List Bool),t+d=ps.length→met.length=l.length→
  Ev (fun k=>tO pf k l (yQ met (ps.drop t)) (wrap64 (x8-1))) R→Ev (fun k=>wL pf k l met x8 ps (ps.length:Int) (t:Int)) R:=by
 induction d with
 | zero =>
  intro t met ht hm h
  refine kS ?_
  simp only[wL]
  refine kN oM ?_
  rw[List.drop_eq_nil_of_le oM]at h
  exact h
 | succ d ih =>
  intro t met ht hm h
  have hlt:t<ps.length:=by omega
  have hq:=hp _ (List.getElem_mem hlt)
  refine kS ?_
  simp only[wL]
  rw[a7u ps t hlt]at h
  refine kD oM (kD oM (kD oM (kD (by rw[rdI ps t hlt];exact hq.1) (kD (by rw[rdI ps t hlt];omega) ?_))))
  rw[wS t]
  exact ih (t+1) _ oM (by rw[List.length_set];exact hm) h
theorem c0e(pf:Int→Option Bool)(pb:Nat→Bool)(l:List S31)(hl:l.length≤4611686018427387904)(hP:qX l)(hpf :∀i:Nat,i<l.length→pf (i:Int)=some (pb i))(j:Nat) :∀met:List Bool,j≤l.length→met.length=l.length→
  Ev (fun k=>tO pf k l met ((j:Int)-1)) (rgo pb l j met):=by
 induction j with
 | zero =>
  intro met hj hm
  refine kS ?_
  simp only[tO]
  exact kN oM pZ
 | succ j ih =>
  intro met hj hm
  have hlt:j<met.length:=by omega
  rw[show((j+1:Nat):Int)-1=(j:Int) by omega]
  show Ev _ (rgo pb l j (zM pb l j met))
  refine kS ?_
  simp only[tO]
  refine kD oM (kD oM (kD oM ?_))
  rw[rdB met j hlt]
  have jump :∀met':List Bool,met'.length=l.length→Ev (fun k=>tO pf k l met' (wrap64 ((j:Int)-1))) (rgo pb l j met'):=by
   intro met' hm'
   rw[kU oM oM]
   exact ih met' oM hm'
  by_cases hb:met[j]=true
  ·refine kD hb (qA (hpf j oM) ?_)
   by_cases hq:pb j=true
   ·have hs:zM pb l j met=yQ met (pl l j):=by unfold zM;rw[if_pos ⟨by rw[gdB met j hlt];exact hb,hq⟩]
    rw[hq,hs]
    refine kS ?_
    simp only[wM]
    refine kN (by decide) (kD oM (kD oM (kP (a1h 1 fun k hk=>a6a _ _ _ _ _ _ hk) ?_)))
    have h0:=c0d pf l (j:Int) (pl l j) (qF _ _ _ _) (fun p hp=>by have:=hP j oM p hp;omega) (rgo pb l j (yQ met (pl l j))) (pl l j).length 0 met oM hm (jump _ (by rw[List.drop_zero,a3q];exact hm))
    exact h0
   ·have hq':pb j=false:=by simpa using hq
    have hs:zM pb l j met=met:=by unfold zM;rw[if_neg (fun h=>hq h.2)]
    rw[hq',hs]
    refine kS ?_
    simp only[wM]
    exact kD rfl (jump met hm)
  ·have hs:zM pb l j met=met:=by unfold zM;rw[if_neg (fun h=>hb (by rw[← gdB met j hlt];exact h.1))]
   rw[hs]
   refine kN hb ?_
   refine kS ?_
   simp only[wM]
   exact kD trivial (jump met hm)
theorem b0z(pf:Int→Option Bool)(pb:Nat→Bool)(l:List S31)(hl:l.length≤281474976710656)(hP:qX l)(hpf :∀i:Nat,i<l.length→pf (i:Int)=some (pb i))(root:Nat)(hr:root<l.length) :
  Ev (fun k=>xH pf k l (root:Int)) (xC pb l root):=by
 unfold xH
 refine kD oM (kD oM (qA rfl (kD oM (kD (by simp;omega) ?_))))
 have:=c0e pf pb l oM hP hpf (root+1) ((List.replicate l.length false).set root true) oM (by simp)
 rw[show((root+1:Nat):Int)-1=(root:Int) by omega]at this
 rw[Int.toNat_natCast,Int.toNat_natCast]
 exact this
theorem a5q(l:List S31)(hl:l.length≤281474976710656)(h0:1≤l.length)(hP:qX l):Ev (fun k=>vR k l) (xC (fun _=>true) l (l.length-1)):=by
 unfold vR
 rw[kU oM oM,show(l.length:Int)-1=((l.length-1:Nat):Int) by omega]
 exact kP (b0z a0h (fun _=>true) l hl hP (fun i _=>rfl) (l.length-1) oM) pZ
theorem c0a(l:List S31)(i:Nat)(hi:i<l.length)(ps:List Int)(hps:ps.length≤3)(hp :∀p∈ps,0≤p∧p<(l.length:Int))(R:List Bool)(d:Nat) :∀(t:Nat) (met:List Bool),t+d=ps.length→met.length=l.length→met.getD i false=true→
  Ev (fun k=>rJ k l (yQ met (ps.drop t)) (wrap64 ((i:Int)-1))) R→Ev (fun k=>sU k l met (i:Int) ps (t:Int)) R:=by
 induction d with
 | zero =>
  intro t met ht hm hb h
  refine kS ?_
  simp only[sU]
  refine kN oM ?_
  rw[List.drop_eq_nil_of_le oM]at h
  exact h
 | succ d ih =>
  intro t met ht hm hb h
  have hlt:t<ps.length:=by omega
  have hq:=hp _ (List.getElem_mem hlt)
  have him:i<met.length:=by omega
  refine kS ?_
  simp only[sU]
  rw[a7u ps t hlt]at h
  refine kD oM (kD oM (kD oM (kD (by rw[rdB met i him,← gdB met i him];exact hb) (kD oM (kD (by rw[rdI ps t hlt];exact hq.1) (kD (by rw[rdI ps t hlt];omega) ?_))))))
  rw[wS t]
  refine ih (t+1) _ oM (by rw[List.length_set];exact hm) ?_ h
  rw[gdB _ i (by rw[List.length_set];exact him),List.getElem_set]
  split
  ·rfl
  ·rw[← gdB met i him];exact hb
theorem c0b(l:List S31)(hl:l.length≤4611686018427387904)(hP:qX l)(j:Nat) :∀met:List Bool,j≤l.length→met.length=l.length→Ev (fun k=>rJ k l met ((j:Int)-1)) (rgo (fun _=>true) l j met):=by
 induction j with
 | zero =>
  intro met hj hm
  refine kS ?_
  simp only[rJ]
  exact kN oM pZ
 | succ j ih =>
  intro met hj hm
  have hlt:j<met.length:=by omega
  rw[show((j+1:Nat):Int)-1=(j:Int) by omega]
  show Ev _ (rgo _ l j (zM _ l j met))
  have jump :∀met':List Bool,met'.length=l.length→Ev (fun k=>rJ k l met' (wrap64 ((j:Int)-1))) (rgo (fun _=>true) l j met'):=by
   intro met' hm'
   rw[kU oM oM]
   exact ih met' oM hm'
  refine kS ?_
  simp only[rJ]
  refine kD oM (kD oM (kD oM (kP (a1h 1 fun k hk=>a5z _ _ _ _ _ _ hk) ?_)))
  by_cases hb:met.getD j false=true
  ·have hs:zM (fun _=>true) l j met=yQ met (pl l j):=by unfold zM;rw[if_pos ⟨hb,rfl⟩]
   rw[hs]
   exact c0a l j oM (pl l j) (qF _ _ _ _) (fun p hp=>by have:=hP j oM p hp;omega) (rgo _ l j (yQ met (pl l j))) (pl l j).length 0 met oM hm hb (jump _ (by rw[List.drop_zero,a3q];exact hm))
  ·have hs:zM (fun _=>true) l j met=met:=by unfold zM;rw[if_neg (fun h=>hb h.1)]
   rw[hs]
   refine kS ?_
   simp only[sU]
   by_cases h0:(0:Int)<((pl l j).length:Int)
   ·refine kD h0 (kD oM (kD oM (kN ?_ (jump met hm))))
    rw[rdB met j hlt,← gdB met j hlt];exact hb
   ·exact kN h0 (jump met hm)
theorem c0c(l:List S31)(hl:l.length≤1048576)(hP:qX l)(d:Nat) :∀i:Nat,i+d=l.length→
  Ev (fun k=>tX k l ((List.range i).map fun t:Nat=>((t:Int)==(l.length:Int)-1)) (i:Int)) (rgo (fun _=>true) l l.length ((List.range l.length).map fun t:Nat=>((t:Int)==(l.length:Int)-1))):=by
 induction d with
 | zero =>
  intro i hi
  obtain rfl:i=l.length:=by omega
  refine kS ?_
  simp only[tX]
  refine kN oM ?_
  rw[kU oM oM]
  exact c0b l oM hP l.length _ (Nat.le_refl _) (by simp)
 | succ d ih =>
  intro i hi
  refine kS ?_
  simp only[tX]
  refine kD oM (kD (by rw[List.length_map,List.length_range];omega) ?_)
  rw[kU (x:=(l.length:Int)-1) oM oM,wS i]
  have:=ih (i+1) oM
  rwa [List.range_succ,List.map_append]at this
theorem a8d(l:List S31)(hl:l.length≤1048576)(h0:1≤l.length)(hP:qX l):Ev (fun k=>vU k l) (xC (fun _=>true) l (l.length-1)):=by
 unfold vU xC
 have:=c0c l hl hP l.length 0 oM
 rw[show l.length-1+1=l.length by omega]
 have e:(List.replicate l.length false).set (l.length-1) true=(List.range l.length).map fun t:Nat=>((t:Int)==(l.length:Int)-1):=by
  apply List.ext_getElem
  ·simp
  ·intro t h1 h2
   rw[List.getElem_set,List.getElem_map,List.getElem_range]
   by_cases c:l.length-1=t
   ·rw[if_pos c];symm;simp;omega
   ·rw[if_neg c,List.getElem_replicate];symm;simp;simp at h2;omega
 rw[e]
 exact this
theorem d8v(a b c d e f:Int):rK a b c d e f=some ((a==19) || (a==20)):=by
 unfold rK
 by_cases h:a=19
 ·rw[if_pos h];simp[h]
 ·rw[if_neg h];simp[h]
theorem d1h(a:Int):rH a=some ((a==19) || (a==20)):=by
 unfold rH
 by_cases h:a=19
 ·rw[if_pos h];simp[h]
 ·rw[if_neg h];simp[h]
def d8w(l:List S31)(i:Nat):Bool:=((kA l i).f0==19) || ((kA l i).f0==20)
def d7g(l:List S31)(v:Int)(i:Nat):Bool:=((kA l i).f0==1)&&((kA l i).f2==v)
def d1z(l:List S31)(v:Int)(i:Nat):Bool:=d8w l i&&((kA l i).f2==v)
def c1u(l:List S31)(T:List (List Bool))(i v:Nat):Bool :=
 if d1z l v i=true then false else(d7g l v i || (pl l i).any fun p=>(T.getD p.toNat []).getD v false)
def FT(l:List S31):Nat→List (List Bool)
 | 0=>[]
 | i+1=>FT l i++[(List.range 8).map (c1u l (FT l i) i)]
theorem b3t(l:List S31)(i:Nat):(FT l i).length=i:=by
 induction i with
 | zero=>rfl
 | succ i ih=>simp[FT,ih]
theorem d7c(l:List S31)(i:Nat) :∀r∈FT l i,r.length=8:=by
 induction i with
 | zero=>intro r hr;simp[FT]at hr
 | succ i ih =>
  intro r hr
  simp only[FT,List.mem_append,List.mem_singleton]at hr
  rcases hr with hr|rfl
  ·exact ih r hr
  ·simp
theorem d7d(l:List S31)(n:Nat) :∀i<n,(FT l n).getD i []=(List.range 8).map (c1u l (FT l i) i):=by
 induction n with
 | zero=>intro i hi;omega
 | succ n ih =>
  intro i hi
  rw[FT,List.getD_eq_getElem?_getD]
  by_cases h:i<n
  ·rw[List.getElem?_append_left (by rw[b3t];exact h),← List.getD_eq_getElem?_getD];exact ih i h
  ·obtain rfl:i=n:=by omega
   rw[List.getElem?_append_right (by rw[b3t];exact Nat.le_refl _),b3t,Nat.sub_self];rfl
theorem l2F(l:List S31)(i:Nat)(hi:i<l.length)(hl:l.length≤80)(T:List (List Bool))(hT:T.length=i)(hR :∀r∈T,r.length=8)(row:List Bool)(v:Nat)(hv:v<8)(hrow:row.length=v)(ps:List Int)(hps:ps.length≤3)(hp :∀p∈ps,0≤p∧p<(i:Int))(R:List Bool)(d:Nat) :
  ∀(t:Nat) (x7:Bool),t+d=ps.length→
  Ev (fun k=>qQ k l T (i:Int) (row++[if d1z l v i=true then false else(x7 || (ps.drop t).any fun p=>(T.getD p.toNat []).getD v false)]) (wrap64 ((v:Int)+1))) R→
  Ev (fun k=>tU k l T (i:Int) row (v:Int) x7 ps (t:Int)) R:=by
 induction d with
 | zero =>
  intro t x7 ht h
  rw[List.drop_eq_nil_of_le oM]at h
  simp only[List.any_nil,Bool.or_false]at h
  refine kS ?_
  simp only[tU]
  refine kN oM (kD oM (kD oM ?_))
  unfold d1z d8w at h
  by_cases a:(kA l i).f0=19
  ·refine kD a ?_
   by_cases b:(kA l i).f2=(v:Int)
   ·rw[if_pos (by simp[a,b])]at h
    exact kD b (kD oM h)
   ·rw[if_neg (by simp[a,b])]at h
    exact kN b (kD oM h)
  ·refine kN a ?_
   by_cases a2:(kA l i).f0=20
   ·refine kD a2 ?_
    by_cases b:(kA l i).f2=(v:Int)
    ·rw[if_pos (by simp[a2,b])]at h
     exact kD b (kD oM h)
    ·rw[if_neg (by simp[a2,b])]at h
     exact kN b (kD oM h)
   ·rw[if_neg (by simp[a,a2])]at h
    exact kN a2 (kD oM h)
 | succ d ih =>
  intro t x7 ht h
  have hlt:t<ps.length:=by omega
  have hq:=hp _ (List.getElem_mem hlt)
  rw[List.drop_eq_getElem_cons hlt,List.any_cons,← Bool.or_assoc]at h
  refine kS ?_
  simp only[tU]
  refine kD oM ?_
  rw[wS t,rdI ps t hlt]
  by_cases hx:x7=true
  ·rw[hx,Bool.true_or]at h
   exact kD hx (ih (t+1) true oM h)
  ·have hx':x7=false:=by simpa using hx
   rw[hx',Bool.false_or]at h
   have hr:(T.getD ps[t].toNat []).length=8:=by
    rw[List.getD_eq_getElem?_getD,List.getElem?_eq_getElem oM]
    exact hR _ (List.getElem_mem _)
   refine kN hx (kD oM (kD hq.1 (kD oM (kD oM (kD ?_ ?_)))))
   ·show(v:Int)<((T.getD ps[t].toNat []).length:Int);omega
   ·refine ih (t+1) _ oM ?_
    exact h
theorem l1F(l:List S31)(i:Nat)(hi:i<l.length)(hl:l.length≤80)(hP:qX l)(T:List (List Bool))(hT:T.length=i)(hR :∀r∈T,r.length=8)(R:List Bool)
  (h:Ev (fun k=>tV k l (T++[(List.range 8).map (c1u l T i)]) (wrap64 ((i:Int)+1))) R) (d:Nat) :
  ∀v:Nat,v+d=8→Ev (fun k=>qQ k l T (i:Int) ((List.range v).map (c1u l T i)) (v:Int)) R:=by
 induction d with
 | zero =>
  intro v hv
  obtain rfl:v=8:=by omega
  refine kS ?_
  simp only[qQ]
  exact kN oM (kD oM h)
 | succ d ih =>
  intro v hv
  refine kS ?_
  simp only[qQ]
  have go :∀x7:Bool,x7=d7g l v i→Ev (fun k=>vW k l T (i:Int) ((List.range v).map (c1u l T i)) (v:Int) x7) R:=by
   rintro x7 rfl
   refine kS ?_
   simp only[vW]
   refine kD oM (kD oM (kP (a1h 1 fun k hk=>a5z _ _ _ _ _ _ hk) ?_))
   refine l2F l i hi hl T hT hR _ v oM (by simp) (pl l i) (qF _ _ _ _) (hP i hi) R (pl l i).length 0 _ oM ?_
   have:=ih (v+1) oM
   rw[List.range_succ,List.map_append]at this
   rw[wS v]
   exact this
  refine kD oM (kD oM (kD oM ?_))
  by_cases a:(kA l i).f0=1
  ·exact kD a (go _ (by unfold d7g;simp[a]))
  ·exact kN a (go _ (by unfold d7g;simp[a]))
theorem l0F(l:List S31)(hl:l.length≤80)(h0:1≤l.length)(hP:qX l)(d:Nat) :∀i:Nat,i+d=l.length→Ev (fun k=>tV k l (FT l i) (i:Int)) ((FT l l.length).getD (l.length-1) []):=by
 induction d with
 | zero =>
  intro i hi
  obtain rfl:i=l.length:=by omega
  refine kS ?_
  simp only[tV]
  rw[kU (x:=(l.length:Int)-1) oM oM]
  refine kN oM (kD oM (kD (by rw[b3t];omega) (yF ?_)))
  unfold a7y
  rw[show((l.length:Int)-1).toNat=l.length-1 by omega]
 | succ d ih =>
  intro i hi
  refine kS ?_
  simp only[tV]
  refine kD oM ?_
  refine l1F l i oM hl hP (FT l i) (b3t l i) (d7c l i) _ ?_ 8 0 rfl
  have:=ih (i+1) oM
  rw[wS i]
  exact this
theorem b7g(l:List S31)(hl:l.length≤80)(h0:1≤l.length)(hP:qX l):Ev (fun k=>zR k l) ((FT l l.length).getD (l.length-1) []):=l0F l hl h0 hP l.length 0 oM
theorem a0z(ps:List Int) :∀(met:List Bool) (i:Nat),met.getD i false=true→(yQ met ps).getD i false=true:=by
 induction ps with
 | nil=>intro met i h;exact h
 | cons p ps ih =>
  intro met i h
  refine ih _ i ?_
  rw[List.getD_eq_getElem?_getD,List.getElem?_set]
  split
  ·split
   ·rfl
   ·rename_i h1 h2;subst h1;rw[List.getD_eq_getElem?_getD,List.getElem?_eq_none oM]at h;simp at h
  ·rwa [List.getD_eq_getElem?_getD]at h
theorem a9p(ps:List Int) :∀(met:List Bool) (p:Int),p∈ps→0≤p→p.toNat<met.length→(yQ met ps).getD p.toNat false=true:=by
 induction ps with
 | nil=>intro met p h;cases h
 | cons q ps ih =>
  intro met p h h0 h1
  show(yQ (met.set q.toNat true) ps).getD p.toNat false=true
  rcases List.mem_cons.mp h with rfl|h
  ·refine a0z ps _ _ ?_
   rw[List.getD_eq_getElem?_getD,List.getElem?_set,if_pos rfl,if_pos h1];rfl
  ·exact ih _ p h h0 (by rw[List.length_set];exact h1)
theorem a9q(ps:List Int) :∀(met:List Bool) (i:Nat),(∀p∈ps,p.toNat≠i)→(yQ met ps).getD i false=met.getD i false:=by
 induction ps with
 | nil=>intro met i _;rfl
 | cons q ps ih =>
  intro met i h
  show(yQ (met.set q.toNat true) ps).getD i false=_
  rw[ih _ i (fun p hp=>h p (List.mem_cons_of_mem _ hp)),List.getD_eq_getElem?_getD,List.getElem?_set,if_neg (h q List.mem_cons_self),List.getD_eq_getElem?_getD]
theorem b6x(l:List S31)(hP:qX l)(j:Nat) :∀met:List Bool,j≤l.length→met.length=l.length→(∀i<l.length,j≤i→met.getD i false=true→∀p∈pl l i,met.getD p.toNat false=true)→
  ∀i<l.length,(rgo (fun _=>true) l j met).getD i false=true→∀p∈pl l i,(rgo (fun _=>true) l j met).getD p.toNat false=true:=by
 induction j with
 | zero=>intro met _ _ h i hi hm p hp;exact h i hi oM hm p hp
 | succ j ih =>
  intro met hj hm h
  refine ih _ oM (by rw[a7s];exact hm) ?_
  intro i hi hij hmi p hp
  by_cases hb:met.getD j false=true
  ·have hs:zM (fun _=>true) l j met=yQ met (pl l j):=by unfold zM;rw[if_pos ⟨hb,rfl⟩]
   rw[hs]at hmi ⊢
   rcases Nat.eq_or_lt_of_le hij with rfl|hlt
   ·have:=hP j oM p hp
    exact a9p _ _ p hp this.1 oM
   ·rw[a9q _ _ i (fun q hq=>by have:=hP j oM q hq;omega)]at hmi
    exact a0z _ _ _ (h i hi oM hmi p hp)
  ·have hs:zM (fun _=>true) l j met=met:=by unfold zM;rw[if_neg (fun h=>hb h.1)]
   rw[hs]at hmi ⊢
   rcases Nat.eq_or_lt_of_le hij with rfl|hlt
   ·exact absurd hmi hb
   ·exact h i hi oM hmi p hp
theorem vM(l:List S31)(hP:qX l)(root:Nat)(hr:root<l.length) :∀i<l.length,(xC (fun _=>true) l root).getD i false=true→∀p∈pl l i,(xC (fun _=>true) l root).getD p.toNat false=true:=by
 unfold xC
 refine b6x l hP (root+1) _ oM (by simp) ?_
 intro i hi hij hm p hp
 rw[List.getD_eq_getElem?_getD,List.getElem?_set,if_neg oM,List.getElem?_replicate,if_pos hi]at hm
 simp at hm
def a0f(met:List Bool):Nat→Nat
 | 0=>0
 | i+1=>a0f met i+(if met.getD i false=true then 1 else 0)
theorem d1x(met:List Bool)(i:Nat):a0f met i≤i:=by
 induction i with
 | zero=>exact Nat.le_refl _
 | succ i ih=>unfold a0f;split<;>omega
theorem c7d(l:List Int)(p:Int):rd l p=l.getD p.toNat 0:=rfl
theorem b1f(l:List S31)(met:List Bool)(i:Nat):i≤l.length→(uF l met i).2.length=a0f met i∧∀p<i,met.getD p false=true→(uF l met i).1.getD p 0=(a0f met p:Int):=by
 induction i with
 | zero=>intro _;exact⟨rfl,fun p hp=>absurd hp oM⟩
 | succ i ih =>
  intro hi
  obtain⟨h1,h2⟩:=ih oM
  have hl:=(a8g l met i).1
  have hcn:a0f met (i+1)=a0f met i+(if met.getD i false=true then 1 else 0):=rfl
  rw[hcn]
  unfold uF
  by_cases hb:met.getD i false=true
  ·rw[if_pos hb,if_pos hb]
   refine⟨by simp[h1],fun p hp hm=>?_⟩
   rw[List.getD_eq_getElem?_getD,List.getElem?_set]
   by_cases hpi:i=p
   ·subst hpi;rw[if_pos rfl,if_pos oM,h1];rfl
   ·rw[if_neg hpi,← List.getD_eq_getElem?_getD];exact h2 p oM hm
  ·rw[if_neg hb,if_neg hb]
   refine⟨oM,fun p hp hm=>?_⟩
   by_cases hpi:i=p
   ·subst hpi;exact absurd hm hb
   ·exact h2 p oM hm
def a2f(met:List Bool)(i:Nat):List Int:=(List.range i).map fun t=>(a0f met t:Int)
theorem b7c(met:List Bool)(i:Nat)(p:Int)(h0:0≤p)(h1:p<(i:Int)):rd (a2f met i) p=(a0f met p.toNat:Int):=by
 rw[c7d,List.getD_eq_getElem?_getD]
 unfold a2f
 rw[List.getElem?_map,List.getElem?_range oM];rfl
theorem a9w(met:List Bool)(i:Nat):(a2f met i).length=i:=by simp[a2f]
theorem b4h(l:List S31)(hl:l.length≤80)(hP:qX l)(met:List Bool)(hm:met.length=l.length)(hc :∀i<l.length,met.getD i false=true→∀p∈pl l i,met.getD p.toNat false=true)(d:Nat) :∀i:Nat,i+d=l.length→
  Ev (fun k=>sN k l (uF l met i).2 met (a2f met i) (i:Int)) (uF l met l.length).2:=by
 induction d with
 | zero =>
  intro i hi
  obtain rfl:i=l.length:=by omega
  refine kS ?_
  simp only[sN]
  exact kN oM pZ
 | succ d ih =>
  intro i hi
  have hlt:i<l.length:=by omega
  have him:i<met.length:=by omega
  obtain⟨k1,k2⟩:=b1f l met i oM
  have hcl:=d1x met i
  have hnext:=ih (i+1) oM
  have hpl:a2f met i++[((uF l met i).2.length:Int)]=a2f met (i+1):=by unfold a2f;rw[List.range_succ,List.map_append,k1];rfl
  refine kS ?_
  simp only[sN]
  rw[hpl,wS i,rdB met i him,← gdB met i him]
  refine kD oM (kD (by rw[a9w];omega) (qA rfl (kD oM (kD oM ?_))))
  by_cases hb:met.getD i false=true
  ·refine kD hb (kP (a1h 1 fun k hk=>a5z _ _ _ _ _ _ hk) ?_)
   have hkn:(uF l met (i+1)).2=(uF l met i).2++[a4u (fun p=>rd (a2f met (i+1)) p) (kA l (i:Int))]:=by
    show(if met.getD i false=true then _ else _:List Int×List S31).2=_
    rw[if_pos hb]
    have key :∀p∈pl l i,rd ((uF l met i).1.set i ((uF l met i).2.length:Int)) p=rd (a2f met (i+1)) p:=by
     intro p hp
     have hp1:=hP i hlt p hp
     rw[b7c met (i+1) p hp1.1 oM,c7d,List.getD_eq_getElem?_getD,List.getElem?_set,if_neg oM,← List.getD_eq_getElem?_getD]
     exact k2 p.toNat oM (hc i hlt hb p hp)
    simp only[a4u]
    congr 2
    unfold pl at key
    generalize (kA l (i:Int)).f3=A at *
    generalize (kA l (i:Int)).f4=B at *
    generalize (kA l (i:Int)).f5=C at *
    generalize (kA l (i:Int)).f0=op at *
    have h3:0<(kL op A B C).length→A∈kL op A B C:=by unfold kL;split<;>(try split)<;>(try split)<;>simp
    have h4:1<(kL op A B C).length→B∈kL op A B C:=by unfold kL;split<;>(try split)<;>(try split)<;>simp
    have h5:2<(kL op A B C).length→C∈kL op A B C:=by unfold kL;split<;>(try split)<;>(try split)<;>simp
    congr 1
    ·by_cases h:0<(kL op A B C).length
     ·rw[if_pos h,if_pos h,key A (h3 h)]
     ·rw[if_neg h,if_neg h]
    ·by_cases h:1<(kL op A B C).length
     ·rw[if_pos h,if_pos h,key B (h4 h)]
     ·rw[if_neg h,if_neg h]
    ·by_cases h:2<(kL op A B C).length
     ·rw[if_pos h,if_pos h,key C (h5 h)]
     ·rw[if_neg h,if_neg h]
   rw[hkn]at hnext
   have hin :∀p∈pl l i,0≤p∧p<((a2f met (i+1)).length:Int):=by intro p hp;have:=hP i hlt p hp;rw[a9w];omega
   unfold pl at hin
   unfold a4u at hnext
   have hlen:(uF l met i).2.length<2932031007402:=by omega
   generalize (kA l (i:Int)).f3=A at *
   generalize (kA l (i:Int)).f4=B at *
   generalize (kA l (i:Int)).f5=C at *
   generalize (kA l (i:Int)).f0=op at *
   have h3:0<(kL op A B C).length→A∈kL op A B C:=by unfold kL;split<;>(try split)<;>(try split)<;>simp
   have h4:1<(kL op A B C).length→B∈kL op A B C:=by unfold kL;split<;>(try split)<;>(try split)<;>simp
   have h5:2<(kL op A B C).length→C∈kL op A B C:=by unfold kL;split<;>(try split)<;>(try split)<;>simp
   have h45:2<(kL op A B C).length→1<(kL op A B C).length:=by omega
   have tail :∀A':Int,A'=(if 0<(kL op A B C).length then rd (a2f met (i+1)) A else A)→Ev (fun k=>xV k l (uF l met i).2 met (a2f met (i+1)) (i:Int) (kL op A B C) op (kA l (i:Int)).f1 (kA l (i:Int)).f2 A' B C) (uF l met l.length).2:=by
    intro A' hA'
    refine kS ?_
    simp only[xV]
    rw[wS i]
    subst hA'
    by_cases g1:1<(kL op A B C).length
    ·refine kD oM (kD (hin _ (h4 g1)).1 (kD (hin _ (h4 g1)).2 ?_))
     by_cases g2:2<(kL op A B C).length
     ·refine kD oM (kD (hin _ (h5 g2)).1 (kD (hin _ (h5 g2)).2 (kD hlen ?_)))
      rw[if_pos g1,if_pos g2]at hnext;exact hnext
     ·refine kN oM (kD hlen ?_)
      rw[if_pos g1,if_neg g2]at hnext;exact hnext
    ·have g2 :¬2<(kL op A B C).length:=by omega
     refine kN oM (kN oM (kD hlen ?_))
     rw[if_neg g1,if_neg g2]at hnext;exact hnext
   by_cases g0:0<(kL op A B C).length
   ·exact kD oM (kD (hin _ (h3 g0)).1 (kD (hin _ (h3 g0)).2 (tail _ (by rw[if_pos g0]))))
   ·exact kN oM (tail _ (by rw[if_neg g0]))
  ·refine kN hb ?_
   have hkn:uF l met (i+1)=uF l met i:=by
    show(if met.getD i false=true then _ else _:List Int×List S31)=_
    rw[if_neg hb]
   rw[hkn]at hnext
   exact hnext
def vN(l:List S31):List S31:=(uF l (xC (fun _=>true) l (l.length-1)) l.length).2
theorem c3g(l:List S31):(vN l).length≤l.length:=(a8g l _ _).2
theorem c2e(l:List S31)(h:zQ l)(e1:Ev (fun k=>tN k l) true):Ev (fun k=>zW k l) (vN l):=by
 obtain⟨h1,h2,h3⟩:=h
 have hP:=pP h3
 unfold zW
 refine qA rfl (kP e1 (kD rfl (kP (a8d l oM h1 hP) ?_)))
 exact b4h l h2 hP _ (xW _ _ _) (vM l hP _ oM) l.length 0 oM
def Ok{α:Type}(g:Nat→Option α)(P:α→Prop):Prop :=∃r,Ev g r∧P r
theorem sH{α:Type}{P:α→Prop}{r:α}(h:P r):Ok (fun _=>some r) P:=⟨r,pZ,h⟩
theorem b7e{α:Type}{g:Nat→Option α}{P:α→Prop}{r:α}(e:Ev g r)(h:P r):Ok g P:=⟨r,e,h⟩
theorem b1c{α:Type}{g:Nat→Option α}{P Q:α→Prop}(h:Ok g P)(k :∀a,P a→Q a):Ok g Q:=by
 obtain⟨r,e,p⟩:=h;exact⟨r,e,k r p⟩
theorem sG{α β:Type}{g:Nat→Option α}{f:Nat→α→Option β}{P:α→Prop}{Q:β→Prop}(h:Ok g P)(k :∀a,P a→Ok (fun n=>f n a) Q):Ok (fun n=>(g n).bind (f n)) Q:=by
 obtain⟨a,e,p⟩:=h
 obtain⟨r,e2,q⟩:=k a p
 exact⟨r,kP e e2,q⟩
theorem pF{α β:Type}{c:Option α}{f:Nat→α→Option β}{Q:β→Prop}{a:α}(h:c=some a)(k:Ok (fun n=>f n a) Q):Ok (fun n=>c.bind (f n)) Q:=by
 subst h;exact k
theorem pI{α:Type}{c:Prop}[Decidable c]{A B:Nat→Option α}{P:α→Prop}(h:c)(k:Ok A P):Ok (fun n=>if c then A n else B n) P:=by
 simpa [h]using k
theorem zZ{α:Type}{c:Prop}[Decidable c]{A B:Nat→Option α}{P:α→Prop}(h :¬c)(k:Ok B P):Ok (fun n=>if c then A n else B n) P:=by
 simpa [h]using k
theorem tH{α:Type}{c:Prop}[Decidable c]{A B:Nat→Option α}{P:α→Prop}(k:c→Ok A P)(j :¬c→Ok B P):Ok (fun n=>if c then A n else B n) P:=by
 by_cases h:c
 ·exact pI h (k h)
 ·exact zZ h (j h)
theorem qG{α:Type}{g:Nat→Option α}{P:α→Prop}(k:Ok (fun n=>g (n+1)) P):Ok g P:=by
 obtain⟨r,e,p⟩:=k
 exact⟨r,kS e,p⟩
theorem a1a(t:List S31)(ht:t.length≤1000000)(a b c d e f:Int):qB t a b c d e f=some (t++[⟨a,b,c,d,e,f⟩],(t.length:Int)):=by
 unfold qB;rw[if_pos oM]
def DP(t:List S31)(s:Nat)(b:List Int)(r:List S31×Int×Int×Int):Prop:=r.1.length≤t.length+s∧0≤r.2.1∧r.2.1<(r.1.length:Int)∧Cur b r.2.2.1
def a3o(vs:List S31):Prop:=vs.length≤1000∧∀x∈vs,1≤x.f1∧x.f1≤8
theorem b5s{vs:List S31}(h:a3o vs)(p:Int)(h0:0≤p)(h1:p<(vs.length:Int)):1≤(kA vs p).f1∧(kA vs p).f1≤8:=by
 obtain⟨q,rfl⟩:=Int.eq_ofNat_of_zero_le h0
 rw[rdN vs q oM]
 exact h.2 _ (List.getElem_mem _)
def DS:Nat→Nat
 | 0=>1
 | d+1=>3*DS d+1
theorem c7u(d:Nat):1≤DS d:=by cases d<;>simp[DS]
def c2j(d:Nat):Prop :=∀(b:List Int) (i h:Int) (t vs:List S31) (w:Int),Cur b i→t.length≤100000→a3o vs→1≤w→w≤8→Ok (fun k=>pD k b i h t vs w (d:Int)) (DP t (DS d) b)
theorem b1l(b:List Int)(i h:Int)(t vs:List S31)(w:Int)(same:List Int)(x:Bool)(hc:Cur b i)(ht:t.length≤100000)(h0:1≤w)(h8:w≤8)(hs :∀y∈same,0≤y∧y<(vs.length:Int))(hx:x=true→0<same.length)(s:Nat)(h1:1≤s) :
  Ok (fun k=>vX k t vs w same x b i h) (DP t s b):=by
 refine qG ?_
 simp only[vX]
 refine tH (fun hxt=>?_) (fun _=>?_)
 ·obtain⟨y,i',h',e,y0,_,y1,c⟩:=qV b i h (same.length:Int) hc
  have hl:=hx hxt
  have y1:=y1 oM
  refine pF e (pI y0 (pI y1 ?_))
  have hm:=hs (rd same y) (by
   rw[show rd same y=same[y.toNat]from by unfold rd;rw[List.getD_eq_getElem?_getD,List.getElem?_eq_getElem oM];rfl]
   exact List.getElem_mem _)
  refine pI hm.1 (pI hm.2 (pF (a1a t oM _ _ _ _ _ _) (sH ?_)))
  refine⟨by simp;omega,by simp,by simp;omega,c⟩
 ·refine sG (b7e (a1h 20 fun k hk=>a9e oM h8 hk) rfl) (fun p hp=>?_)
  subst hp
  obtain⟨y,i',h',e,y0,_,y1,c⟩:=qV b i h (P2 w) hc
  refine pF e (pF (a1a t oM _ _ _ _ _ _) (sH ?_))
  refine⟨by simp;omega,by simp,by simp;omega,c⟩
theorem d1u(d:Nat)(hd:d≤10)(ih:c2j d)(b:List Int)(i h:Int)(t vs:List S31)(w:Int)(hc:Cur b i)(ht:t.length+3*DS d≤100000)(hv:a3o vs)(h0:1≤w)(h8:w≤8) :
  Ok (fun k=>sM k t vs w ((d+1:Nat):Int) b i h) (DP t (DS (d+1)) b):=by
 refine qG ?_
 simp only[sM]
 rw[kU (x:=((d+1:Nat):Int)-1) oM oM,show((d+1:Nat):Int)-1=(d:Int) by omega]
 refine sG (ih b i h t vs w hc oM hv h0 h8) (fun r hr=>?_)
 obtain⟨t1,a1,i1,h1⟩:=r
 obtain⟨l1,m1,n1,c1⟩:=hr
 simp only at l1 m1 n1 c1
 refine sG (ih b i1 h1 t1 vs w c1 oM hv h0 h8) (fun r hr=>?_)
 obtain⟨t2,a2,i2,h2⟩:=r
 obtain⟨l2,m2,n2,c2⟩:=hr
 simp only at l2 m2 n2 c2
 obtain⟨y,i3,h3,e,_,_,_,c3⟩:=qV b i2 h2 10 c2
 refine pF e (pF (a1a t2 oM _ _ _ _ _ _) (sH ?_))
 exact⟨by simp[DS];omega,by simp,by simp;omega,c3⟩
theorem b4q(d:Nat)(hd:d≤10)(ih:c2j d)(b:List Int)(i h:Int)(t vs:List S31)(w:Int)(x:Bool)(hc:Cur b i)(ht:t.length+3*DS d≤100000)(hv:a3o vs)(h0:1≤w)(h8:w≤8)(hx:x=true→0<vs.length) :
  Ok (fun k=>uX k t vs w ((d+1:Nat):Int) x b i h) (DP t (DS (d+1)) b):=by
 have hvl:=hv.1
 have hj4 :∀i h,Cur b i→Ok (fun k=>sM k t vs w ((d+1:Nat):Int) b i h) (DP t (DS (d+1)) b):=fun i h hc=>d1u d hd ih b i h t vs w hc ht hv h0 h8
 refine qG ?_
 simp only[uX]
 rw[kU (x:=((d+1:Nat):Int)-1) oM oM,show((d+1:Nat):Int)-1=(d:Int) by omega]
 refine tH (fun hxt=>?_) (fun _=>?_)
 ·have hl:=hx hxt
  obtain⟨y,i1,h1,e,y0,_,y1,c1⟩:=qV b i h (vs.length:Int) hc
  have y1:=y1 oM
  have hw:=b5s hv y y0 y1
  refine pF e (pI y0 (pI y1 (sG (ih b i1 h1 t vs _ c1 oM hv hw.1 hw.2) (fun r hr=>?_))))
  obtain⟨t1,a1,i2,h2⟩:=r
  obtain⟨l1,m1,n1,c2⟩:=hr
  simp only at l1 m1 n1 c2
  refine sG (ih b i2 h2 t1 vs _ c2 oM hv hw.1 hw.2) (fun r hr=>?_)
  obtain⟨t2,a2,i3,h3⟩:=r
  obtain⟨l2,m2,n2,c3⟩:=hr
  simp only at l2 m2 n2 c3
  obtain⟨z,i4,h4,e4,_,_,_,c4⟩:=qV b i3 h3 3 c3
  refine pF e4 (pF (a1a t2 oM _ _ _ _ _ _) (sH ?_))
  exact⟨by simp[DS];omega,by simp,by simp;omega,c4⟩
 ·obtain⟨y,i1,h1,e,y0,_,y1,c1⟩:=qV b i h 8 hc
  refine pF e (tH (fun _=>?_) (fun _=>tH (fun _=>tH (fun hw1=>?_) (fun _=>hj4 _ _ c1)) (fun _=>tH (fun _=>tH (fun hv0=>?_) (fun _=>hj4 _ _ c1)) (fun _=>tH (fun _=>?_) (fun _=>hj4 _ _ c1)))))
  ·refine sG (ih b i1 h1 t vs w c1 oM hv h0 h8) (fun r hr=>?_)
   obtain⟨t1,a1,i2,h2⟩:=r
   obtain⟨l1,m1,n1,c2⟩:=hr
   simp only at l1 m1 n1 c2
   refine pF (a1a t1 oM _ _ _ _ _ _) (sH ?_)
   exact⟨by simp[DS];omega,by simp,by simp;omega,c2⟩
  ·rw[kU (x:=w-1) oM oM]
   obtain⟨z,i2,h2,e2,z0,_,z1,c2⟩:=qV b i1 h1 (w-1) c1
   have z1:=z1 oM
   refine pF e2 ?_
   simp only
   rw[kU (x:=1+z) oM oM,kU (x:=w-(1+z)) oM oM]
   refine sG (ih b i2 h2 t vs (1+z) c2 oM hv oM oM) (fun r hr=>?_)
   obtain⟨t1,a1,i3,h3⟩:=r
   obtain⟨l1,m1,n1,c3⟩:=hr
   simp only at l1 m1 n1 c3
   refine sG (ih b i3 h3 t1 vs (w-(1+z)) c3 oM hv oM oM) (fun r hr=>?_)
   obtain⟨t2,a2,i4,h4⟩:=r
   obtain⟨l2,m2,n2,c4⟩:=hr
   simp only at l2 m2 n2 c4
   refine pF (a1a t2 oM _ _ _ _ _ _) (sH ?_)
   exact⟨by simp[DS];omega,by simp,by simp;omega,c4⟩
  ·obtain⟨z,i2,h2,e2,z0,_,z1,c2⟩:=qV b i1 h1 (vs.length:Int) c1
   have z1:=z1 hv0
   have hw:=b5s hv z z0 z1
   refine pF e2 (pI z0 (pI z1 (tH (fun hgt=>?_) (fun _=>hj4 _ _ c2))))
   refine sG (ih b i2 h2 t vs _ c2 oM hv hw.1 hw.2) (fun r hr=>?_)
   obtain⟨t1,a1,i3,h3⟩:=r
   obtain⟨l1,m1,n1,c3⟩:=hr
   simp only at l1 m1 n1 c3
   obtain⟨y2,i4,h4,e4,_,_,_,c4⟩:=qV b i3 h3 (wrap64 ((wrap64 (((kA vs z).f1)-w))+1)) c3
   refine pF e4 (pF (a1a t1 oM _ _ _ _ _ _) (sH ?_))
   exact⟨by simp[DS];omega,by simp,by simp;omega,c4⟩
  ·refine sG (ih b i1 h1 t vs 1 c1 oM hv oM oM) (fun r hr=>?_)
   obtain⟨t1,a1,i2,h2⟩:=r
   obtain⟨l1,m1,n1,c2⟩:=hr
   simp only at l1 m1 n1 c2
   refine sG (ih b i2 h2 t1 vs w c2 oM hv h0 h8) (fun r hr=>?_)
   obtain⟨t2,a2,i3,h3⟩:=r
   obtain⟨l2,m2,n2,c3⟩:=hr
   simp only at l2 m2 n2 c3
   refine sG (ih b i3 h3 t2 vs w c3 oM hv h0 h8) (fun r hr=>?_)
   obtain⟨t3,a3,i4,h4⟩:=r
   obtain⟨l3,m3,n3,c4⟩:=hr
   simp only at l3 m3 n3 c4
   refine pF (a1a t3 oM _ _ _ _ _ _) (sH ?_)
   exact⟨by simp[DS];omega,by simp,by simp;omega,c4⟩
theorem c1o(b:List Int)(i h:Int)(t vs:List S31)(w d:Int)(hv:a3o vs)(P:List S31×Int×Int×Int→Prop)
  (hk :∀same:List Int,(∀y∈same,0≤y∧y<(vs.length:Int))→Ok (fun k=>if d=0 then(qR k t vs w d same true b i h)else(if(t.length:Int)>40 then(qR k t vs w d same true b i h)else((rT b i h 5).bind fun bt411=>(qR k t vs w d same bt411.1 b bt411.2.1 bt411.2.2)))) P) (n:Nat) :
  ∀(j:Nat) (same:List Int),j+n=vs.length→same.length≤j→(∀y∈same,0≤y∧y<(vs.length:Int))→Ok (fun k=>tW k t vs w d same (j:Int) b i h) P:=by
 have hvl:=hv.1
 induction n with
 | zero =>
  intro j same hj _ hs
  refine qG ?_
  simp only[tW]
  exact zZ oM (hk same hs)
 | succ n ih =>
  intro j same hj hl hs
  refine qG ?_
  simp only[tW]
  rw[wS j]
  refine pI oM (pI oM (tH (fun _=>pI oM (ih (j+1) _ oM (by simp;omega) ?_)) (fun _=>ih (j+1) same oM oM hs)))
  intro y hy
  rcases List.mem_append.mp hy with h|h
  ·exact hs y h
  ·obtain rfl:=List.mem_singleton.mp h;omega
theorem d1t(d:Nat):d≤3→c2j d:=by
 induction d with
 | zero =>
  intro _ b i h t vs w hc ht hv h0 h8
  refine qG ?_
  simp only[pD]
  refine c1o b i h t vs w _ hv _ (fun same hs=>pI (by rfl) ?_) vs.length 0 [] oM (by simp) (by simp)
  refine qG ?_
  simp only[qR]
  refine pI trivial (tH (fun hl=>?_) (fun hl=>?_))
  ·obtain⟨x,i',h',e,c⟩:=a1b b i h 4 hc
   exact pF e (b1l b i' h' t vs w same _ c ht h0 h8 hs (fun _=>by omega) 1 oM)
  ·exact b1l b i h t vs w same _ hc ht h0 h8 hs (fun h=>by simp at h) 1 oM
 | succ d ih =>
  intro hd b i h t vs w hc ht hv h0 h8
  have ih:=ih oM
  have hds:3*DS d≤39:=by
   have:d=0∨d=1∨d=2:=by omega
   rcases this with rfl|rfl|rfl<;>simp[DS]
  refine qG ?_
  simp only[pD]
  refine c1o b i h t vs w _ hv _ (fun same hs=>?_) vs.length 0 [] oM (by simp) (by simp)
  have jt :∀i h,Cur b i→Ok (fun k=>qR k t vs w ((d+1:Nat):Int) same true b i h) (DP t (DS (d+1)) b):=by
   intro i h hc
   refine qG ?_
   simp only[qR]
   refine pI trivial (tH (fun hl=>?_) (fun hl=>?_))
   ·obtain⟨x,i',h',e,c⟩:=a1b b i h 4 hc
    exact pF e (b1l b i' h' t vs w same _ c ht h0 h8 hs (fun _=>by omega) _ (c7u _))
   ·exact b1l b i h t vs w same _ hc ht h0 h8 hs (fun h=>by simp at h) _ (c7u _)
  refine zZ oM (tH (fun _=>jt i h hc) (fun hle=>?_))
  obtain⟨x,i1,h1,e,c1⟩:=a1b b i h 5 hc
  refine pF e ?_
  cases x with
  | true=>exact jt i1 h1 c1
  | false =>
   refine qG ?_
   simp only[qR]
   refine zZ (by simp) (tH (fun _=>tH (fun hv0=>?_) (fun _=>?_)) (fun _=>?_))
   ·obtain⟨x,i',h',e,c⟩:=a1b b i1 h1 2 c1
    exact pF e (b4q d oM ih b i' h' t vs w _ c oM hv h0 h8 (fun _=>by omega))
   ·exact b4q d oM ih b i1 h1 t vs w _ c1 oM hv h0 h8 (fun h=>by simp at h)
   ·exact b4q d oM ih b i1 h1 t vs w _ c1 oM hv h0 h8 (fun h=>by simp at h)
def MP(t:List S31)(s:Nat)(b:List Int)(r:List S31×Int×Int×Int×Int×Int):Prop:=r.1.length≤t.length+s∧(0≤r.2.2.1∧r.2.2.1≤8)∧(0≤r.2.2.2.1∧r.2.2.2.1≤100)∧Cur b r.2.2.2.2.1
def MS:Nat→Nat
 | 0=>41
 | e+1=>2*MS e+41
theorem d8n(e:Nat):41≤MS e:=by cases e<;>simp[MS]
def b3s(e:Nat):Prop :=∀(b:List Int) (i h:Int) (t vs:List S31) (nx bits:Int),Cur b i→t.length+MS e≤100000→a3o vs→vs.length+e≤900→0≤nx→nx≤8→0≤bits→bits≤100→Ok (fun k=>qI k b i h t vs nx bits (e:Int)) (MP t (MS e) b)
theorem a8c(e:Nat)(b:List Int)(i h:Int)(t vs:List S31)(nx bits:Int)(hc:Cur b i)(ht:t.length+MS e≤100000)(hv:a3o vs)(n0:0≤nx)(n8:nx≤8)(b0:0≤bits)(b1:bits≤100) :
  Ok (fun k=>(pD k b i h t vs 1 3).bind fun r=>(some (r.1,r.2.1,nx,bits,r.2.2.1,r.2.2.2):Option (List S31×Int×Int×Int×Int×Int))) (MP t (MS e) b):=by
 have hm:=d8n e
 refine sG (d1t 3 oM b i h t vs 1 hc oM hv oM oM) (fun r hr=>?_)
 obtain⟨l1,_,_,c1⟩:=hr
 refine sH ⟨?_,⟨n0,n8⟩,⟨b0,b1⟩,c1⟩
 have:DS 3=40:=rfl
 simp only;omega
theorem c2q{vs:List S31}(hv:a3o vs)(hl:vs.length<1000)(w nx:Int)(h0:1≤w)(h8:w≤8):a3o (([]++vs)++[(⟨1,w,nx,0,0,0⟩:S31)]):=by
 refine⟨by simp;omega,fun x hx=>?_⟩
 simp only[List.nil_append,List.mem_append,List.mem_singleton]at hx
 rcases hx with hx|rfl
 ·exact hv.2 x hx
 ·exact⟨h0,h8⟩
theorem c1a(e:Nat)(ih :∀e',e=e'+1→b3s e')(he:e≤10)(b:List Int)(i h:Int)(t vs:List S31)(nx bits:Int)(x:Bool)(hc:Cur b i)(ht:t.length+MS e≤100000)(hv:a3o vs)(hvl:vs.length+e≤900)(n0:0≤nx)(n8:nx≤8)(b0:0≤bits)(b1:bits≤100) :
  Ok (fun k=>vV k t vs nx bits (e:Int) x b i h) (MP t (MS e) b):=by
 refine qG ?_
 simp only[vV]
 refine tH (fun _=>tH (fun hp=>?_) (fun _=>a8c e b i h t vs nx bits hc ht hv n0 n8 b0 b1)) (fun _=>a8c e b i h t vs nx bits hc ht hv n0 n8 b0 b1)
 obtain⟨e',rfl⟩ :∃e',e=e'+1:=⟨e-1,oM⟩
 have hms:MS (e'+1)=2*MS e'+41:=rfl
 rw[kU (x:=((e'+1:Nat):Int)-1) oM oM,show((e'+1:Nat):Int)-1=(e':Int) by omega]
 refine sG (ih e' rfl b i h t vs nx bits hc oM hv oM n0 n8 b0 b1) (fun r hr=>?_)
 obtain⟨t1,a1,n1,bb1,i1,h1⟩:=r
 obtain⟨l1,⟨m1,m2⟩,⟨k1,k2⟩,c1⟩:=hr
 simp only at l1 m1 m2 k1 k2 c1
 refine sG (ih e' rfl b i1 h1 t1 vs n1 bb1 c1 oM hv oM m1 m2 k1 k2) (fun r hr=>?_)
 obtain⟨t2,a2,n2,bb2,i2,h2⟩:=r
 obtain⟨l2,q2,s2,c2⟩:=hr
 simp only at l2 q2 s2 c2
 obtain⟨y,i3,h3,e3,_,_,_,c3⟩:=qV b i2 h2 2 c2
 refine pF e3 (pF (a1a t2 oM _ _ _ _ _ _) (sH ?_))
 exact⟨by simp;omega,q2,s2,c3⟩
theorem d1d(e:Nat)(ih :∀e',e=e'+1→b3s e')(he:e≤10)(b:List Int)(i h:Int)(t vs:List S31)(nx bits:Int)(x:Bool)(hc:Cur b i)(ht:t.length+MS e≤100000)(hv:a3o vs)(hvl:vs.length+e≤900)(n0:0≤nx)(n8:nx≤8)(b0:0≤bits)(b1:bits≤100)
  (hx:x=true→0<e∧nx<8∧0<bits):Ok (fun k=>tT k t vs nx bits (e:Int) x b i h) (MP t (MS e) b):=by
 refine qG ?_
 simp only[tT]
 refine tH (fun hxt=>?_) (fun _=>?_)
 ·obtain⟨g1,g2,g3⟩:=hx hxt
  obtain⟨e',rfl⟩ :∃e',e=e'+1:=⟨e-1,oM⟩
  have hms:MS (e'+1)=2*MS e'+41:=rfl
  obtain⟨y,i1,h1,e1,y0,_,y1,c1⟩:=qV b i h 3 hc
  have y1:=y1 oM
  refine pF e1 ?_
  simp only
  rw[kU (x:=1+y) oM oM,kU (x:=((e'+1:Nat):Int)-1) oM oM,show((e'+1:Nat):Int)-1=(e':Int) by omega,kU (x:=nx+1) oM oM,kU (x:=bits-bits) oM oM,kU (x:=bits-(1+y)) oM oM]
  have fin :∀(w bits' z:Int) (i2 h2:Int),1≤w→w≤8→0≤bits'→bits'≤100→Cur b i2→Ok (fun k=>(some (([]:List S31):List S31)).bind fun y560=>(if y560.length+vs.length<2932031007402 then((some (y560++vs:List S31)).bind fun y563=>((some (([(⟨1,w,nx,0,0,0⟩:S31)]:List S31):List S31)).bind fun y566=>(if y563.length+y566.length<2932031007402 then((qI k b i2 h2 t (y563++y566) (nx+1) bits' (e':Int)).bind fun bt572=>((qB bt572.1 z 1 nx bt572.2.1 w 0).bind fun bt580=>(some (bt580.1,bt580.2,bt572.2.2.1,bt572.2.2.2.1,bt572.2.2.2.2.1,bt572.2.2.2.2.2):Option (List S31×Int×Int×Int×Int×Int))))else(none))))else(none))) (MP t (MS (e'+1)) b):=by
   intro w bits' z i2 h2 w0 w8 p0 p1 c2
   have hv1:=hv.1
   refine pF rfl (pI (by simp;omega) (pF rfl (pF rfl (pI (by simp;omega) ?_))))
   refine sG (ih e' rfl b i2 h2 t _ (nx+1) bits' c2 oM (c2q hv oM w nx w0 w8) (by simp;omega) oM oM p0 p1) (fun r hr=>?_)
   obtain⟨t1,a1,n1,bb1,i3,h3⟩:=r
   obtain⟨l1,q1,s1,c3⟩:=hr
   simp only at l1 q1 s1 c3
   refine pF (a1a t1 oM _ _ _ _ _ _) (sH ?_)
   exact⟨by simp;omega,q1,s1,c3⟩
  refine tH (fun hgt=>?_) (fun hle=>?_)
  ·obtain⟨z,i2,h2,e2,_,_,_,c2⟩:=qV b i1 h1 2 c1
   exact pF e2 (fin bits (bits-bits) _ i2 h2 oM oM oM oM c2)
  ·obtain⟨z,i2,h2,e2,_,_,_,c2⟩:=qV b i1 h1 2 c1
   exact pF e2 (fin (1+y) (bits-(1+y)) _ i2 h2 oM oM oM oM c2)
 ·obtain⟨y,i1,h1,e1,y0,_,y1,c1⟩:=qV b i h 5 hc
  refine pF e1 (tH (fun _=>tH (fun hp=>?_) (fun _=>a8c e b i1 h1 t vs nx bits c1 ht hv n0 n8 b0 b1)) (fun _=>tH (fun _=>?_) (fun _=>?_)))
  ·obtain⟨e',rfl⟩ :∃e',e=e'+1:=⟨e-1,oM⟩
   have hms:MS (e'+1)=2*MS e'+41:=rfl
   rw[kU (x:=((e'+1:Nat):Int)-1) oM oM,show((e'+1:Nat):Int)-1=(e':Int) by omega]
   refine sG (ih e' rfl b i1 h1 t vs nx bits c1 oM hv oM n0 n8 b0 b1) (fun r hr=>?_)
   obtain⟨t1,a1,n1,bb1,i3,h3⟩:=r
   obtain⟨l1,q1,s1,c3⟩:=hr
   simp only at l1 q1 s1 c3
   refine pF (a1a t1 oM _ _ _ _ _ _) (sH ?_)
   exact⟨by simp;omega,q1,s1,c3⟩
  ·exact c1a e ih he b i1 h1 t vs nx bits _ c1 ht hv hvl n0 n8 b0 b1
  ·exact c1a e ih he b i1 h1 t vs nx bits _ c1 ht hv hvl n0 n8 b0 b1
theorem b2y(e:Nat)(ih :∀e',e=e'+1→b3s e')(he:e≤10):b3s e:=by
 intro b i h t vs nx bits hc ht hv hvl n0 n8 b0 b1
 refine qG ?_
 simp only[qI]
 have j0:=fun(i h:Int) (x:Bool) (hc:Cur b i) (hx:x=true→0<e∧nx<8∧0<bits)=>d1d e ih he b i h t vs nx bits x hc ht hv hvl n0 n8 b0 b1 hx
 refine tH (fun h1=>tH (fun h2=>tH (fun h3=>?_) (fun _=>j0 i h false hc (by simp))) (fun _=>j0 i h false hc (by simp))) (fun _=>j0 i h false hc (by simp))
 obtain⟨x,i1,z1,e1,c1⟩:=a1b b i h 5 hc
 exact pF e1 (j0 i1 z1 _ c1 (fun _=>⟨oM,h2,h3⟩))
theorem d1c(e:Nat):e≤10→b3s e:=by
 induction e with
 | zero=>intro _;exact b2y 0 (fun e' h=>by omega) oM
 | succ e ih=>intro he;exact b2y (e+1) (fun e' h=>by have h':e=e':=oM;subst h';exact ih oM) he
theorem c1e(l:List S31)(hl:l.length≤80)(i:Nat)(hi:i<l.length)(out:List Bool)(ho:out.length=i)(ps:List Int)(hps:ps.length≤3)(hp :∀p∈ps,0≤p∧p<(i:Int))(P:List Bool→Prop)
  (hk :∀b:Bool,Ok (fun k=>sD k l (out++[b]) ((i+1:Nat):Int)) P) (d:Nat) :∀(t:Nat) (b:Bool),t+d=ps.length→Ok (fun k=>sA k l out (i:Int) b ps (t:Int)) P:=by
 induction d with
 | zero =>
  intro t b ht
  refine qG ?_
  simp only[sA]
  rw[wS i]
  exact zZ oM (pI oM (hk b))
 | succ d ih =>
  intro t b ht
  have hlt:t<ps.length:=by omega
  have hq:=hp _ (List.getElem_mem hlt)
  rw[← rdI ps t hlt]at hq
  refine qG ?_
  simp only[sA]
  rw[wS t]
  exact pI oM (tH (fun _=>ih (t+1) true oM) (fun _=>pI oM (pI hq.1 (pI oM (ih (t+1) _ oM)))))
theorem c1d(l:List S31)(hl:l.length≤80)(hP:qX l)(d:Nat) :∀(i:Nat) (out:List Bool),i+d=l.length→out.length=i→Ok (fun k=>sD k l out (i:Int)) (fun r=>r.length=l.length):=by
 induction d with
 | zero =>
  intro i out hi ho
  refine qG ?_
  simp only[sD]
  exact zZ oM (sH oM)
 | succ d ih =>
  intro i out hi ho
  refine qG ?_
  simp only[sD]
  refine pI oM (pI oM (pF (d1h _) (sG (b7e (a1h 1 fun k hk=>a5z _ _ _ _ _ _ hk) rfl) (fun ps hps=>?_))))
  subst hps
  exact c1e l hl i oM out ho _ (qF _ _ _ _) (hP i oM) _ (fun b=>ih (i+1) _ oM (by simp;omega)) _ 0 _ (Nat.zero_add _)
theorem d6f{l:List S31}(h:pL l)(i:Nat)(hi:i<l.length)(ho:(kA l (i:Int)).f0=19∨(kA l (i:Int)).f0=20∨(kA l (i:Int)).f0=1):0≤(kA l (i:Int)).f2∧(kA l (i:Int)).f2≤7:=by
 have hb:=h i hi
 unfold a2s tG at hb
 simp only[Bool.and_eq_true]at hb
 have hs:=hb.2
 generalize (kA l (i:Int)).f0=op at *
 generalize (kA l (i:Int)).f2=K at *
 have:inB K 0 7=true:=by
  rcases ho with rfl|rfl|rfl
  ·simp only[pG]at hs;simp at hs;exact hs.1.1.1
  ·simp only[pG]at hs;simp at hs;exact hs.1.1.1
  ·simpa [pG]using hs
 exact qL.mp this
theorem d0k(l:List S31)(hl:l.length≤80)(m h:List Bool)(us:List Int)(hm:m.length=l.length)(hh:h.length=l.length)(hu:us.length=l.length)(d:Nat) :∀i:Nat,i+d=l.length→Ok (fun k=>rW k l m h us (i:Int)) (fun _=>True):=by
 induction d with
 | zero =>
  intro i hi
  refine qG ?_
  simp only[rW]
  exact zZ oM (sH trivial)
 | succ d ih =>
  intro i hi
  refine qG ?_
  simp only[rW]
  rw[wS i]
  have hn:=ih (i+1) oM
  exact pI oM (pI oM (pI oM (tH (fun _=>pI oM (tH (fun _=>pI oM (tH (fun _=>sH trivial) (fun _=>hn))) (fun _=>hn))) (fun _=>hn))))
theorem d0l(l:List S31)(hl:l.length≤80)(hN:pL l)(m h:List Bool)(hm:m.length=l.length)(hh:h.length=l.length)(ws:List Int)(hw:ws.length=8)(d:Nat) :∀(i:Nat) (us:List Int),i+d=l.length→us.length=l.length→Ok (fun k=>sV k l m h ws us (i:Int)) (fun _=>True):=by
 have hP:=pP hN
 induction d with
 | zero =>
  intro i us hi hu
  refine qG ?_
  simp only[sV]
  exact zZ oM (d0k l hl m h us hm hh hu l.length 0 oM)
 | succ d ih =>
  intro i us hi hu
  have hlt:i<l.length:=by omega
  have l4 :∀(n t:Nat) (us:List Int),t+n=(pl l i).length→us.length=l.length→Ok (fun k=>tY k l m h ws us (i:Int) (pl l i) (t:Int)) (fun _=>True):=by
   intro n
   have hp3:(pl l i).length≤3:=qF _ _ _ _
   induction n with
   | zero =>
    intro t us ht hu
    refine qG ?_
    simp only[tY]
    rw[wS i]
    exact zZ oM (ih (i+1) us oM hu)
   | succ n ihn =>
    intro t us ht hu
    have hq:=hP i hlt _ (List.getElem_mem (show t<(pl l i).length by omega))
    rw[← rdI (pl l i) t oM]at hq
    refine qG ?_
    simp only[tY]
    rw[wS t]
    exact pI oM (pI oM (pI hq.1 (pI oM (ihn (t+1) _ oM (by rw[List.length_set];exact hu)))))
  have j6 :∀x:Bool,Ok (fun k=>qS k l m h ws us (i:Int) x) (fun _=>True):=by
   intro x
   refine qG ?_
   simp only[qS]
   refine tH (fun _=>sH trivial) (fun _=>pI oM (pI oM (sG (b7e (a1h 1 fun k hk=>a5z _ _ _ _ _ _ hk) rfl) (fun ps hps=>?_))))
   subst hps
   exact l4 (pl l i).length 0 us oM hu
  have outer :∀op:Int,∃b,uW op=some b:=by
   intro op
   unfold uW
   by_cases a:op=2
   ·exact⟨_,if_pos a⟩
   ·rw[if_neg a]
    by_cases b:op=3
    ·exact⟨_,if_pos b⟩
    ·rw[if_neg b]
     by_cases c:op=4
     ·exact⟨_,if_pos c⟩
     ·rw[if_neg c,d1h];exact⟨_,rfl⟩
  obtain⟨ob,hob⟩:=outer (kA l (i:Int)).f0
  have tail:Ok (fun k=>if(i:Int)<(h.length:Int)then(if wH false h (i:Int)=true then((uW ((kA l (i:Int)).f0)).bind fun t721=>(qS k l m h ws us (i:Int) (!t721)))else(qS k l m h ws us (i:Int) false))else(none)) (fun _=>True) :=
   pI oM (tH (fun _=>pF hob (j6 _)) (fun _=>j6 _))
  refine qG ?_
  simp only[sV]
  rw[wS i]
  refine pI oM (pI oM (pI oM (tH (fun _=>tH (fun hv=>?_) (fun _=>tail)) (fun _=>ih (i+1) us oM hu))))
  have hK:=d6f hN i hlt (.inr (.inr hv))
  exact pI hK.1 (pI oM (tH (fun _=>tail) (fun _=>j6 true)))
theorem d0m(l:List S31)(hl:l.length≤80)(hN:pL l)(m h:List Bool)(hm:m.length=l.length)(hh:h.length=l.length)(ws:List Int)(hw:ws.length=8)(d:Nat) :∀(i:Nat) (us:List Int),i+d=l.length→us.length=i→Ok (fun k=>tZ k l m h ws us (i:Int)) (fun _=>True):=by
 induction d with
 | zero =>
  intro i us hi hu
  refine qG ?_
  simp only[tZ]
  exact zZ oM (d0l l hl hN m h hm hh ws hw l.length 0 us oM oM)
 | succ d ih =>
  intro i us hi hu
  refine qG ?_
  simp only[tZ]
  rw[wS i]
  exact pI oM (pI oM (ih (i+1) _ oM (by simp;omega)))
theorem d0n(l:List S31)(hl:l.length≤80)(hN:pL l)(m h:List Bool)(hm:m.length=l.length)(hh:h.length=l.length)(d:Nat) :∀(i:Nat) (ws:List Int),i+d=l.length→ws.length=8→Ok (fun k=>sX k l m h ws (i:Int)) (fun _=>True):=by
 induction d with
 | zero =>
  intro i ws hi hw
  refine qG ?_
  simp only[sX]
  exact zZ oM (d0m l hl hN m h hm hh ws hw l.length 0 [] oM rfl)
 | succ d ih =>
  intro i ws hi hw
  have hlt:i<l.length:=by omega
  have j3 :∀x:Bool,(x=true→(kA l (i:Int)).f0=19∨(kA l (i:Int)).f0=20)→Ok (fun k=>vF k l m h ws (i:Int) x) (fun _=>True):=by
   intro x hx
   refine qG ?_
   simp only[vF]
   rw[wS i]
   refine tH (fun hxt=>?_) (fun _=>ih (i+1) ws oM hw)
   have hK:=d6f hN i hlt (by rcases hx hxt with h|h;exact .inl h;exact .inr (.inl h))
   exact pI oM (pI oM (pI hK.1 (pI oM (tH (fun _=>ih (i+1) _ oM (by rw[List.length_set];exact hw)) (fun _=>sH trivial)))))
  refine qG ?_
  simp only[sX]
  refine pI oM (pI oM (pI oM (tH (fun _=>pF (d1h _) (j3 _ (fun h=>by simpa using h))) (fun _=>j3 false (by simp)))))
theorem d0o(l:List S31)(hl:l.length≤80)(hN:pL l)(m h:List Bool)(hm:m.length=l.length)(hh:h.length=l.length)(d:Nat) :∀(i:Nat) (ws:List Int),i+d=8→ws.length=i→Ok (fun k=>uA k l m h ws (i:Int)) (fun _=>True):=by
 induction d with
 | zero =>
  intro i ws hi hw
  refine qG ?_
  simp only[uA]
  exact zZ oM (d0n l hl hN m h hm hh l.length 0 ws oM oM)
 | succ d ih =>
  intro i ws hi hw
  refine qG ?_
  simp only[uA]
  rw[wS i]
  exact pI oM (pI oM (ih (i+1) _ oM (by simp;omega)))
theorem b4t(l:List S31)(FR :∃r,Ev (fun k=>zN k l) r):Ok (fun k=>uZ k l) (fun b=>b=true→zQ l):=by
 obtain⟨b,e1,_,hb⟩:=a7q l
 unfold uZ
 refine sG (b7e e1 rfl) (fun b' hb'=>?_)
 subst hb'
 have jt:Ok (fun k=>sY k l true) (fun b=>b=true→zQ l):=by
  refine qG ?_
  simp only[sY]
  exact pI trivial (sH (by simp))
 refine tH (fun ht=>?_) (fun _=>jt)
 obtain⟨h1,h2,h3⟩:=hb.mp ht
 rw[kU oM oM]
 refine pI oM (pI oM (tH (fun _=>?_) (fun _=>jt)))
 obtain⟨r,hr⟩:=FR
 refine sG (b7e hr rfl) (fun r' hr'=>?_)
 refine b1c (P:=fun _=>True) ?_ (fun _ _ _=>⟨h1,h2,h3⟩)
 refine qG ?_
 simp only[sY]
 have hP:=pP h3
 refine tH (fun _=>sH trivial) (fun _=>sG (b7e (a8d l oM h1 hP) rfl) (fun m hm=>sG (c1d l h2 hP l.length 0 [] oM rfl) (fun h hh=>?_)))
 subst hm
 exact d0o l h2 h3 _ h (xW _ _ _) hh 8 0 [] oM rfl
theorem d6j(l:List S31)(row:List Bool)(hr:row.length=8)(d:Nat) :∀(v:Nat) (out:List Int),v+d=8→out.length+d≤8→∃r,Ev (fun k=>vL k out row (v:Int)) r:=by
 induction d with
 | zero =>
  intro v out hv ho
  refine⟨out,kS ?_⟩
  simp only[vL];exact kN oM pZ
 | succ d ih =>
  intro v out hv ho
  by_cases hD:wH false row (v:Int)=true
  ·obtain⟨r,e1⟩:=ih (v+1) (out++[(v:Int)]) oM (by simp;omega)
   refine⟨r,kS ?_⟩
   simp only[vL]
   refine kD oM (kD oM (kD oM (kD hD (kD oM ?_))))
   rw[wS v];exact e1
  ·obtain⟨r,e1⟩:=ih (v+1) out oM oM
   refine⟨r,kS ?_⟩
   simp only[vL]
   refine kD oM (kD oM (kD oM (kN hD ?_)))
   rw[wS v];exact e1
theorem d7b(l:List S31) :∃r,Ev (fun k=>zN k l) r:=by
 obtain⟨b,e1,_,h⟩:=a7q l
 unfold zN
 by_cases hb:b=true
 ·obtain⟨h1,h2,h3⟩:=h.mp hb
  obtain⟨r,f1⟩:=d6j l ((FT l l.length).getD (l.length-1) []) (by rw[d7d l l.length _ oM];simp) 8 0 [] rfl (by simp)
  exact⟨r,qA rfl (kP e1 (kD hb (kP (b7g l h2 h1 (pP h3)) f1)))⟩
 ·exact⟨[],qA rfl (kP e1 (kN hb pZ))⟩
theorem b0d:zQ [(⟨1,1,0,0,0,0⟩:S31),(⟨20,1,0,0,1,0⟩:S31)]:=by
 refine⟨by simp,by simp,fun i hi=>?_⟩
 have:i=0∨i=1:=by simp at hi;omega
 rcases this with rfl|rfl<;>decide +kernel
theorem b0x(b:List Int)(i h bits:Int)(hc:Cur b i)(b0:0≤bits)(b1:bits≤100):Ok (fun k=>vJ k b i h bits) (fun r=>zQ r.1∧Cur b r.2.1):=by
 unfold vJ
 refine sG (d1c 4 oM b i h [] [] 0 bits hc (by simp[MS]) ⟨by simp,by simp⟩ (by simp) oM oM b0 b1) (fun r hr=>?_)
 obtain⟨_,_,_,c⟩:=hr
 refine tH (fun _=>sH ⟨b0d,c⟩) (fun hl=>?_)
 obtain⟨q,hq⟩:=d7b r.1
 exact sG (b4t r.1 ⟨q,hq⟩) (fun x hx=>tH (fun ht=>sH ⟨hx ht,c⟩) (fun _=>sH ⟨b0d,c⟩))
theorem c4f(b:List Int)(i h:Int)(hc:Cur b i):Ok (fun k=>zC k b i h) (fun r=>1≤r.1.length∧r.1.length≤81∧Cur b r.2.1):=by
 unfold zC
 refine sG (b0x b i h 8 hc oM oM) (fun r hr=>?_)
 obtain⟨t,i1,h1⟩:=r
 obtain⟨⟨l1,l2,_⟩,c1⟩:=hr
 simp only at l1 l2 c1
 obtain⟨y,i2,h2,e2,y0,_,y1,c2⟩:=qV b i1 h1 (t.length:Int) c1
 have y1:=y1 oM
 refine pF e2 ?_
 obtain⟨z,i3,h3,e3,z0,_,z1,c3⟩:=qV b i2 h2 12 c2
 refine pF e3 ?_
 simp only
 refine tH (fun _=>?_) (fun _=>tH (fun _=>?_) (fun _=>tH (fun _=>?_) (fun _=>tH (fun _=>?_) (fun _=>tH (fun _=>?_) (fun _=>tH (fun _=>tH (fun _=>?_) (fun _=>?_)) (fun _=>?_))))))
 ·obtain⟨w,i4,h4,e4,_,c4⟩:=a5y b i3 h3 [0,1,2,9] (by simp) c3
  exact pF e4 (pI y0 (pI y1 (sH ⟨by simp;omega,by simp;omega,c4⟩)))
 ·obtain⟨w,i4,h4,e4,_,_,_,c4⟩:=qV b i3 h3 (wrap64 ((t.length:Int)+2)) c3
  exact pF e4 (pI y0 (pI y1 (sH ⟨by simp;omega,by simp;omega,c4⟩)))
 ·obtain⟨w,i4,h4,e4,_,c4⟩:=a5y b i3 h3 [(-1),0,1,8] (by simp) c3
  exact pF e4 (pI y0 (pI y1 (sH ⟨by simp;omega,by simp;omega,c4⟩)))
 ·obtain⟨w,i4,h4,e4,_,_,_,c4⟩:=qV b i3 h3 23 c3
  exact pF e4 (pI y0 (pI y1 (sH ⟨by simp;omega,by simp;omega,c4⟩)))
 ·rw[kU (x:=y+1) oM oM]
  exact pI oM (pI oM (sH ⟨by simp;omega,by simp;omega,c3⟩))
 ·exact pI y0 (pI y1 (pI oM (sH ⟨by simp,by simp;omega,c3⟩)))
 ·exact sH ⟨by simp only;omega,by simp only;omega,c3⟩
 ·exact sH ⟨by simp only;omega,by simp only;omega,c3⟩
theorem c0t(b:List Int)(n:Nat) :∀(j:Nat) (t:List S31) (i h:Int),j+n=3→1≤t.length→t.length≤81→Cur b i→Ok (fun k=>uS k t (j:Int) b i h) (fun r=>1≤r.1.length∧r.1.length≤81∧Cur b r.2.1):=by
 induction n with
 | zero =>
  intro j t i h hj h1 h2 hc
  refine qG ?_
  simp only[uS]
  refine zZ oM (qG ?_)
  simp only[sI]
  exact zZ (by simp) (sH ⟨h1,h2,hc⟩)
 | succ n ih =>
  intro j t i h hj h1 h2 hc
  have jf:Ok (fun k=>sI k t (j:Int) false b i h) (fun r=>1≤r.1.length∧r.1.length≤81∧Cur b r.2.1):=by
   refine qG ?_
   simp only[sI]
   exact zZ (by simp) (sH ⟨h1,h2,hc⟩)
  refine qG ?_
  simp only[uS]
  rw[kU (x:=(t.length:Int)-1) oM oM]
  refine pI oM (tH (fun hgt=>pI oM (pI oM (pF (d1h _) ?_))) (fun _=>jf))
  refine qG ?_
  simp only[sI]
  refine tH (fun _=>?_) (fun _=>sH ⟨h1,h2,hc⟩)
  obtain⟨x,i1,h1',e1,c1⟩:=a1b b i h 3 hc
  rw[kU (x:=(t.length:Int)-1) oM oM,wS j]
  refine pF e1 (tH (fun _=>sH ⟨h1,h2,c1⟩) (fun _=>pI oM (pI oM (ih (j+1) _ _ _ oM (by simp;omega) (by simp;omega) c1))))
theorem c0u(b:List Int)(i h:Int)(hc:Cur b i):Ok (fun k=>yG k b i h) (fun r=>1≤r.1.length∧r.1.length≤81∧Cur b r.2.1):=by
 unfold yG
 refine sG (c4f b i h hc) (fun r hr=>?_)
 exact c0t b 3 0 r.1 r.2.1 r.2.2 rfl hr.1 hr.2.1 hr.2.2
theorem b6e(b:List Int)(m:Nat)(hm:m≤8)(n:Nat) :∀(j:Nat) (e:List Int) (i h:Int),j+n=m→e.length=j→(∀x∈e,0≤x∧x<4)→Cur b i→Ok (fun k=>vO k e (m:Int) (j:Int) b i h) (fun r=>r.1.length=m∧(∀x∈r.1,0≤x∧x<4)∧Cur b r.2.1):=by
 induction n with
 | zero =>
  intro j e i h hj he hx hc
  refine qG ?_
  simp only[vO]
  exact zZ oM (sH ⟨by simp only;omega,hx,hc⟩)
 | succ n ih =>
  intro j e i h hj he hx hc
  refine qG ?_
  simp only[vO]
  obtain⟨y,i1,h1,e1,y0,_,y1,c1⟩:=qV b i h 4 hc
  have y1:=y1 oM
  rw[wS j]
  refine pI oM (pF e1 (pI oM (ih (j+1) _ _ _ oM (by simp;omega) (fun x hx'=>?_) c1)))
  rcases List.mem_append.mp hx' with h|h
  ·exact hx x h
  ·obtain rfl:=List.mem_singleton.mp h;exact⟨y0,y1⟩
theorem c3z(b:List Int)(i h:Int)(hc:Cur b i):Ok (fun k=>zB k b i h) (fun r=>(r.1.length=7∨r.1.length=8)∧(∀x∈r.1,0≤x∧x<4)∧Cur b r.2.1):=by
 unfold zB
 obtain⟨x,i1,h1,e1,c1⟩:=a1b b i h 20 hc
 refine pF rfl (pF e1 (tH (fun _=>?_) (fun _=>?_)))
 ·refine qG ?_
  simp only[wW]
  exact b1c (b6e b 7 oM 7 0 [] i1 h1 rfl rfl (by simp) c1) (fun r hr=>⟨.inl hr.1,hr.2⟩)
 ·refine qG ?_
  simp only[wW]
  exact b1c (b6e b 8 oM 8 0 [] i1 h1 rfl rfl (by simp) c1) (fun r hr=>⟨.inr hr.1,hr.2⟩)
theorem d6b(l:List Int)(hl:(l.length:Int)≤140737488351232)(d:Nat) :∀(h j:Int),0≤j→4000-j≤d→Ok (fun k=>vQ k l h j) (fun r=>r.1=l∧r.2.1=0):=by
 induction d with
 | zero =>
  intro h j h0 hd
  refine qG ?_
  simp only[vQ]
  exact tH (fun _=>zZ oM (sH ⟨rfl,rfl⟩)) (fun _=>sH ⟨rfl,rfl⟩)
 | succ d ih =>
  intro h j h0 hd
  refine qG ?_
  simp only[vQ]
  refine tH (fun _=>tH (fun _=>pI h0 ?_) (fun _=>sH ⟨rfl,rfl⟩)) (fun _=>sH ⟨rfl,rfl⟩)
  rw[kU (x:=j+1) oM oM]
  exact ih _ (j+1) oM oM
theorem b7p(l:List Int)(hl:(l.length:Int)≤140737488351232):Ok (fun k=>zD k l) (fun r=>r.1=l∧Cur l r.2.1):=by
 unfold zD
 exact b1c (d6b l hl 4000 _ 0 oM oM) (fun r hr=>⟨hr.1,by rw[hr.2];unfold Cur;omega⟩)
theorem b6n(l:List Int)(hl:(l.length:Int)≤140737488351232):Ok (fun k=>wQ k l) (fun r=>(1≤r.1.length∧r.1.length≤81)∧(r.2.length=7∨r.2.length=8)∧(∀x∈r.2,0≤x∧x<4)):=by
 unfold wQ
 refine sG (b7p l hl) (fun c hc=>?_)
 obtain⟨c0,c1,c2⟩:=c
 obtain⟨h0,h1⟩:=hc
 simp only at h0 h1
 subst h0
 refine sG (c0u c0 c1 c2 h1) (fun r hr=>?_)
 exact sG (c3z c0 r.2.1 r.2.2 hr.2.2) (fun e he=>sH ⟨⟨hr.1,hr.2.1⟩,he.1,he.2.1⟩)
inductive Tm where
 | leaf (op W K:Int)
 | un (op W K B:Int) (a:Tm)
 | bin (op W K:Int) (a b:Tm)
 | ter (op W K:Int) (a b c:Tm)
def Tm.wid:Tm→Int
 | .leaf _ W _=>W
 | .un _ W _ _ _=>W
 | .bin _ W _ _ _=>W
 | .ter _ W _ _ _ _=>W
def mkT(op W K B:Int):List Tm→Tm
 | []=> .leaf op W K
 | [a]=> .un op W K B a
 | [a,b]=> .bin op W K a b
 | a::b::c::_=> .ter op W K a b c
theorem d1a(op W K B:Int) :∀ts,(mkT op W K B ts).wid=W
 | []=>rfl
 | [_]=>rfl
 | [_,_]=>rfl
 | _::_::_::_=>rfl
def tr(l:List S31):Nat→Nat→Tm
 | 0,_=> .leaf 0 0 0
 | n+1,i=>mkT (kA l (i:Int)).f0 (kA l (i:Int)).f1 (kA l (i:Int)).f2 (kA l (i:Int)).f4 ((pl l i).map fun p=>tr l n p.toNat)
theorem b9f{l:List S31}(hP:qX l)(n:Nat) :∀m i:Nat,i<n→i<m→i<l.length→tr l n i=tr l m i:=by
 induction n with
 | zero=>intro m i h;omega
 | succ n ih =>
  intro m i h1 h2 hi
  obtain⟨m,rfl⟩ :∃m',m=m'+1:=⟨m-1,oM⟩
  unfold tr
  congr 1
  refine List.map_congr_left (fun p hp=>?_)
  have:=hP i hi p hp
  exact ih m p.toNat oM oM oM
def T(l:List S31)(i:Nat):Tm:=tr l (i+1) i
theorem a6p{l:List S31}(hP:qX l)(i:Nat)(hi:i<l.length):T l i=mkT (kA l (i:Int)).f0 (kA l (i:Int)).f1 (kA l (i:Int)).f2 (kA l (i:Int)).f4 ((pl l i).map fun p=>T l p.toNat):=by
 show tr l (i+1) i=_
 unfold tr
 congr 1
 refine List.map_congr_left (fun p hp=>?_)
 have:=hP i hi p hp
 exact b9f hP _ _ _ oM oM oM
theorem d2a{l:List S31}(i:Nat):(T l i).wid=(kA l (i:Int)).f1:=by
 show(tr l (i+1) i).wid=_
 unfold tr
 exact d1a _ _ _ _ _
def qv(op:Int)(n:Nat)(f:Nat→Int):Int :=
 if op=19 then(if(List.range n).all (fun x=>f x==1)=true then 1 else 0)else(if(List.range n).any (fun x=>f x==1)=true then 1 else 0)
def sem:Tm→List Int→Int
 | .leaf op W K,env=>if op=1 then rd env K else xA op W K 1 0 0 0
 | .un op W K B a,env=>if op=19∨op=20 then qv op (2 ^ B.toNat) (fun x=>sem a (env.set K.toNat (x:Int)))else xA op W K a.wid (sem a env) 0 0
 | .bin op W K a b,env=>xA op W K a.wid (sem a env) (sem b env) 0
 | .ter op W K a b c,env=>xA op W K a.wid (sem a env) (sem b env) (sem c env)
theorem yE{op A B C:Int}(h:op=19∨op=20):kL op A B C=[A]:=by
 unfold kL;rw[if_pos oM]
theorem vG{l:List S31}(h:pL l)(i:Nat)(hi:i<l.length):(1≤(kA l (i:Int)).f1∧(kA l (i:Int)).f1≤8)∧(0≤(kA l (i:Int)).f0∧(kA l (i:Int)).f0≤20)∧(0≤(kA l (i:Int)).f2∧(kA l (i:Int)).f2≤9223372036854775807):=by
 have hb:=h i hi
 unfold a2s tG at hb
 simp only[Bool.and_eq_true]at hb
 obtain⟨⟨⟨⟨h1,h2⟩,h3⟩,h4⟩,h5⟩:=hb
 have h1:=qL.mp h1
 have h2:=qL.mp h2
 refine⟨h1,h2,?_⟩
 unfold pG at h5
 unfold xE at h3
 by_cases o0:(kA l (i:Int)).f0=0
 ·rw[if_pos o0]at h5
  have:=pO.mp h5
  have:=rM (w:=(kA l (i:Int)).f1) oM oM
  omega
 rw[if_neg o0]at h5
 by_cases o1:(kA l (i:Int)).f0=1
 ·rw[if_pos o1]at h5
  have:=qL.mp h5
  omega
 rw[if_neg o1]at h5
 rw[if_neg oM]at h3
 by_cases o17:(kA l (i:Int)).f0=17
 ·rw[if_neg oM,if_neg oM,if_neg oM,if_neg oM,if_pos o17]at h5
  have:=qL.mp h5
  have hw:wrap64 (wv (l.take i) (kL (kA l (i:Int)).f0 (kA l (i:Int)).f3 (kA l (i:Int)).f4 (kA l (i:Int)).f5) (kL (kA l (i:Int)).f0 (kA l (i:Int)).f3 (kA l (i:Int)).f4 (kA l (i:Int)).f5).length 0-(kA l (i:Int)).f1)≤9223372036854775807:=by
   unfold wrap64;omega
  omega
 rw[if_neg o17]at h3
 by_cases oq:(kA l (i:Int)).f0=19∨(kA l (i:Int)).f0=20
 ·rw[if_neg oM,if_neg oM,if_neg oM,if_neg oM,if_neg oM,if_neg oM]at h5
  simp only[Bool.and_eq_true]at h5
  have:=qL.mp h5.1.1.1
  omega
 rw[if_neg oq]at h3
 by_cases o2:(kA l (i:Int)).f0=2
 ·rw[if_pos o2]at h3
  simp only[Bool.and_eq_true,beq_iff_eq]at h3
  omega
 rw[if_neg o2]at h3
 by_cases o3:3≤(kA l (i:Int)).f0∧(kA l (i:Int)).f0≤16
 ·rw[if_pos o3]at h3
  simp only[Bool.and_eq_true,beq_iff_eq]at h3
  omega
 rw[if_neg o3]at h3
 by_cases o18:(kA l (i:Int)).f0=18
 ·rw[if_pos o18]at h3
  simp only[Bool.and_eq_true,beq_iff_eq]at h3
  omega
 ·omega
theorem b1d{l:List S31}(h:pL l)(i:Nat)(hi:i<l.length)(o:(kA l (i:Int)).f0=1):(kA l (i:Int)).f2≤7:=by
 have hb:=h i hi
 unfold a2s tG pG at hb
 simp only[Bool.and_eq_true]at hb
 rw[if_neg oM,if_pos o]at hb
 exact(qL.mp hb.2).2
theorem uP{l:List S31}(h:pL l)(i:Nat)(hi:i<l.length)(o:(kA l (i:Int)).f0=19∨(kA l (i:Int)).f0=20):(kA l (i:Int)).f2≤7∧(1≤(kA l (i:Int)).f4∧(kA l (i:Int)).f4≤8)∧(0≤(kA l (i:Int)).f3∧(kA l (i:Int)).f3<(i:Int))∧(kA l (kA l (i:Int)).f3).f1=1∧(kA l (i:Int)).f1=1:=by
 have hp:=pP h i hi (kA l (i:Int)).f3 (by unfold pl;rw[yE o];simp)
 have hb:=h i hi
 unfold a2s tG pG at hb
 simp only[Bool.and_eq_true]at hb
 rw[if_neg oM,if_neg oM,if_neg oM,if_neg oM,if_neg oM,if_neg oM,if_neg oM,if_neg oM]at hb
 simp only[Bool.and_eq_true,beq_iff_eq]at hb
 obtain⟨_,⟨⟨h1,h2⟩,h3⟩,h4⟩:=hb
 have h1:=qL.mp h1
 have h2:=qL.mp h2
 rw[yE o]at h3
 have h3:(kA (l.take i) (rd [(kA l (i:Int)).f3] 0)).f1=1:=h3
 rw[show rd [(kA l (i:Int)).f3] 0=(kA l (i:Int)).f3 from rfl,a5r l i _ hp.1 hp.2]at h3
 exact⟨h1.2,h2,hp,h3,h4⟩
theorem a5h{w:Int}(h:0≤w):P2 w=((2 ^ w.toNat:Nat):Int):=by unfold P2;simp
theorem zK{α:Type}{g:Nat→Option α}{r:α}(h:Ev g r):Ev (fun k=>g (k+1)) r:=by
 obtain⟨n,h⟩:=h
 exact⟨n,fun k hk=>h (k+1) oM⟩
def HA(l:List S31)(i:Nat)(A:Nat→List S31→List Int→Int→Option (Int×List Int)):Prop :=
 ∀(env:List Int) (j:Nat),env.length=8→j<i→Ev (fun k=>A k l env (j:Int)) (sem (T l j) env,env)
theorem a6r{l:List S31}{i:Nat}{A:Nat→List S31→List Int→Int→Option (Int×List Int)}(h:HA l i A):HA l i (fun k=>A (k+1)) :=
 fun env j he hj=>zK (h env j he hj)
theorem d5o(l:List Int)(i:Int)(h0:0≤i)(h1:i<(l.length:Int)):l.set i.toNat (rd l i)=l:=by
 unfold rd
 rw[List.getD_eq_getElem?_getD,List.getElem?_eq_getElem oM]
 exact List.set_getElem_self _
theorem c4g(n:Nat)(f:Nat→Bool):(List.range (n+1)).all f=((List.range n).all f&&f n):=by
 rw[List.range_succ,List.all_append];simp
theorem c4e(n:Nat)(f:Nat→Bool):(List.range (n+1)).any f=((List.range n).any f || f n):=by
 rw[List.range_succ,List.any_append];simp
theorem d5z(l:List S31)(a i:Nat)(hai:a<i)(env:List Int)(he:env.length=8)(op W K B C:Int)(hK0:0≤K)(hK:K≤7)(hB0:1≤B)(hB:B≤8)(d:Nat) :∀(x:Nat) (A:Nat→List S31→List Int→Int→Option (Int×List Int)) (env':List Int),HA l i A→x+d=2 ^ B.toNat→env'.length=8→(∀y,env'.set K.toNat y=env.set K.toNat y)→
  Ev (fun k=>uJ (A k) k l env' (rd env K) (if(List.range x).all (fun y=>sem (T l a) (env.set K.toNat (y:Int))==1)=true then 1 else 0) (if(List.range x).any (fun y=>sem (T l a) (env.set K.toNat (y:Int))==1)=true then 1 else 0) (x:Int) op W K (a:Int) B C) (qv op (2 ^ B.toNat) (fun x=>sem (T l a) (env.set K.toNat (x:Int))),env):=by
 have hp :∀x:Nat,x≤2 ^ B.toNat→(x:Int)≤256:=by
  intro x hx
  have:=rM (w:=B) oM hB
  rw[a5h oM]at this
  omega
 induction d with
 | zero =>
  intro x A env' hA hx hl hs
  have:=hp x oM
  obtain rfl:x=2 ^ B.toNat:=by omega
  refine kS ?_
  simp only[uJ]
  refine kP (a:=P2 B) (a1h 20 fun k hk=>a9e oM hB hk) ?_
  refine kN (by rw[a5h oM];omega) (kD hK0 (kD (by rw[hl];omega) (qA rfl ?_)))
  rw[hs,d5o env K hK0 oM]
  unfold qv
  by_cases h19:op=19
  ·rw[if_pos h19,if_pos h19];exact pZ
  ·rw[if_neg h19,if_neg h19];exact pZ
 | succ d ih =>
  intro x A env' hA hx hl hs
  have:=hp x oM
  refine kS ?_
  simp only[uJ]
  refine kP (a:=P2 B) (a1h 20 fun k hk=>a9e oM hB hk) ?_
  refine kD (by rw[a5h oM];omega) (kD hK0 (kD (by rw[hl];omega) ?_))
  refine kP (a6r hA (env'.set K.toNat (x:Int)) a (by simpa using hl) hai) ?_
  rw[wS x]
  rw[hs]
  have ih:=ih (x+1) (fun k=>A (k+1)) (env.set K.toNat (x:Int)) (a6r hA) oM (by simpa using he) (fun y=>by simp)
  rw[c4g,c4e]at ih
  by_cases h1:sem (T l a) (env.set K.toNat (x:Int))=1
  ·refine kD h1 ?_
   rw[show(sem (T l a) (env.set K.toNat (x:Int))==1)=true from beq_iff_eq.mpr h1,Bool.and_true,Bool.or_true,if_pos (rfl:true=true)]at ih
   exact ih
  ·refine kN h1 ?_
   rw[show(sem (T l a) (env.set K.toNat (x:Int))==1)=false from beq_eq_false_iff_ne.mpr h1,Bool.and_false,Bool.or_false,if_neg (show ¬(false=true) by decide)]at ih
   exact ih
theorem d5y(l:List S31)(i:Nat)(hi:i<l.length)(hl:l.length≤80)(env vals:List Int)(hv:vals.length=i)(hvals :∀t<i,rd vals (t:Int)=sem (T l t) env)(ps:List Int)(hps:ps.length≤3)(hin :∀p∈ps,0≤p∧p<(i:Int))(op W K A_ B C:Int)(hk1: -9223372036854775808≤K)(hk2:K≤9223372036854775807)(d:Nat) :
  ∀(j:Nat) (A:Nat→List S31→List Int→Int→Option (Int×List Int)) (v:List Int) (w:Int),j+d=ps.length→v.length=3→(w=if j=0 then 1 else(kA l (rd ps 0)).f1)→(∀t:Nat,t<3→rd v (t:Int)=if t<j then sem (T l (rd ps (t:Int)).toNat) env else 0)→
   Ev (fun k=>uI (A k) k l env vals v w ps (j:Int) op W K A_ B C) (xA op W K (if ps.length=0 then 1 else(kA l (rd ps 0)).f1) (if 0<ps.length then sem (T l (rd ps 0).toNat) env else 0) (if 1<ps.length then sem (T l (rd ps 1).toNat) env else 0) (if 2<ps.length then sem (T l (rd ps 2).toNat) env else 0),env):=by
 induction d with
 | zero =>
  intro j A v w hj hv3 hw h
  obtain rfl:j=ps.length:=by omega
  refine kS ?_
  simp only[uI]
  refine kN oM (kD oM (kD oM (kD oM ?_)))
  refine kP (a1h 40 fun k hk=>d7e op W K A_ B C w _ _ _ hk1 hk2 hk) (yF ?_)
  have e0:=h 0 oM
  have e1:=h 1 oM
  have e2:=h 2 oM
  rw[show((0:Nat):Int)=0 from rfl]at e0
  rw[show((1:Nat):Int)=1 from rfl]at e1
  rw[show((2:Nat):Int)=2 from rfl]at e2
  rw[e0,e1,e2,hw]
 | succ d ih =>
  intro j A v w hj hv3 hw h
  have hp:=hin (rd ps (j:Int)) (by rw[rdI ps j oM];exact List.getElem_mem _)
  refine kS ?_
  simp only[uI]
  refine kD oM (kD oM (kD hp.1 (kD oM (kD oM (qA rfl ?_)))))
  rw[wS j,Int.toNat_natCast]
  have hval:rd vals (rd ps (j:Int))=sem (T l (rd ps (j:Int)).toNat) env:=by
   have:=hvals (rd ps (j:Int)).toNat oM
   rwa [Int.toNat_of_nonneg hp.1]at this
  have hnew :∀t:Nat,t<3→rd (v.set j (rd vals (rd ps (j:Int)))) (t:Int)=if t<j+1 then sem (T l (rd ps (t:Int)).toNat) env else 0:=by
   intro t ht
   have this:v.getD t 0=_:=h t ht
   show(v.set j (rd vals (rd ps (j:Int)))).getD t 0=_
   rw[List.getD_eq_getElem?_getD,List.getElem?_set]
   by_cases hjt:j=t
   ·subst hjt
    rw[if_pos rfl,if_pos oM,if_pos oM]
    exact hval
   ·rw[if_neg hjt,← List.getD_eq_getElem?_getD,this]
    by_cases c:t<j
    ·rw[if_pos c,if_pos oM]
    ·rw[if_neg c,if_neg oM]
  by_cases j0:j=0
  ·subst j0
   refine kD rfl (kD oM ?_)
   exact ih 1 (fun k=>A (k+1)) _ _ oM (by simpa using hv3) rfl hnew
  ·refine kN oM ?_
   rw[if_neg j0]at hw
   exact ih (j+1) (fun k=>A (k+1)) _ _ oM (by simpa using hv3) (by rw[if_neg oM];exact hw) hnew
theorem b4e(l:List S31)(op W K B:Int)(ps:List Int)(hps:ps.length≤3)(h1:op≠1)(hq :¬(op=19∨op=20))(env:List Int)(hw :∀p∈ps,0≤p) :
  sem (mkT op W K B (ps.map fun p=>T l p.toNat)) env=xA op W K (if ps.length=0 then 1 else(kA l (rd ps 0)).f1) (if 0<ps.length then sem (T l (rd ps 0).toNat) env else 0) (if 1<ps.length then sem (T l (rd ps 1).toNat) env else 0) (if 2<ps.length then sem (T l (rd ps 2).toNat) env else 0):=by
 have wd :∀p:Int,0≤p→(T l p.toNat).wid=(kA l p).f1:=by
  intro p hp
  rw[d2a,Int.toNat_of_nonneg hp]
 match ps,hps with
 | [],_=>simp[mkT,sem,h1]
 | [a],_=>simp[mkT,sem,hq,rd,wd a (hw a (by simp))]
 | [a,b],_=>simp[mkT,sem,rd,wd a (hw a (by simp))]
 | [a,b,c],_=>simp[mkT,sem,rd,wd a (hw a (by simp))]
 | a::b::c::d::r,h=>simp at h
theorem d6a{l:List S31}(hN:pL l)(hl:l.length≤80)(i:Nat)(hi:i<l.length)(A:Nat→List S31→List Int→Int→Option (Int×List Int))(hA:HA l i A)(env vals:List Int)(he:env.length=8)(hv:vals.length=i)(hvals :∀t<i,rd vals (t:Int)=sem (T l t) env) :
  Ev (fun k=>zA (A k) k l env vals (i:Int)) (sem (T l i) env,env):=by
 have hP:=pP hN
 have hf:=vG hN i hi
 unfold zA
 rw[a6p hP i hi]
 refine kD oM (kD oM ?_)
 by_cases o1:(kA l (i:Int)).f0=1
 ·have:=b1d hN i hi o1
  refine kD o1 (kD oM (kD oM (yF ?_)))
  have hpl:pl l i=[]:=by unfold pl;rw[o1];rfl
  rw[hpl,o1]
  rfl
 ·refine kN o1 (qA (d1h _) ?_)
  by_cases oq:(kA l (i:Int)).f0=19∨(kA l (i:Int)).f0=20
  ·obtain⟨k7,⟨b1,b8⟩,⟨a0,a1⟩,_,_⟩:=uP hN i hi oq
   have hpl:pl l i=[(kA l (i:Int)).f3]:=by unfold pl;exact yE oq
   refine kD (by simpa using oq) (kD oM (kD oM ?_))
   rw[hpl]
   show Ev _ (sem (mkT _ _ _ _ [_]) env,env)
   simp only[mkT,sem]
   rw[if_pos oq]
   have:=d5z l (kA l (i:Int)).f3.toNat i oM env he (kA l (i:Int)).f0 (kA l (i:Int)).f1 (kA l (i:Int)).f2 (kA l (i:Int)).f4 (kA l (i:Int)).f5 oM k7 b1 b8 (2 ^ (kA l (i:Int)).f4.toNat) 0 A env hA oM he (fun _=>rfl)
   rw[Int.toNat_of_nonneg a0]at this
   exact this
  ·refine kN (by simpa using oq) (kP (a:=pl l i) (a1h 1 fun k hk=>a5z _ _ _ _ _ _ hk) ?_)
   have hlen:(pl l i).length≤3:=qF _ _ _ _
   have hin:=hP i hi
   rw[b4e l _ _ _ _ (pl l i) hlen o1 oq env (fun p hp=>(hin p hp).1)]
   exact d5y l i hi hl env vals hv hvals (pl l i) hlen hin _ _ _ _ _ _ oM oM (pl l i).length 0 A [0,0,0] 1 oM rfl rfl (by
    intro t ht
    rw[if_neg oM]
    have:t=0∨t=1∨t=2:=by omega
    rcases this with rfl|rfl|rfl<;>rfl)
theorem d8b{l:List S31}(hN:pL l)(hl:l.length≤80)(i:Nat)(hi:i<l.length)(env:List Int)(he:env.length=8)(d:Nat) :∀(j:Nat) (A:Nat→List S31→List Int→Int→Option (Int×List Int)) (vals:List Int),HA l i A→j+d=i+1→vals.length=j→(∀t<j,rd vals (t:Int)=sem (T l t) env)→
  Ev (fun k=>vP (A k) k l env (i:Int) vals (j:Int)) (sem (T l i) env,env):=by
 induction d with
 | zero =>
  intro j A vals hA hj hv hvals
  refine kS ?_
  simp only[vP]
  refine kN oM (kD oM (kD oM (yF ?_)))
  rw[hvals i oM]
 | succ d ih =>
  intro j A vals hA hj hv hvals
  refine kS ?_
  simp only[vP]
  refine kD oM (kP (a:=(sem (T l j) env,env)) ?_ (kD oM ?_))
  ·have hA2:HA l j (fun k=>A (k+1)):=fun e t h1 h2=>a6r hA e t h1 oM
   exact d6a hN hl j oM (fun k=>A (k+1)) hA2 env vals he hv hvals
  ·rw[wS j]
   refine ih (j+1) (fun k=>A (k+1)) _ (a6r hA) oM (by simp[hv]) ?_
   intro t ht
   by_cases c:t<j
   ·have:=hvals t c
    unfold rd at this ⊢
    rw[Int.toNat_natCast]at this ⊢
    rw[List.getD_eq_getElem?_getD,List.getElem?_append_left oM,← List.getD_eq_getElem?_getD]
    exact this
   ·obtain rfl:t=j:=by omega
    unfold rd
    rw[Int.toNat_natCast,List.getD_eq_getElem?_getD,List.getElem?_append_right oM,hv,Nat.sub_self]
    rfl
theorem d8c{l:List S31}(hN:pL l)(hl:l.length≤80)(i:Nat) :∀(env:List Int),i<l.length→env.length=8→Ev (fun k=>uK k l env (i:Int)) (sem (T l i) env,env):=by
 induction i using Nat.strongRecOn with
 | ind i ih =>
  intro env hi he
  refine kS ?_
  simp only[uK,a0l]
  have hA:HA l i (fun k=>uK k):=fun e j h1 h2=>ih j h2 e oM h1
  have:=d8b hN hl i hi env he (i+1) 0 (fun k=>match k with|0=>fun _ _ _=>none|k+1=>uK k) [] (fun e j h1 h2=>kS (hA e j h1 h2)) oM rfl (fun t h=>absurd h oM)
  exact zK this
theorem b6i(a b w:Nat)(hw:w≤9)(ha:a<2 ^ w)(hb:b<2 ^ w):((Go.bits .and .i64 (a:Int) (b:Int))=((a &&& b:Nat):Int))∧((Go.bits .or .i64 (a:Int) (b:Int))=((a ||| b:Nat):Int))∧((Go.bits .xor .i64 (a:Int) (b:Int))=((a ^^^ b:Nat):Int)):=by
 have hle:2 ^ w≤2 ^ 9:=Nat.pow_le_pow_right oM hw
 have ha':(BitVec.ofInt 64 (a:Int)).toNat=a:=by
  have:=zO (x:=(a:Int)) oM oM
  omega
 have hb':(BitVec.ofInt 64 (b:Int)).toNat=b:=by
  have:=zO (x:=(b:Int)) oM oM
  omega
 have h1:=Nat.and_lt_two_pow a hb
 have h2:=Nat.or_lt_two_pow ha hb
 have h3:=Nat.xor_lt_two_pow ha hb
 refine⟨?_,?_,?_⟩
 ·show IntKind.i64.wrap ((BitVec.ofInt 64 _ &&& BitVec.ofInt 64 _).toNat:Int)=_
  rw[BitVec.toNat_and,ha',hb',IntKind.wrap_i64]
  omega
 ·show IntKind.i64.wrap ((BitVec.ofInt 64 _ ||| BitVec.ofInt 64 _).toNat:Int)=_
  rw[BitVec.toNat_or,ha',hb',IntKind.wrap_i64]
  omega
 ·show IntKind.i64.wrap ((BitVec.ofInt 64 _ ^^^ BitVec.ofInt 64 _).toNat:Int)=_
  rw[BitVec.toNat_xor,ha',hb',IntKind.wrap_i64]
  omega
theorem c4c{w a b:Int}(ha:wok w a=true)(hb:wok w b=true):wok w (Go.bits .and .i64 a b)=true∧wok w (Go.bits .or .i64 a b)=true∧wok w (Go.bits .xor .i64 a b)=true:=by
 obtain⟨w1,w8,a0,a1⟩:=pO.mp ha
 obtain⟨_,_,b0,b1⟩:=pO.mp hb
 rw[a5h oM]at a1 b1
 obtain⟨a,rfl⟩:=Int.eq_ofNat_of_zero_le a0
 obtain⟨b,rfl⟩:=Int.eq_ofNat_of_zero_le b0
 obtain⟨e1,e2,e3⟩:=b6i a b w.toNat oM oM oM
 have h1:=Nat.and_lt_two_pow (n:=w.toNat) a (show b<2 ^ w.toNat by omega)
 have h2:=Nat.or_lt_two_pow (show a<2 ^ w.toNat by omega) (show b<2 ^ w.toNat by omega)
 have h3:=Nat.xor_lt_two_pow (show a<2 ^ w.toNat by omega) (show b<2 ^ w.toNat by omega)
 rw[e1,e2,e3]
 simp only[pO]
 rw[a5h oM]
 omega
theorem a0k{w a:Int}(h:wok w a=true):0≤a∧a≤255:=by
 obtain⟨w1,w8,a0,a1⟩:=pO.mp h
 have:=rM (w:=w) oM w8
 omega
theorem a7p{w x:Int}(h1:1≤w)(h8:w≤8):wok w (x%P2 w)=true:=by
 have:=rM (w:=w) oM h8
 have h2:=Int.emod_nonneg x (show P2 w≠0 by omega)
 have h3:=Int.emod_lt_of_pos x (show 0<P2 w by omega)
 exact pO.mpr ⟨h1,h8,h2,oM⟩
theorem b5r{w:Int}(h1:1≤w)(h8:w≤8):wok w 0=true:=by
 have:=rM (w:=w) oM h8
 exact pO.mpr ⟨h1,h8,oM,oM⟩
theorem b8z{x:Int}(h:x=0∨x=1):wok 1 x=true:=by
 rcases h with rfl|rfl<;>decide
theorem d1y{x:Int}(h:wok 1 x=true):x=0∨x=1:=by
 obtain⟨_,_,h0,h1⟩:=pO.mp h
 rw[show P2 1=2 from rfl]at h1
 omega
set_option maxHeartbeats 1000000 in
theorem c2t{op w a b:Int}(ha:wok w a=true)(hb:wok w b=true):wok w (d2h op w a b)=true:=by
 have hbw:=c4c ha hb
 obtain⟨w1,w8,a0,a1⟩:=pO.mp ha
 obtain⟨_,_,b0,b1⟩:=pO.mp hb
 have hab:(wok w a&&wok w b)=true:=by rw[ha,hb];rfl
 unfold d2h
 rw[if_pos hab,if_pos hab,if_pos hab,if_pos hab,if_pos hab,if_pos hab,if_pos hab]
 have hz:=b5r w1 w8
 have hdiv :∀c:Int,0<c→wok w (a / c)=true:=by
  intro c hc
  have h1:0≤a / c:=Int.ediv_nonneg a0 oM
  have h2:a / c≤a:=Int.ediv_le_self c a0
  exact pO.mpr ⟨w1,w8,h1,oM⟩
 by_cases o3:op=3
 ·rw[if_pos o3];exact hbw.1
 rw[if_neg o3]
 by_cases o4:op=4
 ·rw[if_pos o4];exact hbw.2.1
 rw[if_neg o4]
 by_cases o5:op=5
 ·rw[if_pos o5];exact hbw.2.2
 rw[if_neg o5]
 by_cases o6:op=6
 ·rw[if_pos o6];exact a7p w1 w8
 rw[if_neg o6]
 by_cases o7:op=7
 ·rw[if_pos o7];exact a7p w1 w8
 rw[if_neg o7]
 by_cases o8:op=8
 ·rw[if_pos o8];exact a7p w1 w8
 rw[if_neg o8]
 by_cases o9:op=9
 ·rw[if_pos o9]
  by_cases hb0:b=0
  ·rw[if_pos hb0]
   have:=rM (w:=w) oM w8
   exact pO.mpr ⟨w1,w8,oM,oM⟩
  ·rw[if_neg hb0];exact hdiv b oM
 rw[if_neg o9]
 by_cases o10:op=10
 ·rw[if_pos o10]
  by_cases hb0:b=0
  ·rw[if_pos hb0];exact ha
  ·rw[if_neg hb0]
   have h1:=Int.emod_nonneg a (show b≠0 by omega)
   have h2:=Int.emod_lt_of_pos a (show 0<b by omega)
   exact pO.mpr ⟨w1,w8,h1,oM⟩
 rw[if_neg o10]
 by_cases o11:op=11
 ·rw[if_pos o11]
  by_cases hbw:b≥w
  ·rw[if_pos hbw];exact hz
  ·rw[if_neg hbw];exact a7p w1 w8
 rw[if_neg o11]
 by_cases hbw:b≥w
 ·rw[if_pos hbw];exact hz
 ·rw[if_neg hbw]
  have:=rM (w:=b) b0 oM
  exact hdiv _ oM
theorem b1p{c:Prop}[Decidable c]:(if c then(1:Int)else 0)=0∨(if c then(1:Int)else 0)=1:=by
 by_cases h:c
 ·rw[if_pos h];exact .inr rfl
 ·rw[if_neg h];exact .inl rfl
def a9a:Tm→List Int→Prop
 | .leaf op W K,env=>op=1→wok W (rd env K)=true
 | .un op W K B a,env=>(¬(op=19∨op=20)→a9a a env)∧((op=19∨op=20)→∀x:Nat,x<2 ^ B.toNat→a9a a (env.set K.toNat (x:Int)))
 | .bin op W K a b,env=>a9a a env∧a9a b env
 | .ter op W K a b c,env=>a9a a env∧a9a b env∧a9a c env
theorem d1k{op W K B:Int}{env:List Int}(hq :¬(op=19∨op=20)) :∀(ts:List Tm),ts.length≤3→a9a (mkT op W K B ts) env→∀t∈ts,a9a t env
 | [],_,_,t,h=>by simp at h
 | [a],_,h,t,ht=>by obtain rfl:=List.mem_singleton.mp ht;exact h.1 hq
 | [a,b],_,h,t,ht=>by
  rcases List.mem_cons.mp ht with rfl|ht
  ·exact h.1
  ·obtain rfl:=List.mem_singleton.mp ht;exact h.2
 | [a,b,c],_,h,t,ht=>by
  rcases List.mem_cons.mp ht with rfl|ht
  ·exact h.1
  rcases List.mem_cons.mp ht with rfl|ht
  ·exact h.2.1
  ·obtain rfl:=List.mem_singleton.mp ht;exact h.2.2
 | _::_::_::_::_,h,_,_,_=>by simp at h
theorem b3f{l:List S31}(hP:qX l)(i:Nat)(hi:i<l.length)(hq :¬((kA l (i:Int)).f0=19∨(kA l (i:Int)).f0=20)){env:List Int}(h:a9a (T l i) env)(p:Int)(hp:p∈pl l i):a9a (T l p.toNat) env:=by
 rw[a6p hP i hi]at h
 exact d1k hq _ (by rw[List.length_map];exact qF _ _ _ _) h _ (List.mem_map.mpr ⟨p,hp,rfl⟩)
theorem b7i{l:List S31}(hP:qX l)(i:Nat)(hi:i<l.length)(hq:(kA l (i:Int)).f0=19∨(kA l (i:Int)).f0=20){env:List Int}(h:a9a (T l i) env)(x:Nat)(hx:x<2 ^ (kA l (i:Int)).f4.toNat):a9a (T l (kA l (i:Int)).f3.toNat) (env.set (kA l (i:Int)).f2.toNat (x:Int)):=by
 rw[a6p hP i hi,show pl l i=[(kA l (i:Int)).f3]from yE hq]at h
 exact h.2 hq x hx
theorem c3w{l:List S31}(hP:qX l)(i:Nat)(hi:i<l.length)(o1:(kA l (i:Int)).f0=1){env:List Int}(h:a9a (T l i) env):wok (kA l (i:Int)).f1 (rd env (kA l (i:Int)).f2)=true:=by
 rw[a6p hP i hi,show pl l i=[]from by unfold pl;rw[o1];rfl]at h
 exact h o1
theorem d5s(op:Int)(n:Nat)(f:Nat→Int):qv op n f=0∨qv op n f=1:=by
 unfold qv;split<;>exact b1p
set_option maxHeartbeats 2000000 in
theorem b9q{l:List S31}(hN:pL l)(i:Nat) :∀env:List Int,i<l.length→a9a (T l i) env→wok (kA l (i:Int)).f1 (sem (T l i) env)=true:=by
 have hP:=pP hN
 induction i using Nat.strongRecOn with
 | ind i ih =>
  intro env hi hg
  have hf:=vG hN i hi
  have hb:=hN i hi
  have hin:=hP i hi
  by_cases o1:(kA l (i:Int)).f0=1
  ·have:=c3w hP i hi o1 hg
   rw[a6p hP i hi,show pl l i=[]from by unfold pl;rw[o1];rfl,o1]
   exact this
  by_cases oq:(kA l (i:Int)).f0=19∨(kA l (i:Int)).f0=20
  ·have hq:=uP hN i hi oq
   rw[a6p hP i hi,show pl l i=[(kA l (i:Int)).f3]from yE oq,hq.2.2.2.2]
   show wok 1 (sem (mkT _ _ _ _ [_]) env)=true
   simp only[mkT,sem]
   rw[if_pos oq]
   exact b8z (d5s _ _ _)
  have part :∀p∈pl l i,wok (kA l p).f1 (sem (T l p.toNat) env)=true:=by
   intro p hp
   have:=hin p hp
   have h:=ih p.toNat oM env oM (b3f hP i hi oq hg p hp)
   rwa [Int.toNat_of_nonneg this.1]at h
  have wvp :∀t:Nat,t<(pl l i).length→wv (l.take i) (pl l i) (pl l i).length t=(kA l (rd (pl l i) (t:Int))).f1:=by
   intro t ht
   unfold wv
   have:=hin (rd (pl l i) (t:Int)) (by rw[rdI (pl l i) t ht];exact List.getElem_mem _)
   rw[if_pos ht,a5r l i _ this.1 this.2]
  unfold a2s tG at hb
  simp only[Bool.and_eq_true]at hb
  have h5:=hb.2
  rw[a6p hP i hi,b4e l _ _ _ _ (pl l i) (qF _ _ _ _) o1 oq env (fun p hp=>(hin p hp).1)]
  have hpl:kL (kA l (i:Int)).f0 (kA l (i:Int)).f3 (kA l (i:Int)).f4 (kA l (i:Int)).f5=pl l i:=rfl
  rw[hpl]at h5
  have hz:(0:Int)≤0∧(0:Int)≤255:=by omega
  generalize hop:(kA l (i:Int)).f0=op at *
  generalize hW:(kA l (i:Int)).f1=W at *
  generalize hKq:(kA l (i:Int)).f2=K at *
  obtain⟨hWr,hopr,_⟩:=hf
  unfold pG at h5
  by_cases o0:op=0
  ·subst o0
   rw[if_pos rfl]at h5
   have e:pl l i=[]:=by unfold pl;rw[hop];rfl
   rw[e]
   show wok W (xA 0 W K 1 0 0 0)=true
   unfold xA
   rw[if_pos ⟨hWr,oM,hz,hz,hz⟩]
   exact h5
  rw[if_neg o0,if_neg o1]at h5
  have un:(op=2∨op=17)→∃a,pl l i=[a]:=fun h=>⟨_,by unfold pl kL;rw[hop,if_pos oM]⟩
  have bi:(3≤op∧op≤16)→∃a b,pl l i=[a,b]:=fun h=>⟨_,_,by unfold pl kL;rw[hop,if_neg oM,if_pos h]⟩
  have te:op=18→∃a b c,pl l i=[a,b,c]:=fun h=>⟨_,_,_,by unfold pl kL;rw[hop,if_neg oM,if_neg oM,if_pos h]⟩
  have wr :∀p∈pl l i,1≤(kA l p).f1∧(kA l p).f1≤8:=fun p hp=>by have:=pO.mp (part p hp);omega
  by_cases o2:op=2
  ·obtain⟨a,e⟩:=un (.inl o2)
   subst o2
   rw[if_pos rfl,wvp 0 (by rw[e];simp)]at h5
   rw[e]at h5 part wr ⊢
   have h5:(kA l a).f1=W:=beq_iff_eq.mp h5
   have pa:=part a (by simp)
   show wok W (xA 2 W K (kA l a).f1 (sem (T l a.toNat) env) 0 0)=true
   rw[h5]at pa ⊢
   unfold xA
   rw[if_pos ⟨hWr,hWr,a0k pa,hz,hz⟩]
   show wok W (d0c W _)=true
   unfold d0c
   rw[if_pos pa]
   have:=pO.mp pa
   exact pO.mpr ⟨hWr.1,hWr.2,oM,oM⟩
  rw[if_neg o2]at h5
  by_cases ob:3≤op∧op≤12
  ·obtain⟨a,b,e⟩:=bi oM
   rw[if_pos ob,wvp 0 (by rw[e];simp),wvp 1 (by rw[e];simp)]at h5
   rw[e]at h5 part wr ⊢
   rw[Bool.and_eq_true]at h5
   have h51:(kA l a).f1=W:=beq_iff_eq.mp h5.1
   have h52:(kA l b).f1=W:=beq_iff_eq.mp h5.2
   have pa:=part a (by simp)
   have pb:=part b (by simp)
   show wok W (xA op W K (kA l a).f1 (sem (T l a.toNat) env) (sem (T l b.toNat) env) 0)=true
   rw[h51]at pa ⊢
   rw[h52]at pb
   unfold xA
   rw[if_pos ⟨hWr,hWr,a0k pa,a0k pb,hz⟩]
   unfold c2k
   rw[if_neg o0,if_neg o2,if_pos ob]
   exact c2t pa pb
  rw[if_neg ob]at h5
  by_cases oc:13≤op∧op≤15
  ·obtain⟨a,b,e⟩:=bi oM
   rw[if_pos oc,Bool.and_eq_true]at h5
   have hW1:W=1:=beq_iff_eq.mp h5.2
   rw[e]
   show wok W (xA op W K (kA l a).f1 (sem (T l a.toNat) env) (sem (T l b.toNat) env) 0)=true
   rw[hW1]
   refine b8z ?_
   unfold xA
   split
   ·unfold c2k
    rw[if_neg o0,if_neg o2,if_neg ob]
    by_cases o13:op=13
    ·rw[if_pos o13];exact b1p
    rw[if_neg o13]
    by_cases o14:op=14
    ·rw[if_pos o14];exact b1p
    ·rw[if_neg o14,if_pos oM];exact b1p
   ·exact .inl rfl
  rw[if_neg oc]at h5
  by_cases o16:op=16
  ·obtain⟨a,b,e⟩:=bi oM
   rw[if_pos o16,wvp 0 (by rw[e];simp),wvp 1 (by rw[e];simp)]at h5
   rw[e]at h5 part wr ⊢
   have h5:wrap64 ((kA l a).f1+(kA l b).f1)=W:=beq_iff_eq.mp h5
   have pa:=part a (by simp)
   have pb:=part b (by simp)
   have ra:=wr a (by simp)
   have rb:=wr b (by simp)
   rw[kU oM oM]at h5
   show wok W (xA op W K (kA l a).f1 (sem (T l a.toNat) env) (sem (T l b.toNat) env) 0)=true
   unfold xA
   rw[if_pos ⟨hWr,ra,a0k pa,a0k pb,hz⟩]
   unfold c2k
   rw[if_neg o0,if_neg o2,if_neg ob,if_neg oM,if_neg oM,if_neg oM,if_pos o16,if_neg oM]
   rw[show W-(kA l a).f1=(kA l b).f1 by omega]
   obtain⟨_,_,a0,a1⟩:=pO.mp pa
   obtain⟨_,_,b0,b1⟩:=pO.mp pb
   have hadd:P2 W=P2 (kA l a).f1*P2 (kA l b).f1:=by rw[← d6y oM oM,h5]
   have hpb:=rM (w:=(kA l b).f1) oM rb.2
   have hmul:sem (T l a.toNat) env*P2 (kA l b).f1≤(P2 (kA l a).f1-1)*P2 (kA l b).f1:=Int.mul_le_mul_of_nonneg_right a1 oM
   have hnn:0≤sem (T l a.toNat) env*P2 (kA l b).f1:=Int.mul_nonneg a0 oM
   rw[Int.sub_mul,← hadd]at hmul
   exact pO.mpr ⟨hWr.1,hWr.2,oM,oM⟩
  rw[if_neg o16]at h5
  by_cases o17:op=17
  ·obtain⟨a,e⟩:=un (.inr o17)
   rw[if_pos o17,wvp 0 (by rw[e];simp)]at h5
   rw[e]at h5 part wr ⊢
   have h5:inB K 0 (wrap64 ((kA l a).f1-W))=true:=h5
   have pa:=part a (by simp)
   have ra:=wr a (by simp)
   rw[kU oM oM]at h5
   have h5:=qL.mp h5
   show wok W (xA op W K (kA l a).f1 (sem (T l a.toNat) env) 0 0)=true
   unfold xA
   rw[if_pos ⟨hWr,ra,a0k pa,hz,hz⟩]
   unfold c2k
   rw[if_neg o0,if_neg o2,if_neg ob,if_neg oM,if_neg oM,if_neg oM,if_neg o16,if_pos o17]
   unfold c7b
   split
   ·exact a7p hWr.1 hWr.2
   ·exact b5r hWr.1 hWr.2
  rw[if_neg o17]at h5
  by_cases o18:op=18
  ·obtain⟨a,b,c,e⟩:=te o18
   rw[if_pos o18,wvp 0 (by rw[e];simp),wvp 1 (by rw[e];simp),wvp 2 (by rw[e];simp)]at h5
   rw[e]at h5 part wr ⊢
   simp only[Bool.and_eq_true]at h5
   have h52:(kA l b).f1=W:=beq_iff_eq.mp h5.1.2
   have h53:(kA l c).f1=W:=beq_iff_eq.mp h5.2
   have pa:=part a (by simp)
   have pb:=part b (by simp)
   have pc:=part c (by simp)
   have ra:=wr a (by simp)
   rw[h52]at pb
   rw[h53]at pc
   show wok W (xA op W K (kA l a).f1 (sem (T l a.toNat) env) (sem (T l b.toNat) env) (sem (T l c.toNat) env))=true
   unfold xA
   rw[if_pos ⟨hWr,ra,a0k pa,a0k pb,a0k pc⟩]
   unfold c2k
   rw[if_neg o0,if_neg o2,if_neg ob,if_neg oM,if_neg oM,if_neg oM,if_neg o16,if_neg o17,if_pos o18]
   split
   ·exact pb
   ·exact pc
  ·omega
def a8z(l:List S31)(kn env:List Int):Prop :=∀j:Nat,j<l.length→0≤rd kn (j:Int)→rd kn (j:Int)=sem (T l j) env
theorem a8f(l:List S31)(n:Nat)(env:List Int)(hn:n=l.length):a8z l (List.replicate n (-1)) env:=by
 intro j hj h
 subst hn
 unfold rd at h
 rw[List.getD_eq_getElem?_getD,List.getElem?_replicate,if_pos (by simpa using hj)]at h
 exact absurd h (by decide)
theorem b2z{l:List S31}{kn env:List Int}(h:a8z l kn env)(i:Nat)(hk:kn.length=l.length):a8z l (kn.set i (sem (T l i) env)) env:=by
 intro j hj h0
 have e:rd (kn.set i (sem (T l i) env)) (j:Int)=if i=j then sem (T l i) env else rd kn (j:Int):=by
  show(kn.set i (sem (T l i) env)).getD j 0=_
  rw[List.getD_eq_getElem?_getD,List.getElem?_set]
  by_cases c:i=j
  ·rw[if_pos c,if_pos c,if_pos oM];rfl
  ·rw[if_neg c,if_neg c,← List.getD_eq_getElem?_getD];rfl
 rw[e]at h0 ⊢
 by_cases c:i=j
 ·rw[if_pos c];rw[c]
 ·rw[if_neg c]at h0 ⊢;exact h j hj h0
def HV(l:List S31)(i:Nat)(V:Nat→List Int→Int→List Int→Option (Int×List Int)):Prop :=
 ∀(env kn:List Int) (j:Nat),env.length=8→kn.length=l.length→j<i→a9a (T l j) env→a8z l kn env→∃kn',Ev (fun k=>V k env (j:Int) kn) (sem (T l j) env,kn')∧kn'.length=l.length∧a8z l kn' env
theorem c7a{l:List S31}{i:Nat}{V:Nat→List Int→Int→List Int→Option (Int×List Int)}(hV:HV l i V)(env:List Int)(he:env.length=8) :∀(ps kn:List Int),(∀p∈ps,0≤p∧p<(i:Int))→(∀p∈ps,a9a (T l p.toNat) env)→kn.length=l.length→a8z l kn env→
  ∃kn',Ev (fun k=>vpl (V k) env ps kn) (ps.map (fun p=>sem (T l p.toNat) env),kn')∧kn'.length=l.length∧a8z l kn' env
 | [],kn,_,_,hk,hkn=>⟨kn,by unfold vpl;exact pZ,hk,hkn⟩
 | p::ps,kn,hin,hg,hk,hkn=>by
  have hp:=hin p (by simp)
  obtain⟨kn1,e1,l1,k1⟩:=hV env kn p.toNat he hk oM (hg p (by simp)) hkn
  rw[Int.toNat_of_nonneg hp.1]at e1
  obtain⟨kn2,e2,l2,k2⟩:=c7a hV env he ps kn1 (fun q hq=>hin q (List.mem_cons_of_mem _ hq)) (fun q hq=>hg q (List.mem_cons_of_mem _ hq)) l1 k1
  refine⟨kn2,?_,l2,k2⟩
  unfold vpl
  exact kP e1 (kP e2 pZ)
theorem c3e{l:List S31}{i:Nat}{V:Nat→List Int→Int→List Int→Option (Int×List Int)}(hV:HV l i V)(env:List Int)(he:env.length=8)(a:Nat)(ha:a<i)(K:Nat)(N:Nat)(hg :∀x:Nat,x<N→a9a (T l a) (env.set K (x:Int)))(out:Int)(d:Nat) :∀x:Nat,x+d=N→
  Ev (fun k=>b2p (V k) l.length env K (a:Int) out d (x:Int)) (if(List.range' x d).all (fun y=>sem (T l a) (env.set K (y:Int))==out)=true then out else 1-out):=by
 induction d with
 | zero=>intro x _;unfold b2p;exact pZ
 | succ d ih =>
  intro x hx
  obtain⟨kn1,e1,_,_⟩:=hV (env.set K (x:Int)) (List.replicate l.length (-1)) a (by simpa using he) (by simp) ha (hg x oM) (a8f l _ _ rfl)
  have ih:=ih (x+1) oM
  rw[show((x+1:Nat):Int)=(x:Int)+1 by omega]at ih
  unfold b2p
  refine kP e1 ?_
  rw[List.range'_succ,List.all_cons]
  by_cases h:sem (T l a) (env.set K (x:Int))=out
  ·refine kD h ?_
   rw[show(sem (T l a) (env.set K (x:Int))==out)=true from beq_iff_eq.mpr h,Bool.true_and]
   exact ih
  ·refine kN h ?_
   rw[show(sem (T l a) (env.set K (x:Int))==out)=false from beq_eq_false_iff_ne.mpr h,Bool.false_and,if_neg (by decide)]
   exact pZ
theorem d5r(op:Int)(n:Nat)(f:Nat→Int)(hf :∀x<n,f x=0∨f x=1) :
  (if(List.range' 0 n).all (fun y=>f y==(if op=19 then 1 else 0))=true then(if op=19 then(1:Int)else 0)else 1-(if op=19 then(1:Int)else 0))=qv op n f:=by
 rw[← List.range_eq_range']
 unfold qv
 by_cases h:op=19
 ·simp only[if_pos h]
  split<;>simp
 ·simp only[if_neg h]
  by_cases c:(List.range n).all (fun y=>f y==0)=true
  ·rw[if_pos c,if_neg]
   rw[List.any_eq_true]
   rintro⟨x,hx,h1⟩
   have h0:=List.all_eq_true.mp c x hx
   have h0:f x=0:=beq_iff_eq.mp h0
   have h1:f x=1:=beq_iff_eq.mp h1
   omega
  ·rw[if_neg c,if_pos]
   ·rfl
   ·rw[List.any_eq_true]
    rw[List.all_eq_true]at c
    have :∃x,x∈List.range n∧¬(f x==0)=true:=by
     refine Classical.byContradiction fun hn=>c (fun x hx=>Classical.byContradiction fun h2=>hn ⟨x,hx,h2⟩)
    obtain⟨x,hx,h2⟩:=this
    refine⟨x,hx,?_⟩
    have:=hf x (List.mem_range.mp hx)
    simp at h2 ⊢
    omega
theorem b6m{l:List S31}(hN:pL l)(hl:l.length≤80)(i:Nat)(hi:i<l.length)(V:Nat→List Int→Int→List Int→Option (Int×List Int))(hV:HV l i V)(env kn:List Int)(he:env.length=8)(hk:kn.length=l.length)(hg:a9a (T l i) env)(hkn:a8z l kn env) :
  ∃kn',Ev (fun k=>impl_valueR (k+1) (V k) l env (i:Int) kn) (sem (T l i) env,kn')∧kn'.length=l.length∧a8z l kn' env:=by
 have hP:=pP hN
 have hin:=hP i hi
 have hf:=vG hN i hi
 unfold impl_valueR
 by_cases h0:0≤rd kn (i:Int)
 ·refine⟨kn,kD ⟨oM,oM⟩ (kD h0 (yF ?_)),hk,hkn⟩
  rw[hkn i hi h0]
 have hset:=b2z hkn i hk
 by_cases o1:(kA l (i:Int)).f0=1
 ·have hv:=b1d hN i hi o1
  have es:sem (T l i) env=rd env (kA l (i:Int)).f2:=by
   rw[a6p hP i hi,show pl l i=[]from by unfold pl;rw[o1];rfl,o1];rfl
  refine⟨_,kD ⟨oM,oM⟩ (kN h0 (kD o1 (kD ⟨oM,oM⟩ (yF ?_)))),by simpa using hk,hset⟩
  rw[es];rfl
 by_cases oq:(kA l (i:Int)).f0=19∨(kA l (i:Int)).f0=20
 ·obtain⟨k7,⟨b1,b8⟩,⟨a0,a1⟩,hw1,_⟩:=uP hN i hi oq
  have hgq:=b7i hP i hi oq hg
  have ql:=c3e hV env he (kA l (i:Int)).f3.toNat oM (kA l (i:Int)).f2.toNat (2 ^ (kA l (i:Int)).f4.toNat) hgq (if(kA l (i:Int)).f0=19 then 1 else 0) (2 ^ (kA l (i:Int)).f4.toNat) 0 oM
  rw[d5r _ _ (fun y=>sem (T l (kA l (i:Int)).f3.toNat) (env.set (kA l (i:Int)).f2.toNat (y:Int)))]at ql
  ·rw[Int.toNat_of_nonneg a0]at ql
   have es:sem (T l i) env=qv (kA l (i:Int)).f0 (2 ^ (kA l (i:Int)).f4.toNat) (fun y=>sem (T l (kA l (i:Int)).f3.toNat) (env.set (kA l (i:Int)).f2.toNat (y:Int))):=by
    rw[a6p hP i hi,show pl l i=[(kA l (i:Int)).f3]from yE oq]
    show sem (mkT _ _ _ _ [_]) env=_
    simp only[mkT,sem]
    rw[if_pos oq]
   refine⟨_,kD ⟨oM,oM⟩ (kN h0 (kN o1 (kD (by simpa using oq) (kP (a:=sem (T l i) env) ?_ pZ)))),by simpa using hk,hset⟩
   rw[es]
   unfold impl_quantR
   exact kD ⟨oM,oM,oM,oM⟩ ql
  ·intro x hx
   have:=b9q hN (kA l (i:Int)).f3.toNat _ oM (hgq x hx)
   rw[Int.toNat_of_nonneg a0,hw1]at this
   exact d1y this
 ·have hlen:(pl l i).length≤3:=qF _ _ _ _
  obtain⟨kn1,e1,l1,k1⟩:=c7a hV env he (pl l i) kn hin (fun p hp=>b3f hP i hi oq hg p hp) hk hkn
  have hset1:=b2z k1 i l1
  refine⟨_,kD ⟨oM,oM⟩ (kN h0 (kN o1 (kN (by simpa using oq) (kD ?_ (kP e1 (kP (a:=sem (T l i) env) ?_ pZ)))))),by simpa using l1,hset1⟩
  ·refine List.all_eq_true.mpr fun p hp=>qL.mpr ?_
   have:=hin p hp
   omega
  ·refine a1h 40 fun k hkk=>?_
   rw[d7f _ _ _ _ _ _ _ _ _ _ oM,a6p hP i hi,b4e l _ _ _ _ (pl l i) hlen o1 oq env (fun p hp=>(hin p hp).1)]
   have hpl:kL (kA l (i:Int)).f0 (kA l (i:Int)).f3 (kA l (i:Int)).f4 (kA l (i:Int)).f5=pl l i:=rfl
   rw[hpl]
   generalize pl l i=ps at *
   match ps,hlen with
   | [],_=>rfl
   | [a],_=>rfl
   | [a,b],_=>rfl
   | [a,b,c],_=>rfl
   | a::b::c::d::r,h=>exact absurd h (by simp)
theorem c2r{l:List S31}(hN:pL l)(hl:l.length≤80)(i:Nat) :∀(env kn:List Int),i<l.length→env.length=8→kn.length=l.length→a9a (T l i) env→a8z l kn env→∃kn',Ev (fun k=>impl_valueF l k env (i:Int) kn) (sem (T l i) env,kn')∧kn'.length=l.length∧a8z l kn' env:=by
 induction i using Nat.strongRecOn with
 | ind i ih =>
  intro env kn hi he hk hg hkn
  obtain⟨kn',e,h⟩:=b6m hN hl i hi (fun k=>impl_valueF l k) (fun env kn j h1 h2 h3 h4 h5=>ih j h3 env kn oM h1 h2 h4 h5) env kn he hk hg hkn
  exact⟨kn',kS e,h⟩
def fs:Tm→Int→Nat
 | .leaf op W K,v=>if op=1∧K=v then 2 ^ W.toNat else 0
 | .un op W K B a,v=>if(op=19∨op=20)∧K=v then 0 else fs a v
 | .bin op W K a b,v=>fs a v ||| fs b v
 | .ter op W K a b c,v=>fs a v ||| fs b v ||| fs c v
def b3u(l:List S31)(i:Nat)(v:Int):Nat:=(pl l i).foldl (fun s p=>s ||| fs (T l p.toNat) v) (if(kA l (i:Int)).f0=1∧(kA l (i:Int)).f2=v then 2 ^ (kA l (i:Int)).f1.toNat else 0)
def isQ(l:List S31)(i:Nat):Prop:=(kA l (i:Int)).f0=19∨(kA l (i:Int)).f0=20
instance (l:List S31) (i:Nat):Decidable (isQ l i):=by unfold isQ;infer_instance
theorem c3x{l:List S31}(hP:qX l)(i:Nat)(hi:i<l.length)(v:Int):fs (T l i) v=if isQ l i∧(kA l (i:Int)).f2=v then 0 else b3u l i v:=by
 rw[a6p hP i hi]
 unfold b3u isQ
 have hlen:(pl l i).length≤3:=qF _ _ _ _
 by_cases oq:(kA l (i:Int)).f0=19∨(kA l (i:Int)).f0=20
 ·rw[show pl l i=[(kA l (i:Int)).f3]from yE oq]
  show fs (mkT _ _ _ _ [_]) v=_
  simp only[mkT,fs,List.foldl_cons,List.foldl_nil]
  rw[if_neg (show ¬((kA l (i:Int)).f0=1∧(kA l (i:Int)).f2=v) by omega),Nat.zero_or]
 ·rw[if_neg (fun h=>oq h.1)]
  by_cases o1:(kA l (i:Int)).f0=1
  ·rw[show pl l i=[]from by unfold pl;rw[o1];rfl];rfl
  ·rw[if_neg (fun h=>o1 h.1)]
   generalize pl l i=ps at *
   match ps,hlen with
   | [],_=>show fs (mkT _ _ _ _ []) v=_;simp only[mkT,fs];rw[if_neg (fun h=>o1 h.1)];rfl
   | [a],_=>show fs (mkT _ _ _ _ [_]) v=_;simp only[mkT,fs,List.foldl_cons,List.foldl_nil,Nat.zero_or];rw[if_neg (fun h=>oq h.1)]
   | [a,b],_=>show fs (mkT _ _ _ _ [_,_]) v=_;simp only[mkT,fs,List.foldl_cons,List.foldl_nil,Nat.zero_or]
   | [a,b,c],_=>show fs (mkT _ _ _ _ [_,_,_]) v=_;simp only[mkT,fs,List.foldl_cons,List.foldl_nil,Nat.zero_or]
   | a::b::c::d::r,h=>simp at h
theorem a6e(g:Int→Nat)(w:Nat) :∀(ps:List Int) (s:Nat),(ps.foldl (fun s p=>s ||| g p) s).testBit w=true ↔ s.testBit w=true∨∃p∈ps,(g p).testBit w=true
 | [],s=>by simp
 | p::ps,s=>by
  rw[List.foldl_cons,a6e g w ps,Nat.testBit_or,Bool.or_eq_true]
  constructor
  ·rintro((h|h)|⟨q,hq,h⟩)
   ·exact .inl h
   ·exact .inr ⟨p,List.mem_cons_self ..,h⟩
   ·exact .inr ⟨q,List.mem_cons_of_mem _ hq,h⟩
  ·rintro(h|⟨q,hq,h⟩)
   ·exact .inl (.inl h)
   ·rcases List.mem_cons.mp hq with rfl|hq
    ·exact .inl (.inr h)
    ·exact .inr ⟨q,hq,h⟩
theorem a8p(g:Int→Nat)(n:Nat) :∀(ps:List Int) (s:Nat),s<2 ^ n→(∀p∈ps,g p<2 ^ n)→ps.foldl (fun s p=>s ||| g p) s<2 ^ n
 | [],s,h,_=>h
 | p::ps,s,h,hg=>a8p g n ps _ (Nat.or_lt_two_pow h (hg p (by simp))) (fun q hq=>hg q (List.mem_cons_of_mem _ hq))
theorem b5v{l:List S31}(hN:pL l)(i:Nat)(hi:i<l.length)(v:Int):(if(kA l (i:Int)).f0=1∧(kA l (i:Int)).f2=v then 2 ^ (kA l (i:Int)).f1.toNat else 0)<2 ^ 9:=by
 have:=vG hN i hi
 split
 ·exact Nat.pow_lt_pow_right oM oM
 ·exact Nat.two_pow_pos 9
theorem d6i{l:List S31}(hN:pL l)(v:Int)(i:Nat):i<l.length→fs (T l i) v<2 ^ 9:=by
 have hP:=pP hN
 induction i using Nat.strongRecOn with
 | ind i ih =>
  intro hi
  rw[c3x hP i hi]
  split
  ·exact Nat.two_pow_pos 9
  ·unfold b3u
   refine a8p _ 9 _ _ (b5v hN i hi v) (fun p hp=>?_)
   have:=hP i hi p hp
   exact ih p.toNat oM oM
theorem b3h{l:List S31}(hP:qX l)(i:Nat)(hi:i<l.length)(v:Int)(w:Nat):(fs (T l i) v).testBit w=true ↔ ((kA l (i:Int)).f0=1∧(kA l (i:Int)).f2=v∧(kA l (i:Int)).f1.toNat=w)∨(¬(isQ l i∧(kA l (i:Int)).f2=v)∧∃p∈pl l i,(fs (T l p.toNat) v).testBit w=true):=by
 rw[c3x hP i hi]
 by_cases hq:isQ l i∧(kA l (i:Int)).f2=v
 ·rw[if_pos hq]
  have h1:=hq.1
  unfold isQ at h1
  constructor
  ·intro h;simp at h
  ·rintro(h|h)
   ·omega
   ·exact absurd hq h.1
 ·rw[if_neg hq]
  unfold b3u
  rw[a6e]
  have e:((if(kA l (i:Int)).f0=1∧(kA l (i:Int)).f2=v then 2 ^ (kA l (i:Int)).f1.toNat else 0:Nat).testBit w=true) ↔ ((kA l (i:Int)).f0=1∧(kA l (i:Int)).f2=v∧(kA l (i:Int)).f1.toNat=w):=by
   by_cases c:(kA l (i:Int)).f0=1∧(kA l (i:Int)).f2=v
   ·rw[if_pos c,Nat.testBit_two_pow,decide_eq_true_eq]
    exact⟨fun h=>⟨c.1,c.2,h⟩,fun h=>h.2.2⟩
   ·rw[if_neg c]
    constructor
    ·intro h;simp at h
    ·rintro⟨a,b,_⟩;exact absurd ⟨a,b⟩ c
  rw[e]
  constructor
  ·rintro(h|h)
   ·exact .inl h
   ·exact .inr ⟨hq,h⟩
  ·rintro(h|h)
   ·exact .inl h
   ·exact .inr h.2
def qn(l:List S31)(i:Nat):Prop:=isQ l i→fs (T l (kA l (i:Int)).f3.toNat) (kA l (i:Int)).f2=0∨fs (T l (kA l (i:Int)).f3.toNat) (kA l (i:Int)).f2=2 ^ (kA l (i:Int)).f4.toNat
def b6w(t:Tm)(env:List Int):Prop :=∀v:Nat,v<8→∀w:Nat,(fs t (v:Int)).testBit w=true→wok (w:Int) (rd env (v:Int))=true
theorem b6h(s B:Nat):(∀w,s.testBit w=true→w=B) ↔ s=0∨s=2 ^ B:=by
 constructor
 ·intro h
  by_cases hB:s.testBit B=true
  ·right
   refine Nat.eq_of_testBit_eq fun w=>?_
   rw[Nat.testBit_two_pow]
   by_cases c:B=w
   ·subst c;simp[hB]
   ·rw[decide_eq_false c]
    cases hw:s.testBit w with
    | false=>rfl
    | true=>exact absurd (h w hw).symm c
  ·left
   refine Nat.eq_of_testBit_eq fun w=>?_
   rw[Nat.zero_testBit]
   cases hw:s.testBit w with
   | false=>rfl
   | true=>have:=h w hw;subst this;exact absurd hw hB
 ·rintro(rfl|rfl) w hw
  ·simp at hw
  ·rw[Nat.testBit_two_pow,decide_eq_true_eq]at hw;exact hw.symm
theorem c0f(env:List Int)(K v:Nat)(x:Int)(hK:K<env.length):rd (env.set K x) (v:Int)=if K=v then x else rd env (v:Int):=by
 show(env.set K x).getD v 0=_
 rw[List.getD_eq_getElem?_getD,List.getElem?_set]
 by_cases c:K=v
 ·rw[if_pos c,if_pos c,if_pos oM];rfl
 ·rw[if_neg c,if_neg c,← List.getD_eq_getElem?_getD];rfl
theorem c1f{l:List S31}(hN:pL l)(met:Nat→Prop)(hm :∀i<l.length,met i→∀p∈pl l i,met p.toNat)(hq :∀i<l.length,met i→qn l i)(i:Nat) :∀env:List Int,i<l.length→env.length=8→met i→b6w (T l i) env→a9a (T l i) env:=by
 have hP:=pP hN
 induction i using Nat.strongRecOn with
 | ind i ih =>
  intro env hi he hmi hr
  have hin:=hP i hi
  have part :∀p∈pl l i,(∀v:Nat,v<8→∀w:Nat,(fs (T l p.toNat) (v:Int)).testBit w=true→(fs (T l i) (v:Int)).testBit w=true)→a9a (T l p.toNat) env:=by
   intro p hp h
   have:=hin p hp
   exact ih p.toNat oM env oM he (hm i hi hmi p hp) (fun v hv w hw=>hr v hv w (h v hv w hw))
  by_cases oq:isQ l i
  ·obtain⟨k7,⟨b1,b8⟩,⟨a0,a1⟩,_,_⟩:=uP hN i hi oq
   have hf:=vG hN i hi
   have hpl:pl l i=[(kA l (i:Int)).f3]:=yE oq
   have hqn:=hq i hi hmi oq
   rw[a6p hP i hi,hpl]
   refine⟨fun h=>absurd oq h,fun _ x hx=>?_⟩
   refine ih (kA l (i:Int)).f3.toNat oM _ oM (by simpa using he) (hm i hi hmi _ (by rw[hpl];simp)) ?_
   intro v hv w hw
   rw[c0f env _ v _ oM]
   by_cases c:(kA l (i:Int)).f2.toNat=v
   ·rw[if_pos c]
    have hK:(kA l (i:Int)).f2=(v:Int):=by omega
    rw[hK]at hqn
    have hwB:=(b6h _ _).mpr hqn w hw
    have hx':(x:Int)≤P2 (w:Int)-1:=by
     rw[a5h oM,Int.toNat_natCast,hwB];omega
    exact pO.mpr ⟨oM,oM,oM,hx'⟩
   ·rw[if_neg c]
    refine hr v hv w ?_
    rw[b3h hP i hi]
    exact .inr ⟨fun h=>c (by have:=h.2;omega),_,by rw[hpl];exact List.mem_singleton.mpr rfl,hw⟩
  ·have hsub :∀p∈pl l i,a9a (T l p.toNat) env:=fun p hp=>part p hp (fun v hv w hw=>by
    rw[b3h hP i hi]
    exact .inr ⟨fun h=>oq h.1,p,hp,hw⟩)
   have hlen:(pl l i).length≤3:=qF _ _ _ _
   have hvar:(kA l (i:Int)).f0=1→wok (kA l (i:Int)).f1 (rd env (kA l (i:Int)).f2)=true:=by
    intro o1
    have hf:=vG hN i hi
    have hv:=b1d hN i hi o1
    have:=hr (kA l (i:Int)).f2.toNat oM (kA l (i:Int)).f1.toNat (by
     rw[b3h hP i hi]
     exact .inl ⟨o1,oM,rfl⟩)
    rwa [Int.toNat_of_nonneg oM,Int.toNat_of_nonneg oM]at this
   rw[a6p hP i hi]
   generalize pl l i=ps at *
   match ps,hlen with
   | [],_=>exact hvar
   | [a],_=>exact⟨fun _=>hsub a (by simp),fun h=>absurd h oq⟩
   | [a,b],_=>exact⟨hsub a (by simp),hsub b (by simp)⟩
   | [a,b,c],_=>exact⟨hsub a (by simp),hsub b (by simp),hsub c (by simp)⟩
   | a::b::c::d::r,h=>exact absurd h (by simp)
theorem or9{a b:Nat}(ha:a<2 ^ 9)(hb:b<2 ^ 9):Go.bits .or .i64 (a:Int) (b:Int)=((a ||| b:Nat):Int):=(b6i a b 9 oM ha hb).2.1
def c7j(l:List S31)(i:Nat):List Int:=(List.range 8).map fun v:Nat=>(fs (T l i) (v:Int):Int)
def a0p(l:List S31)(i:Nat):List (List Int):=(List.range i).map fun t:Nat=>c7j l t
theorem b6c(l:List S31)(i:Nat):(c7j l i).length=8:=by simp[c7j]
theorem a8q(l:List S31)(i:Nat):(a0p l i).length=i:=by simp[a0p]
theorem b3j(l:List S31)(i:Nat)(p:Int)(h0:0≤p)(h1:p<(i:Int)):a2q (a0p l i) p=c7j l p.toNat:=by
 show(a0p l i).getD p.toNat _=_
 unfold a0p
 rw[List.getD_eq_getElem?_getD,List.getElem?_map,List.getElem?_range oM];rfl
theorem b6d(l:List S31)(i v:Nat)(hv:v<8):rd (c7j l i) (v:Int)=(fs (T l i) (v:Int):Int):=by
 show(c7j l i).getD v 0=_
 unfold c7j
 rw[List.getD_eq_getElem?_getD,List.getElem?_map,List.getElem?_range hv];rfl
theorem d1o{l:List S31}(hN:pL l)(hl:l.length≤80)(i:Nat)(hi:i<l.length)(env:List Int)(row:List Int)(v:Nat)(hv:v<8)(ps:List Int)(hps:ps.length≤3)(hin :∀p∈ps,0≤p∧p<(i:Int))(op W K A B C:Int)(r:Bool)(d:Nat) :∀(j s:Nat),j+d=ps.length→s<2 ^ 9→
  Ev (fun k=>if((op==19) || (op==20))=true then(qN k l env (a0p l i) (i:Int) row ps (v:Int) (((ps.drop j).foldl (fun s p=>s ||| fs (T l p.toNat) (v:Int)) s:Nat):Int) (K==(v:Int)) op W K A B C)else(qN k l env (a0p l i) (i:Int) row ps (v:Int) (((ps.drop j).foldl (fun s p=>s ||| fs (T l p.toNat) (v:Int)) s:Nat):Int) false op W K A B C)) r→
  Ev (fun k=>uT k l env (a0p l i) (i:Int) row ps (v:Int) (s:Int) (j:Int) op W K A B C) r:=by
 induction d with
 | zero =>
  intro j s hj hs H
  obtain rfl:j=ps.length:=by omega
  rw[List.drop_length]at H
  refine kS ?_
  simp only[uT]
  exact kN oM (qA (d1h _) H)
 | succ d ih =>
  intro j s hj hs H
  have hjl:j<ps.length:=by omega
  have hp:=hin (rd ps (j:Int)) (by rw[rdI ps j hjl];exact List.getElem_mem _)
  refine kS ?_
  simp only[uT]
  rw[b3j l i _ hp.1 hp.2,b6d l _ v hv,b6c,a8q]
  rw[wS j]
  refine kD oM (kD oM (kD hp.1 (kD hp.2 (kD oM (kD oM ?_)))))
  have hlt:=d6i hN (v:Int) (rd ps (j:Int)).toNat oM
  rw[or9 hs hlt]
  refine ih (j+1) (s ||| fs (T l (rd ps (j:Int)).toNat) (v:Int)) oM (Nat.or_lt_two_pow hs hlt) ?_
  have hdrop:ps.drop j=rd ps (j:Int)::ps.drop (j+1):=by
   rw[List.drop_eq_getElem_cons hjl,rdI ps j hjl]
  rw[hdrop,List.foldl_cons]at H
  exact H
theorem d1p{l:List S31}(hN:pL l)(hl:l.length≤80)(i:Nat)(hi:i<l.length)(env:List Int)(R:Prop)
  (NX :∃r,Ev (fun k=>tR k l env (a0p l (i+1)) ((i+1:Nat):Int)) r∧(r=true ↔ R)) (d:Nat) :∀(v:Nat),v+d=8→
  ∃r,Ev (fun k=>sJ k l env (a0p l i) (i:Int) ((List.range v).map fun v:Nat=>(fs (T l i) (v:Int):Int)) (pl l i) (v:Int) (kA l (i:Int)).f0 (kA l (i:Int)).f1 (kA l (i:Int)).f2 (kA l (i:Int)).f3 (kA l (i:Int)).f4 (kA l (i:Int)).f5) r∧(r=true ↔ (((v:Int)≤(kA l (i:Int)).f2→qn l i)∧R)):=by
 have hP:=pP hN
 have hf:=vG hN i hi
 induction d with
 | zero =>
  intro v hv
  obtain rfl:v=8:=by omega
  obtain⟨r,e,h⟩:=NX
  refine⟨r,kS ?_,?_⟩
  ·simp only[sJ]
   rw[wS i,a8q]
   refine kN oM (kD oM ?_)
   have:a0p l i++[(List.range 8).map fun v:Nat=>(fs (T l i) (v:Int):Int)]=a0p l (i+1):=by
    show a0p l i++[c7j l i]=_
    unfold a0p;rw[List.range_succ (n:=i),List.map_append];rfl
   rw[this];exact e
  ·rw[h]
   constructor
   ·intro hr
    refine⟨fun hle hq=>?_,hr⟩
    have:=(uP hN i hi hq).1
    omega
   ·exact fun h=>h.2
 | succ d ih =>
  intro v hv
  have hv8:v<8:=by omega
  obtain⟨r,e,h⟩:=ih (v+1) oM
  have hrow:((List.range v).map fun v:Nat=>(fs (T l i) (v:Int):Int))++[(fs (T l i) (v:Int):Int)]=(List.range (v+1)).map fun v:Nat=>(fs (T l i) (v:Int):Int):=by
   rw[List.range_succ,List.map_append];rfl
  have hlen:(((List.range v).map fun v:Nat=>(fs (T l i) (v:Int):Int))).length=v:=by simp
  have tail :∃r',Ev (fun k=>if(((kA l (i:Int)).f0==19) || ((kA l (i:Int)).f0==20))=true then(qN k l env (a0p l i) (i:Int) ((List.range v).map fun v:Nat=>(fs (T l i) (v:Int):Int)) (pl l i) (v:Int) ((b3u l i (v:Int):Nat):Int) ((kA l (i:Int)).f2==(v:Int)) (kA l (i:Int)).f0 (kA l (i:Int)).f1 (kA l (i:Int)).f2 (kA l (i:Int)).f3 (kA l (i:Int)).f4 (kA l (i:Int)).f5)else(qN k l env (a0p l i) (i:Int) ((List.range v).map fun v:Nat=>(fs (T l i) (v:Int):Int)) (pl l i) (v:Int) ((b3u l i (v:Int):Nat):Int) false (kA l (i:Int)).f0 (kA l (i:Int)).f1 (kA l (i:Int)).f2 (kA l (i:Int)).f3 (kA l (i:Int)).f4 (kA l (i:Int)).f5)) r'∧(r'=true ↔ (((v:Int)≤(kA l (i:Int)).f2→qn l i)∧R)):=by
   have plain :¬(isQ l i∧(kA l (i:Int)).f2=(v:Int))→∃r',Ev (fun k=>qN k l env (a0p l i) (i:Int) ((List.range v).map fun v:Nat=>(fs (T l i) (v:Int):Int)) (pl l i) (v:Int) ((b3u l i (v:Int):Nat):Int) false (kA l (i:Int)).f0 (kA l (i:Int)).f1 (kA l (i:Int)).f2 (kA l (i:Int)).f3 (kA l (i:Int)).f4 (kA l (i:Int)).f5) r'∧(r'=true ↔ (((v:Int)≤(kA l (i:Int)).f2→qn l i)∧R)):=by
    intro hnq
    refine⟨r,kS ?_,?_⟩
    ·simp only[qN]
     rw[wS v,hlen]
     refine kN (by decide) (kD oM ?_)
     rw[show b3u l i (v:Int)=fs (T l i) (v:Int)from by rw[c3x hP i hi,if_neg hnq],hrow]
     exact e
    ·rw[h]
     constructor
     ·rintro⟨a,b⟩
      refine⟨fun hle hq=>?_,b⟩
      by_cases c:(kA l (i:Int)).f2=(v:Int)
      ·exact absurd ⟨hq,c⟩ hnq
      ·exact a oM hq
     ·rintro⟨a,b⟩
      exact⟨fun hle=>a oM,b⟩
   by_cases oq:isQ l i
   ·by_cases hK:(kA l (i:Int)).f2=(v:Int)
    ·have hq:=uP hN i hi oq
     have hpre:b3u l i (v:Int)=fs (T l (kA l (i:Int)).f3.toNat) (v:Int):=by
      unfold b3u
      rw[show pl l i=[(kA l (i:Int)).f3]from yE oq]
      unfold isQ at oq
      rw[if_neg oM]
      simp
     have hfz:fs (T l i) (v:Int)=0:=by rw[c3x hP i hi,if_pos ⟨oq,hK⟩]
     have hrow0:((List.range v).map fun v:Nat=>(fs (T l i) (v:Int):Int))++[(0:Int)]=(List.range (v+1)).map fun v:Nat=>(fs (T l i) (v:Int):Int):=by
      rw[← hrow,hfz];rfl
     have hqn:qn l i ↔ (b3u l i (v:Int)=0∨b3u l i (v:Int)=2 ^ (kA l (i:Int)).f4.toNat):=by
      unfold qn
      rw[hK,hpre]
      exact⟨fun h=>h oq,fun h _=>h⟩
     have good:(b3u l i (v:Int)=0∨b3u l i (v:Int)=2 ^ (kA l (i:Int)).f4.toNat)→(r=true ↔ (((v:Int)≤(kA l (i:Int)).f2→qn l i)∧R)):=by
      intro hg
      rw[h]
      constructor
      ·rintro⟨_,b⟩;exact⟨fun _=>hqn.mpr hg,b⟩
      ·rintro⟨_,b⟩;exact⟨fun _=>hqn.mpr hg,b⟩
     have hB:=hq.2.1
     have hP2:P2 (kA l (i:Int)).f4=((2 ^ (kA l (i:Int)).f4.toNat:Nat):Int):=a5h oM
     by_cases h0:b3u l i (v:Int)=0
     ·refine⟨r,kD (by unfold isQ at oq;simpa using oq) (kS ?_),good (.inl h0)⟩
      simp only[qN]
      rw[wS v,hlen,hrow0]
      exact kD (by simpa using hK) (kD oM (kD oM e))
     ·by_cases h1:b3u l i (v:Int)=2 ^ (kA l (i:Int)).f4.toNat
      ·refine⟨r,kD (by unfold isQ at oq;simpa using oq) (kS ?_),good (.inr h1)⟩
       simp only[qN]
       rw[wS v,hlen,hrow0]
       exact kD (by simpa using hK) (kN oM (kP (a:=P2 (kA l (i:Int)).f4) (a1h 20 fun k hk=>a9e oM oM hk) (kD (by rw[hP2,h1]) (kD oM e))))
      ·refine⟨false,kD (by unfold isQ at oq;simpa using oq) (kS ?_),?_⟩
       ·simp only[qN]
        exact kD (by simpa using hK) (kN oM (kP (a:=P2 (kA l (i:Int)).f4) (a1h 20 fun k hk=>a9e oM oM hk) (kN (by rw[hP2];omega) pZ)))
       ·constructor
        ·intro h;exact absurd h (by decide)
        ·rintro⟨a,_⟩
         rcases hqn.mp (a oM)with h|h
         ·exact absurd h h0
         ·exact absurd h h1
    ·obtain⟨r',e',h'⟩:=plain (fun h=>hK h.2)
     refine⟨r',kD (by unfold isQ at oq;simpa using oq) ?_,h'⟩
     rw[show((kA l (i:Int)).f2==(v:Int))=false from beq_eq_false_iff_ne.mpr hK]
     exact e'
   ·obtain⟨r',e',h'⟩:=plain (fun h=>oq h.1)
    exact⟨r',kN (by unfold isQ at oq;simpa using oq) e',h'⟩
  obtain⟨r',e',h'⟩:=tail
  refine⟨r',kS ?_,h'⟩
  simp only[sJ]
  have st:=b5v hN i hi (v:Int)
  have l2:=d1o hN hl i hi env ((List.range v).map fun v:Nat=>(fs (T l i) (v:Int):Int)) v hv8 (pl l i) (qF _ _ _ _) (hP i hi) (kA l (i:Int)).f0 (kA l (i:Int)).f1 (kA l (i:Int)).f2 (kA l (i:Int)).f3 (kA l (i:Int)).f4 (kA l (i:Int)).f5 r' (pl l i).length 0 _ oM st e'
  refine kD oM ?_
  by_cases o1:(kA l (i:Int)).f0=1
  ·refine kD o1 ?_
   by_cases c:(kA l (i:Int)).f2=(v:Int)
   ·rw[if_pos ⟨o1,c⟩]at l2
    refine kS ?_
    simp only[uV]
    refine kD (by simpa using c) (kP (a:=P2 (kA l (i:Int)).f1) (a1h 20 fun k hk=>a9e oM oM hk) (kS ?_))
    simp only[uU]
    rw[a5h oM]
    exact l2
   ·rw[if_neg (fun h=>c h.2)]at l2
    refine kS ?_
    simp only[uV]
    refine kN (by simpa using c) (kS ?_)
    simp only[uU]
    exact l2
  ·rw[if_neg (fun h=>o1 h.1)]at l2
   refine kN o1 (kS ?_)
   simp only[uV]
   refine kN (by decide) (kS ?_)
   simp only[uU]
   exact l2
theorem d1m{l:List S31}(hN:pL l)(hl:l.length≤80)(h0:1≤l.length)(env:List Int)(he:env.length=8)(v:Nat)(hv:v<8)(R:Prop)
  (NX :∃r,Ev (fun k=>tQ k l env (a0p l l.length) ((v+1:Nat):Int)) r∧(r=true ↔ R)) (d:Nat) :∀w:Nat,w+d=9→1≤w→
  ∃r,Ev (fun k=>rG k l env (a0p l l.length) (v:Int) (w:Int)) r∧(r=true ↔ ((∀w':Nat,w≤w'→w'≤8→(fs (T l (l.length-1)) (v:Int)).testBit w'=true→wok (w':Int) (rd env (v:Int))=true)∧R)):=by
 induction d with
 | zero =>
  intro w hw h1
  obtain⟨r,e,h⟩:=NX
  obtain rfl:w=9:=by omega
  refine⟨r,kS ?_,?_⟩
  ·simp only[rG]
   rw[wS v]
   exact kN oM e
  ·rw[h]
   exact⟨fun h=>⟨fun w' a b=>absurd b oM,h⟩,fun h=>h.2⟩
 | succ d ih =>
  intro w hw h1
  obtain⟨r,e,h⟩:=ih (w+1) oM oM
  have hlt:=d6i hN (v:Int) (l.length-1) oM
  have hP2:P2 (w:Int)=((2 ^ w:Nat):Int):=by rw[a5h oM,Int.toNat_natCast]
  have hpos:=rM (w:=(w:Int)) oM oM
  have hdiv:wrap64 (Int.tdiv (fs (T l (l.length-1)) (v:Int):Int) (P2 (w:Int)))=((fs (T l (l.length-1)) (v:Int) / 2 ^ w:Nat):Int):=by
   rw[hP2,Int.tdiv_eq_ediv_of_nonneg oM,← Int.natCast_ediv]
   have hle:=Nat.div_le_self (fs (T l (l.length-1)) (v:Int)) (2 ^ w)
   generalize fs (T l (l.length-1)) (v:Int) / 2 ^ w=q at *
   exact kU oM oM
  have hmod:Int.tmod ((fs (T l (l.length-1)) (v:Int) / 2 ^ w:Nat):Int) 2=((fs (T l (l.length-1)) (v:Int) / 2 ^ w%2:Nat):Int):=by
   generalize fs (T l (l.length-1)) (v:Int) / 2 ^ w=q at *
   rw[Int.tmod_eq_emod_of_nonneg oM];omega
  have hbit:(fs (T l (l.length-1)) (v:Int)).testBit w=true ↔ fs (T l (l.length-1)) (v:Int) / 2 ^ w%2=1:=by
   rw[Nat.testBit_eq_decide_div_mod_eq,decide_eq_true_eq]
  have hroot:wrap64 ((l.length:Int)-1)=((l.length-1:Nat):Int):=by rw[kU oM oM];omega
  have pre :∀r',Ev (fun k=>if fs (T l (l.length-1)) (v:Int) / 2 ^ w%2=1 then(if(v:Int)<(env.length:Int)then((rV k (w:Int) (rd env (v:Int))).bind fun t504=>(if t504=true then(rG k l env (a0p l l.length) (v:Int) ((w+1:Nat):Int))else(some false)))else(none))else(rG k l env (a0p l l.length) (v:Int) ((w+1:Nat):Int))) r'→Ev (fun k=>rG k l env (a0p l l.length) (v:Int) (w:Int)) r':=by
   intro r' H
   refine kS ?_
   simp only[rG]
   rw[hroot,b3j l l.length _ oM oM,Int.toNat_natCast,b6d l _ v hv,b6c,a8q]
   refine kD oM (kD oM (kD oM (kD oM (kD oM (kP (a:=P2 (w:Int)) (a1h 20 fun k hk=>a9e oM oM hk) (kN oM ?_))))))
   rw[hdiv,hmod,wS w]
   by_cases c:fs (T l (l.length-1)) (v:Int) / 2 ^ w%2=1
   ·simp only[if_pos c]at H
    exact kD oM H
   ·simp only[if_neg c]at H
    exact kN oM H
  by_cases c:fs (T l (l.length-1)) (v:Int) / 2 ^ w%2=1
  ·by_cases hwk:wok (w:Int) (rd env (v:Int))=true
   ·refine⟨r,pre r (kD c (kD oM (kP (a:=true) (a1h 20 fun k hk=>by rw[c6z _ _ hk,hwk]) (kD rfl e)))),?_⟩
    rw[h]
    constructor
    ·rintro⟨a,b⟩
     refine⟨fun w' h1 h2 h3=>?_,b⟩
     by_cases cw:w'=w
     ·subst cw;exact hwk
     ·exact a w' oM h2 h3
    ·rintro⟨a,b⟩;exact⟨fun w' h1 h2 h3=>a w' oM h2 h3,b⟩
   ·refine⟨false,pre false (kD c (kD oM (kP (a:=false) (a1h 20 fun k hk=>by rw[c6z _ _ hk];rw[Bool.not_eq_true]at hwk;rw[hwk]) (kN (by decide) pZ)))),?_⟩
    constructor
    ·intro h;exact absurd h (by decide)
    ·rintro⟨a,_⟩;exact absurd (a w oM oM (hbit.mpr c)) hwk
  ·refine⟨r,pre r (kN c e),?_⟩
   rw[h]
   constructor
   ·rintro⟨a,b⟩
    refine⟨fun w' h1 h2 h3=>?_,b⟩
    by_cases cw:w'=w
    ·subst cw;exact absurd (hbit.mp h3) c
    ·exact a w' oM h2 h3
   ·rintro⟨a,b⟩;exact⟨fun w' h1 h2 h3=>a w' oM h2 h3,b⟩
theorem d1n{l:List S31}(hN:pL l)(hl:l.length≤80)(h0:1≤l.length)(env:List Int)(he:env.length=8)(d:Nat) :∀v:Nat,v+d=8→
  ∃r,Ev (fun k=>tQ k l env (a0p l l.length) (v:Int)) r∧(r=true ↔ (∀v':Nat,v≤v'→v'<8→∀w':Nat,1≤w'→w'≤8→(fs (T l (l.length-1)) (v':Int)).testBit w'=true→wok (w':Int) (rd env (v':Int))=true)):=by
 induction d with
 | zero =>
  intro v hv
  refine⟨true,kS ?_,?_⟩
  ·simp only[tQ];exact kN oM pZ
  ·exact⟨fun _ v' a b=>absurd b oM,fun _=>rfl⟩
 | succ d ih =>
  intro v hv
  obtain⟨r,e,h⟩:=d1m hN hl h0 env he v oM _ (ih (v+1) oM) 8 1 oM oM
  refine⟨r,kS ?_,?_⟩
  ·simp only[tQ];exact kD oM e
  ·rw[h]
   constructor
   ·rintro⟨a,b⟩ v' h1 h2
    by_cases c:v'=v
    ·subst c;exact a
    ·exact b v' oM h2
   ·intro a
    exact⟨a v oM oM,fun v' h1 h2=>a v' oM h2⟩
theorem d1l{l:List S31}(hN:pL l)(i:Nat)(hi:i<l.length)(v:Int)(w:Nat)(h:(fs (T l i) v).testBit w=true):1≤w∧w≤8:=by
 have hP:=pP hN
 induction i using Nat.strongRecOn with
 | ind i ih =>
  rcases(b3h hP i hi v w).mp h with⟨_,_,a⟩|⟨_,p,hp,a⟩
  ·have:=vG hN i hi
   omega
  ·have:=hP i hi p hp
   exact ih p.toNat oM oM a
theorem d1q{l:List S31}(hN:pL l)(hl:l.length≤80)(h0:1≤l.length)(env:List Int)(he:env.length=8)(d:Nat) :∀i:Nat,i+d=l.length→
  ∃r,Ev (fun k=>tR k l env (a0p l i) (i:Int)) r∧(r=true ↔ ((∀t,i≤t→t<l.length→qn l t)∧b6w (T l (l.length-1)) env)):=by
 induction d with
 | zero =>
  intro i hi
  obtain rfl:i=l.length:=by omega
  obtain⟨r,e,h⟩:=d1n hN hl h0 env he 8 0 oM
  refine⟨r,kS ?_,?_⟩
  ·simp only[tR];exact kN oM e
  ·rw[h]
   constructor
   ·intro a
    refine⟨fun t h1 h2=>absurd h2 oM,fun v hv w hw=>?_⟩
    have:=d1l hN (l.length-1) oM _ w hw
    exact a v oM hv w this.1 this.2 hw
   ·rintro⟨_,a⟩ v _ hv w _ _ hw
    exact a v hv w hw
 | succ d ih =>
  intro i hi
  have hf:=vG hN i oM
  obtain⟨r,e,h⟩:=d1p hN hl i oM env _ (ih (i+1) oM) 8 0 oM
  refine⟨r,kS ?_,?_⟩
  ·simp only[tR]
   exact kD oM (kD oM (kP (a:=pl l i) (a1h 1 fun k hk=>a5z _ _ _ _ _ _ hk) e))
  ·rw[h]
   constructor
   ·rintro⟨a,b,c⟩
    refine⟨fun t h1 h2=>?_,c⟩
    by_cases ct:t=i
    ·subst ct;exact a oM
    ·exact b t oM h2
   ·rintro⟨a,b⟩
    exact⟨fun _=>a i oM oM,fun t h1 h2=>a t oM h2,b⟩
theorem d1r{l:List S31}(hN:pL l)(hl:l.length≤80)(h0:1≤l.length)(env:List Int)(he:env.length=8) :
  ∃r,Ev (fun k=>wV k l env) r∧(r=true ↔ ((∀t<l.length,qn l t)∧b6w (T l (l.length-1)) env)):=by
 obtain⟨r,e,h⟩:=d1q hN hl h0 env he l.length 0 oM
 refine⟨r,e,?_⟩
 rw[h]
 exact⟨fun h=>⟨fun t ht=>h.1 t oM ht,h.2⟩,fun h=>⟨fun t _ ht=>h.1 t ht,h.2⟩⟩
theorem a0q(ps:List Int) :∀(met:List Bool) (i:Nat),(yQ met ps).getD i false=true ↔ met.getD i false=true∨(i<met.length∧∃p∈ps,p.toNat=i):=by
 intro met i
 constructor
 ·intro h
  by_cases c :∃p∈ps,p.toNat=i
  ·by_cases hi:i<met.length
   ·exact .inr ⟨hi,c⟩
   ·rw[List.getD_eq_getElem?_getD,List.getElem?_eq_none (by rw[a3q];omega)]at h
    exact absurd h (by simp)
  ·rw[a9q ps met i (fun p hp e=>c ⟨p,hp,e⟩)]at h
   exact .inl h
 ·rintro(h|⟨hi,p,hp,rfl⟩)
  ·exact a0z ps met i h
  ·by_cases h0:0≤p
   ·exact a9p ps met p hp h0 hi
   ·
    clear h0
    induction ps generalizing met with
    | nil=>exact absurd hp (by simp)
    | cons q ps ih =>
     show(yQ (met.set q.toNat true) ps).getD p.toNat false=true
     rcases List.mem_cons.mp hp with rfl|hp
     ·refine a0z ps _ _ ?_
      rw[List.getD_eq_getElem?_getD,List.getElem?_set,if_pos rfl,if_pos hi];rfl
     ·exact ih (met.set q.toNat true) hp (by simpa using hi)
theorem b7b(pb:Nat→Bool)(Q D:Nat→Prop)(l:List S31)(hP:qX l)(hD :∀i<l.length,D i ↔ Q i∨(pb i=true∧∃p∈pl l i,D p.toNat))(j:Nat) :∀met:List Bool,j≤l.length→met.length=l.length→
  (((∃i,j≤i∧i<l.length∧met.getD i false=true∧Q i)∨(∃i<j,met.getD i false=true∧D i)) ↔ ∃i<l.length,(rgo pb l j met).getD i false=true∧Q i):=by
 induction j with
 | zero =>
  intro met hj hm
  simp only[rgo]
  constructor
  ·rintro(⟨i,_,h1,h2,h3⟩|⟨i,h,_⟩)
   ·exact⟨i,h1,h2,h3⟩
   ·omega
  ·rintro⟨i,h1,h2,h3⟩;exact .inl ⟨i,oM,h1,h2,h3⟩
 | succ j ih =>
  intro met hj hm
  show _ ↔ ∃i<l.length,(rgo pb l j (zM _ l j met)).getD i false=true∧Q i
  rw[← ih _ oM (by rw[a7s];exact hm)]
  have hDj:=hD j oM
  have hin:=hP j oM
  by_cases hb:met.getD j false=true
  ·by_cases hq:pb j=true
   ·have hs:zM pb l j met=yQ met (pl l j):=by unfold zM;rw[if_pos ⟨hb,hq⟩]
    rw[hs]
    constructor
    ·rintro(⟨i,h0,h1,h2,h3⟩|⟨i,h0,h1,h2⟩)
     ·exact .inl ⟨i,oM,h1,(a0q _ _ _).mpr (.inl h2),h3⟩
     ·rcases Nat.lt_or_ge i j with c|c
      ·exact .inr ⟨i,c,(a0q _ _ _).mpr (.inl h1),h2⟩
      ·obtain rfl:i=j:=by omega
       rcases hDj.mp h2 with h|⟨_,p,hp,h⟩
       ·exact .inl ⟨i,oM,oM,(a0q _ _ _).mpr (.inl hb),h⟩
       ·have:=hin p hp
        exact .inr ⟨p.toNat,oM,(a0q _ _ _).mpr (.inr ⟨oM,p,hp,rfl⟩),h⟩
    ·rintro(⟨i,h0,h1,h2,h3⟩|⟨i,h0,h1,h2⟩)
     ·have h2':met.getD i false=true:=by
       rcases(a0q _ _ _).mp h2 with h|⟨_,p,hp,e⟩
       ·exact h
       ·have:=hin p hp;omega
      rcases Nat.lt_or_ge j i with c|c
      ·exact .inl ⟨i,oM,h1,h2',h3⟩
      ·obtain rfl:i=j:=by omega
       exact .inr ⟨i,oM,h2',hDj.mpr (.inl h3)⟩
     ·rcases(a0q _ _ _).mp h1 with h|⟨_,p,hp,e⟩
      ·exact .inr ⟨i,oM,h,h2⟩
      ·exact .inr ⟨j,oM,hb,hDj.mpr (.inr ⟨hq,p,hp,by rw[e];exact h2⟩)⟩
   ·have hs:zM pb l j met=met:=by unfold zM;rw[if_neg (fun h=>hq h.2)]
    rw[hs]
    constructor
    ·rintro(⟨i,h0,h1,h2,h3⟩|⟨i,h0,h1,h2⟩)
     ·exact .inl ⟨i,oM,h1,h2,h3⟩
     ·rcases Nat.lt_or_ge i j with c|c
      ·exact .inr ⟨i,c,h1,h2⟩
      ·obtain rfl:i=j:=by omega
       rcases hDj.mp h2 with h|⟨h,_⟩
       ·exact .inl ⟨i,oM,oM,hb,h⟩
       ·exact absurd h hq
    ·rintro(⟨i,h0,h1,h2,h3⟩|⟨i,h0,h1,h2⟩)
     ·rcases Nat.lt_or_ge j i with c|c
      ·exact .inl ⟨i,oM,h1,h2,h3⟩
      ·obtain rfl:i=j:=by omega
       exact .inr ⟨i,oM,h2,hDj.mpr (.inl h3)⟩
     ·exact .inr ⟨i,oM,h1,h2⟩
  ·have hs:zM pb l j met=met:=by unfold zM;rw[if_neg (fun h=>hb h.1)]
   rw[hs]
   constructor
   ·rintro(⟨i,h0,h1,h2,h3⟩|⟨i,h0,h1,h2⟩)
    ·exact .inl ⟨i,oM,h1,h2,h3⟩
    ·rcases Nat.lt_or_ge i j with c|c
     ·exact .inr ⟨i,c,h1,h2⟩
     ·obtain rfl:i=j:=by omega
      exact absurd h1 hb
   ·rintro(⟨i,h0,h1,h2,h3⟩|⟨i,h0,h1,h2⟩)
    ·rcases Nat.lt_or_ge j i with c|c
     ·exact .inl ⟨i,oM,h1,h2,h3⟩
     ·obtain rfl:i=j:=by omega
      exact absurd h2 hb
    ·exact .inr ⟨i,oM,h1,h2⟩
theorem b9z(pb:Nat→Bool)(Q D:Nat→Prop)(l:List S31)(hP:qX l)(hD :∀i<l.length,D i ↔ Q i∨(pb i=true∧∃p∈pl l i,D p.toNat))(root:Nat)(hr:root<l.length) :
  (∃i<l.length,(xC pb l root).getD i false=true∧Q i) ↔ D root:=by
 unfold xC
 rw[← b7b pb Q D l hP hD (root+1) _ oM (by simp)]
 have hm :∀i,((List.replicate l.length false).set root true).getD i false=true ↔ i=root:=by
  intro i
  rw[List.getD_eq_getElem?_getD,List.getElem?_set]
  by_cases c:root=i
  ·subst c;rw[if_pos rfl,if_pos (by simpa using hr)];simp
  ·rw[if_neg c,List.getElem?_replicate]
   split<;>simp<;>omega
 constructor
 ·rintro(⟨i,a,_,b,_⟩|⟨i,_,b,c⟩)
  ·have:=(hm i).mp b;omega
  ·rw[(hm i).mp b]at c;exact c
 ·intro h;exact .inr ⟨root,oM,(hm _).mpr rfl,h⟩
def pbv(l:List S31)(v:Int)(i:Nat):Bool:= !(((kA l (i:Int)).f0==19) || ((kA l (i:Int)).f0==20)) || ((kA l (i:Int)).f2 !=v)
theorem d0u(l:List S31)(v:Int)(i:Nat):pbv l v i=true ↔ ¬(isQ l i∧(kA l (i:Int)).f2=v):=by
 unfold pbv isQ
 simp only[Bool.or_eq_true,Bool.not_eq_true',Bool.or_eq_false_iff,beq_eq_false_iff_ne,bne_iff_ne]
 omega
theorem a6o{l:List S31}(hP:qX l)(v:Int)(w root:Nat)(hr:root<l.length) :
  (∃i<l.length,(xC (pbv l v) l root).getD i false=true∧((kA l (i:Int)).f0=1∧(kA l (i:Int)).f2=v∧(kA l (i:Int)).f1.toNat=w)) ↔ (fs (T l root) v).testBit w=true :=
 b9z (pbv l v) _ (fun i=>(fs (T l i) v).testBit w=true) l hP (fun i hi=>by rw[b3h hP i hi,d0u]) root hr
theorem b9m(l:List S31)(met:List Bool)(v x:Int)(d:Nat) :∀i:Nat,i+d=l.length→
  ∃r,a5x l met v x d i=some r∧(r=true ↔ ∀j,i≤j→j<l.length→met.getD j false=true→(kA l (j:Int)).f0=1→(kA l (j:Int)).f2=v→wok (kA l (j:Int)).f1 x=true):=by
 induction d with
 | zero=>intro i hi;exact⟨true,rfl,fun _ j a b=>absurd b oM,fun _=>rfl⟩
 | succ d ih =>
  intro i hi
  obtain⟨r,e,h⟩:=ih (i+1) oM
  unfold a5x
  by_cases c:(met.getD i false&&(kA l (i:Int)).f0==1&&(kA l (i:Int)).f2==v)=true
  ·rw[if_pos c,c9z]
   simp only[Bool.and_eq_true,beq_iff_eq]at c
   by_cases hw:wok (kA l (i:Int)).f1 x=true
   ·refine⟨r,by rw[hw];exact e,?_⟩
    rw[h]
    constructor
    ·intro a j h1 h2 h3 h4 h5
     by_cases cj:j=i
     ·subst cj;exact hw
     ·exact a j oM h2 h3 h4 h5
    ·intro a j h1 h2 h3 h4 h5;exact a j oM h2 h3 h4 h5
   ·rw[Bool.not_eq_true]at hw
    refine⟨false,by rw[hw];rfl,fun h=>absurd h (by decide),fun a=>?_⟩
    have:=a i oM oM c.1.1 c.1.2 c.2
    rw[hw]at this
    exact absurd this (by decide)
  ·rw[if_neg c]
   simp only[Bool.and_eq_true,beq_iff_eq]at c
   refine⟨r,e,?_⟩
   rw[h]
   constructor
   ·intro a j h1 h2 h3 h4 h5
    by_cases cj:j=i
    ·subst cj;exact absurd ⟨⟨h3,h4⟩,h5⟩ c
    ·exact a j oM h2 h3 h4 h5
   ·intro a j h1 h2 h3 h4 h5;exact a j oM h2 h3 h4 h5
theorem b6r(l:List S31)(met:List Bool)(Kq B:Int)(d:Nat) :∀i:Nat,i+d=l.length→
  (a4a l met Kq B d i=true ↔ ∀j,i≤j→j<l.length→met.getD j false=true→(kA l (j:Int)).f0=1→(kA l (j:Int)).f2=Kq→(kA l (j:Int)).f1=B):=by
 induction d with
 | zero=>intro i hi;exact⟨fun _ j a b=>absurd b oM,fun _=>rfl⟩
 | succ d ih =>
  intro i hi
  have h:=ih (i+1) oM
  unfold a4a
  by_cases c:(met.getD i false&&(kA l (i:Int)).f0==1&&(kA l (i:Int)).f2==Kq&&(kA l (i:Int)).f1 !=B)=true
  ·rw[if_pos c]
   simp only[Bool.and_eq_true,beq_iff_eq,bne_iff_ne]at c
   exact⟨fun h=>absurd h (by decide),fun a=>absurd (a i oM oM c.1.1.1 c.1.1.2 c.1.2) c.2⟩
  ·rw[if_neg c,h]
   simp only[Bool.and_eq_true,beq_iff_eq,bne_iff_ne]at c
   constructor
   ·intro a j h1 h2 h3 h4 h5
    by_cases cj:j=i
    ·subst cj;exact Classical.byContradiction fun h6=>c ⟨⟨⟨h3,h4⟩,h5⟩,h6⟩
    ·exact a j oM h2 h3 h4 h5
   ·intro a j h1 h2 h3 h4 h5;exact a j oM h2 h3 h4 h5
theorem b7l{l:List S31}(hl:l.length≤80)(h0:1≤l.length)(hP:qX l)(v:Int):Ev (fun k=>a0o k l v) (xC (pbv l v) l (l.length-1)):=by
 unfold a0o
 rw[kU oM oM,show(l.length:Int)-1=((l.length-1:Nat):Int) by omega]
 refine b0z _ (pbv l v) l oM hP (fun i hi=>?_) (l.length-1) oM
 unfold xJ
 rw[if_pos oM,if_pos oM];rfl
theorem b9k{l:List S31}(hN:pL l)(hl:l.length≤80)(h0:1≤l.length)(env:List Int)(he:env.length=8)(d:Nat) :∀v:Nat,v+d=8→
  ∃r,Ev (fun k=>a3z k l env d v) r∧(r=true ↔ ∀u:Nat,v≤u→u<8→∀w:Nat,(fs (T l (l.length-1)) (u:Int)).testBit w=true→wok (w:Int) (rd env (u:Int))=true):=by
 have hP:=pP hN
 induction d with
 | zero =>
  intro v hv
  refine⟨true,by unfold a3z;exact pZ,fun _ u a b=>absurd b oM,fun _=>rfl⟩
 | succ d ih =>
  intro v hv
  obtain⟨r,e,h⟩:=ih (v+1) oM
  obtain⟨ra,ea,ha⟩:=b9m l (xC (pbv l (v:Int)) l (l.length-1)) (v:Int) (rd env (v:Int)) l.length 0 oM
  have hv2:ra=true ↔ ∀w:Nat,(fs (T l (l.length-1)) (v:Int)).testBit w=true→wok (w:Int) (rd env (v:Int))=true:=by
   rw[ha]
   constructor
   ·intro a w hw
    obtain⟨j,hj,hm,h1,h2,h3⟩:=(a6o hP (v:Int) w (l.length-1) oM).mpr hw
    have:=a j oM hj hm h1 h2
    have hf:=vG hN j hj
    rwa [show((w:Nat):Int)=(kA l (j:Int)).f1 by omega]
   ·intro a j _ hj hm h1 h2
    have:=a (kA l (j:Int)).f1.toNat ((a6o hP (v:Int) _ (l.length-1) oM).mp ⟨j,hj,hm,h1,h2,rfl⟩)
    have hf:=vG hN j hj
    rwa [Int.toNat_of_nonneg oM]at this
  have pre :∀r',Ev (fun k=>if ra=true then a3z k l env d (v+1)else some false) r'→Ev (fun k=>a3z k l env (d+1) v) r':=by
   intro r' H
   unfold a3z
   exact kD oM (kP (b7l hl h0 hP (v:Int)) (kD (xW _ _ _) (qA ea H)))
  by_cases c:ra=true
  ·refine⟨r,pre r (kD c e),?_⟩
   rw[h]
   constructor
   ·intro a u h1 h2
    by_cases cu:u=v
    ·subst cu;exact hv2.mp c
    ·exact a u oM h2
   ·intro a u h1 h2;exact a u oM h2
  ·refine⟨false,pre false (kN c pZ),fun h=>absurd h (by decide),fun a=>absurd (hv2.mpr (a v oM oM)) c⟩
theorem c7e{l:List S31}(hN:pL l)(i:Nat)(hi:i<l.length)(hq:isQ l i):(a4a l (xC (pbv l (kA l (i:Int)).f2) l (kA l (i:Int)).f3.toNat) (kA l (i:Int)).f2 (kA l (i:Int)).f4 l.length 0=true ↔ qn l i):=by
 have hP:=pP hN
 obtain⟨_,hB,⟨a0,a1⟩,_,_⟩:=uP hN i hi hq
 rw[b6r _ _ _ _ l.length 0 oM]
 have:qn l i ↔ (fs (T l (kA l (i:Int)).f3.toNat) (kA l (i:Int)).f2=0∨fs (T l (kA l (i:Int)).f3.toNat) (kA l (i:Int)).f2=2 ^ (kA l (i:Int)).f4.toNat):=⟨fun h=>h hq,fun h _=>h⟩
 rw[this,← b6h]
 constructor
 ·intro a w hw
  obtain⟨j,hj,hm,h1,h2,h3⟩:=(a6o hP _ w (kA l (i:Int)).f3.toNat oM).mpr hw
  have:=a j oM hj hm h1 h2
  omega
 ·intro a j _ hj hm h1 h2
  have:=a (kA l (j:Int)).f1.toNat ((a6o hP _ _ (kA l (i:Int)).f3.toNat oM).mp ⟨j,hj,hm,h1,h2,rfl⟩)
  have hf:=vG hN j hj
  omega
theorem b9l{l:List S31}(hN:pL l)(hl:l.length≤80)(rch:List Bool)(d:Nat) :∀i:Nat,i+d=l.length→
  ∃r,Ev (fun k=>a4q k l rch d i) r∧(r=true ↔ ∀j,i≤j→j<l.length→rch.getD j false=true→qn l j):=by
 have hP:=pP hN
 induction d with
 | zero=>intro i hi;exact⟨true,by unfold a4q;exact pZ,fun _ j a b=>absurd b oM,fun _=>rfl⟩
 | succ d ih =>
  intro i hi
  have hlt:i<l.length:=by omega
  obtain⟨r,e,h⟩:=ih (i+1) oM
  have step:(rch.getD i false=true→qn l i)→(r=true ↔ ∀j,i≤j→j<l.length→rch.getD j false=true→qn l j):=by
   intro hq
   rw[h]
   constructor
   ·intro a j h1 h2 h3
    by_cases cj:j=i
    ·subst cj;exact hq h3
    ·exact a j oM h2 h3
   ·intro a j h1 h2 h3;exact a j oM h2 h3
  unfold a4q
  by_cases c:(rch.getD i false&&((kA l (i:Int)).f0==19 || (kA l (i:Int)).f0==20))=true
  ·have hc:=c
   simp only[Bool.and_eq_true,Bool.or_eq_true,beq_iff_eq]at hc
   have hq:isQ l i:=hc.2
   obtain⟨_,hB,⟨a0,a1⟩,_,_⟩:=uP hN i hlt hq
   have hre:=b0z (wY l (kA l (i:Int)).f2) (pbv l (kA l (i:Int)).f2) l oM hP (fun t ht=>by
    unfold wY
    rw[if_pos oM,if_pos oM];rfl) (kA l (i:Int)).f3.toNat oM
   rw[Int.toNat_of_nonneg a0]at hre
   by_cases hs:a4a l (xC (pbv l (kA l (i:Int)).f2) l (kA l (i:Int)).f3.toNat) (kA l (i:Int)).f2 (kA l (i:Int)).f4 l.length 0=true
   ·exact⟨r,kD c (kP hre (kD (xW _ _ _) (kD hs e))),step (fun _=>(c7e hN i hlt hq).mp hs)⟩
   ·refine⟨false,kD c (kP hre (kD (xW _ _ _) (kN hs pZ))),fun h=>absurd h (by decide),fun a=>?_⟩
    exact absurd ((c7e hN i hlt hq).mpr (a i oM hlt hc.1)) hs
  ·refine⟨r,kN c e,step (fun hr hq=>?_)⟩
   refine absurd ?_ c
   unfold isQ at hq
   rw[hr,Bool.true_and];simpa using hq
theorem c2z{l:List S31}(hN:pL l)(hl:l.length≤80)(h0:1≤l.length)(env:List Int)(he:env.length=8) :
  ∃r,Ev (fun k=>yU k l env) r∧(r=true ↔ (b6w (T l (l.length-1)) env∧∀i<l.length,(xC (fun _=>true) l (l.length-1)).getD i false=true→qn l i)):=by
 have hP:=pP hN
 obtain⟨rv,ev,hv⟩:=b9k hN hl h0 env he 8 0 oM
 obtain⟨rr,er,hr⟩:=b9l hN hl (xC (fun _=>true) l (l.length-1)) l.length 0 oM
 have hv2:rv=true ↔ b6w (T l (l.length-1)) env:=by
  rw[hv];exact⟨fun a v h=>a v oM h,fun a v _ h=>a v h⟩
 have hr2:rr=true ↔ ∀i<l.length,(xC (fun _=>true) l (l.length-1)).getD i false=true→qn l i:=by
  rw[hr];exact⟨fun a v h=>a v oM h,fun a v _ h=>a v h⟩
 unfold yU
 by_cases c:rv=true
 ·exact⟨rr,kD oM (kP ev (kD c (kP (a5q l oM h0 hP) (kD (xW _ _ _) er)))),by rw[hr2];exact⟨fun a=>⟨hv2.mp c,a⟩,fun a=>a.2⟩⟩
 ·exact⟨false,kD oM (kP ev (kN c pZ)),fun h=>absurd h (by decide),fun a=>absurd (hv2.mpr a.1) c⟩
theorem c3c(pb:Nat→Bool)(l:List S31)(j:Nat) :∀(met:List Bool) (i:Nat),met.getD i false=true→(rgo pb l j met).getD i false=true:=by
 induction j with
 | zero=>intro met i h;exact h
 | succ j ih =>
  intro met i h
  refine ih _ i ?_
  unfold zM
  split
  ·exact a0z _ _ _ h
  ·exact h
theorem a0r(pb:Nat→Bool)(l:List S31)(root:Nat)(hr:root<l.length):(xC pb l root).getD root false=true:=by
 unfold xC
 refine c3c pb l _ _ _ ?_
 rw[List.getD_eq_getElem?_getD,List.getElem?_set,if_pos rfl,if_pos (by simpa using hr)];rfl
theorem a8v(met:List Bool)(j:Nat)(hm:met.getD j false=true)(i:Nat)(h:j<i):a0f met j<a0f met i:=by
 induction i with
 | zero=>omega
 | succ i ih =>
  have e:a0f met (i+1)=a0f met i+(if met.getD i false=true then 1 else 0):=rfl
  rw[e]
  by_cases c:j=i
  ·subst c;rw[if_pos hm];omega
  ·have:=ih oM;omega
theorem c1r(met:List Bool)(n:Nat) :∀t<a0f met n,∃j<n,met.getD j false=true∧a0f met j=t:=by
 induction n with
 | zero=>intro t h;exact absurd h (by simp[a0f])
 | succ n ih =>
  intro t h
  have e:a0f met (n+1)=a0f met n+(if met.getD n false=true then 1 else 0):=rfl
  rw[e]at h
  by_cases c:t<a0f met n
  ·obtain⟨j,a,b⟩:=ih t c;exact⟨j,oM,b⟩
  ·by_cases hm:met.getD n false=true
   ·rw[if_pos hm]at h;exact⟨n,oM,hm,oM⟩
   ·rw[if_neg hm]at h;omega
theorem b6z{g g':Int→Int}{n:S31}(h :∀p∈kL n.f0 n.f3 n.f4 n.f5,g p=g' p):a4u g n=a4u g' n:=by
 unfold a4u
 have hlen:=qF n.f0 n.f3 n.f4 n.f5
 unfold kL at h ⊢
 by_cases c1:n.f0=2∨n.f0=17∨n.f0=19∨n.f0=20
 ·rw[if_pos c1]at h ⊢
  simp at h ⊢;exact h
 rw[if_neg c1]at h ⊢
 by_cases c2:3≤n.f0∧n.f0≤16
 ·rw[if_pos c2]at h ⊢
  simp at h ⊢;exact h
 rw[if_neg c2]at h ⊢
 by_cases c3:n.f0=18
 ·rw[if_pos c3]at h ⊢
  simp at h ⊢;exact h
 ·rw[if_neg c3];simp
theorem b6y(g:Int→Int)(n:S31):kL (a4u g n).f0 (a4u g n).f3 (a4u g n).f4 (a4u g n).f5=(kL n.f0 n.f3 n.f4 n.f5).map g:=by
 unfold a4u kL
 simp only[]
 by_cases c1:n.f0=2∨n.f0=17∨n.f0=19∨n.f0=20
 ·simp only[if_pos c1];simp
 simp only[if_neg c1]
 by_cases c2:3≤n.f0∧n.f0≤16
 ·simp only[if_pos c2];simp
 simp only[if_neg c2]
 by_cases c3:n.f0=18
 ·simp only[if_pos c3];simp
 ·simp only[if_neg c3];simp
theorem a3h(g:Int→Int)(n:S31)(h:(kL n.f0 n.f3 n.f4 n.f5).length≤1):(a4u g n).f4=n.f4:=by
 show(if 1<(kL n.f0 n.f3 n.f4 n.f5).length then g n.f4 else n.f4)=n.f4
 rw[if_neg oM]
theorem b9x(g:Int→Int)(n:S31)(h:(kL n.f0 n.f3 n.f4 n.f5).length=0):(a4u g n).f3=n.f3:=by
 show(if 0<(kL n.f0 n.f3 n.f4 n.f5).length then g n.f3 else n.f3)=n.f3
 rw[if_neg oM]
theorem a5o(g:Int→Int)(n:S31)(h:(kL n.f0 n.f3 n.f4 n.f5).length≤2):(a4u g n).f5=n.f5:=by
 show(if 2<(kL n.f0 n.f3 n.f4 n.f5).length then g n.f5 else n.f5)=n.f5
 rw[if_neg oM]
theorem c3s{l:List S31}(hP:qX l)(met:List Bool)(hc :∀i<l.length,met.getD i false=true→∀p∈pl l i,met.getD p.toNat false=true)(i:Nat):i≤l.length→∀j<i,met.getD j false=true→(uF l met i).2[a0f met j]? = some (a4u (fun p=>(a0f met p.toNat:Int)) (kA l (j:Int))):=by
 induction i with
 | zero=>intro _ j h;omega
 | succ i ih =>
  intro hi j hj hm
  have inv:=b1f l met i oM
  unfold uF
  by_cases hb:met.getD i false=true
  ·rw[if_pos hb]
   by_cases c:j=i
   ·subst c
    show((uF l met j).2++[_])[a0f met j]? = _
    rw[← inv.1,List.getElem?_append_right (Nat.le_refl _),Nat.sub_self]
    show some _=some _
    congr 1
    refine b6z (fun p hp=>?_)
    have hpp:p∈pl l j:=hp
    have hin:=hP j oM p hpp
    have hmp:=hc j oM hb p hpp
    have:=inv.2 p.toNat oM hmp
    show((uF l met j).1.set j _).getD p.toNat 0=_
    rw[List.getD_eq_getElem?_getD,List.getElem?_set,if_neg oM,← List.getD_eq_getElem?_getD]
    exact this
   ·show((uF l met i).2++[_])[a0f met j]? = _
    have:=a8v met j hm i oM
    rw[List.getElem?_append_left oM]
    exact ih oM j oM hm
  ·rw[if_neg hb]
   have c:j≠i:=fun e=>hb (e ▸ hm)
   exact ih oM j oM hm
def rl(l:List S31):List Bool:=xC (fun _=>true) l (l.length-1)
theorem a2r{l:List S31}:(vN l).length=a0f (rl l) l.length:=(b1f l (rl l) l.length (Nat.le_refl _)).1
theorem a0m{l:List S31}(hP:qX l)(h0:1≤l.length)(j:Nat)(hj:j<l.length)(hm:(rl l).getD j false=true):kA (vN l) ((a0f (rl l) j:Nat):Int)=a4u (fun p=>(a0f (rl l) p.toNat:Int)) (kA l (j:Int)):=by
 have:=c3s hP (rl l) (vM l hP _ oM) l.length (Nat.le_refl _) j hj hm
 show(vN l).getD (a0f (rl l) j) _=_
 rw[List.getD_eq_getElem?_getD]
 unfold vN
 show((uF l (rl l) l.length).2[a0f (rl l) j]?).getD _=_
 rw[this];rfl
theorem a4x{l:List S31}(t:Nat)(ht:t<(vN l).length) :∃j<l.length,(rl l).getD j false=true∧a0f (rl l) j=t:=by
 rw[a2r]at ht
 exact c1r (rl l) l.length t ht
theorem b4j{l:List S31}(hP:qX l)(h0:1≤l.length)(j:Nat)(hj:j<l.length)(hm:(rl l).getD j false=true):pl (vN l) (a0f (rl l) j)=(pl l j).map fun p=>(a0f (rl l) p.toNat:Int):=by
 unfold pl
 rw[a0m hP h0 j hj hm]
 exact b6y _ _
theorem a9v{l:List S31}(hP:qX l)(h0:1≤l.length):qX (vN l):=by
 intro t ht p hp
 obtain⟨j,hj,hm,rfl⟩:=a4x t ht
 rw[b4j hP h0 j hj hm]at hp
 obtain⟨q,hq,rfl⟩:=List.mem_map.mp hp
 have hin:=hP j hj q hq
 have hmq:=vM l hP (l.length-1) oM j hj hm q hq
 have:=a8v (rl l) q.toNat hmq j oM
 omega
theorem d7v(op W K B B':Int)(ts:List Tm)(h:ts.length≠1):mkT op W K B ts=mkT op W K B' ts:=by
 match ts with
 | []=>rfl
 | [a]=>exact absurd rfl h
 | [a,b]=>rfl
 | a::b::c::d=>rfl
theorem c7f{l:List S31}(hP:qX l)(h0:1≤l.length)(j:Nat):j<l.length→(rl l).getD j false=true→T (vN l) (a0f (rl l) j)=T l j:=by
 have hP':=a9v hP h0
 induction j using Nat.strongRecOn with
 | ind j ih =>
  intro hj hm
  have hlt:a0f (rl l) j<(vN l).length:=by rw[a2r];exact a8v (rl l) j hm l.length hj
  rw[a6p hP' _ hlt,a6p hP j hj,b4j hP h0 j hj hm,a0m hP h0 j hj hm,List.map_map]
  have hmap:(pl l j).map ((fun p=>T (vN l) p.toNat) ∘ fun p=>(a0f (rl l) p.toNat:Int))=(pl l j).map fun p=>T l p.toNat:=by
   refine List.map_congr_left (fun p hp=>?_)
   have hin:=hP j hj p hp
   have hmp:=vM l hP (l.length-1) oM j hj hm p hp
   show T (vN l) ((a0f (rl l) p.toNat:Nat):Int).toNat=_
   rw[Int.toNat_natCast]
   exact ih p.toNat oM oM hmp
  rw[hmap]
  show mkT (kA l (j:Int)).f0 (kA l (j:Int)).f1 (kA l (j:Int)).f2 _ _=_
  by_cases c:(pl l j).length≤1
  ·rw[a3h _ _ c]
  ·exact d7v _ _ _ _ _ _ (by rw[List.length_map];omega)
def c6y(l:List S31)(i t:Nat):Int:=if t<(pl l i).length then(kA l (rd (pl l i) (t:Int))).f1 else 0
theorem b2v(l:List S31)(i:Nat)(hi:i≤l.length):a2s l i=true ↔ ((1≤(kA l (i:Int)).f1∧(kA l (i:Int)).f1≤8)∧(0≤(kA l (i:Int)).f0∧(kA l (i:Int)).f0≤20)∧xE (kA l (i:Int)).f0 (kA l (i:Int)).f2 (kA l (i:Int)).f3 (kA l (i:Int)).f4 (kA l (i:Int)).f5=true∧(∀p∈pl l i,0≤p∧p<(i:Int))∧pG (kA l (i:Int)).f0 (kA l (i:Int)).f1 (kA l (i:Int)).f2 (kA l (i:Int)).f4 (c6y l i 0) (c6y l i 1) (c6y l i 2)=true):=by
 have hin:(kL (kA l (i:Int)).f0 (kA l (i:Int)).f3 (kA l (i:Int)).f4 (kA l (i:Int)).f5).all (fun p=>inB p 0 (((l.take i).length:Int)-1))=true ↔ ∀p∈pl l i,0≤p∧p<(i:Int):=by
  rw[List.all_eq_true,List.length_take,Nat.min_eq_left hi]
  exact⟨fun h p hp=>by have:=qL.mp (h p hp);omega,fun h p hp=>qL.mpr (by have:=h p hp;omega)⟩
 have hw:(∀p∈pl l i,0≤p∧p<(i:Int))→∀t,wv (l.take i) (pl l i) (pl l i).length t=c6y l i t:=by
  intro h t
  unfold wv c6y
  by_cases ht:t<(pl l i).length
  ·have:=h (rd (pl l i) (t:Int)) (by rw[rdI (pl l i) t ht];exact List.getElem_mem _)
   rw[if_pos ht,if_pos ht,a5r l i _ this.1 this.2]
  ·rw[if_neg ht,if_neg ht]
 have hpl:kL (kA l (i:Int)).f0 (kA l (i:Int)).f3 (kA l (i:Int)).f4 (kA l (i:Int)).f5=pl l i:=rfl
 unfold a2s tG
 simp only[Bool.and_eq_true]
 rw[hin,qL,qL,hpl]
 constructor
 ·rintro⟨⟨⟨⟨a,b⟩,c⟩,d⟩,e⟩
  rw[hw d,hw d,hw d]at e
  exact⟨a,b,c,d,e⟩
 ·rintro⟨a,b,c,d,e⟩
  refine⟨⟨⟨⟨a,b⟩,c⟩,d⟩,?_⟩
  rw[hw d,hw d,hw d];exact e
theorem b9u(op W K B B' u v x:Int)(h0:0≤op)(h20:op≤20)(h:op=19∨op=20→B=B'):pG op W K B u v x=pG op W K B' u v x:=by
 by_cases c:op=19∨op=20
 ·rw[h c]
 ·unfold pG
  by_cases c0:op=0
  ·rw[if_pos c0,if_pos c0]
  rw[if_neg c0,if_neg c0]
  by_cases c1:op=1
  ·rw[if_pos c1,if_pos c1]
  rw[if_neg c1,if_neg c1]
  by_cases c2:op=2
  ·rw[if_pos c2,if_pos c2]
  rw[if_neg c2,if_neg c2]
  by_cases c3:3≤op∧op≤12
  ·rw[if_pos c3,if_pos c3]
  rw[if_neg c3,if_neg c3]
  by_cases c4:13≤op∧op≤15
  ·rw[if_pos c4,if_pos c4]
  rw[if_neg c4,if_neg c4]
  by_cases c5:op=16
  ·rw[if_pos c5,if_pos c5]
  rw[if_neg c5,if_neg c5]
  by_cases c6:op=17
  ·rw[if_pos c6,if_pos c6]
  rw[if_neg c6,if_neg c6]
  rw[if_pos oM,if_pos oM]
theorem b9c(g:Int→Int)(n:S31)(h:xE n.f0 n.f2 n.f3 n.f4 n.f5=true):xE (a4u g n).f0 (a4u g n).f2 (a4u g n).f3 (a4u g n).f4 (a4u g n).f5=true:=by
 show xE n.f0 n.f2 (a4u g n).f3 (a4u g n).f4 (a4u g n).f5=true
 have p0 :¬(n.f0=2∨n.f0=17∨n.f0=19∨n.f0=20)→¬(3≤n.f0∧n.f0≤16)→¬n.f0=18→(kL n.f0 n.f3 n.f4 n.f5).length=0:=by
  intro a b c;unfold kL;rw[if_neg a,if_neg b,if_neg c];rfl
 have p1:(n.f0=2∨n.f0=17∨n.f0=19∨n.f0=20)→(kL n.f0 n.f3 n.f4 n.f5).length=1:=by
  intro a;unfold kL;rw[if_pos a];rfl
 have p2:(3≤n.f0∧n.f0≤16)∧¬n.f0=2→(kL n.f0 n.f3 n.f4 n.f5).length=2:=by
  intro a;unfold kL;rw[if_neg oM,if_pos a.1];rfl
 unfold xE at h ⊢
 by_cases c0:n.f0=0∨n.f0=1
 ·have hp:=p0 oM oM oM
  rw[b9x g n hp,a3h g n oM,a5o g n oM]
  exact h
 rw[if_neg c0]at h ⊢
 by_cases c1:n.f0=17
 ·have hp:=p1 oM
  rw[if_pos c1]at h ⊢
  rw[a3h g n oM,a5o g n oM]
  exact h
 rw[if_neg c1]at h ⊢
 by_cases c2:n.f0=19∨n.f0=20
 ·have hp:=p1 oM
  rw[if_pos c2]at h ⊢
  rw[a5o g n oM]
  exact h
 rw[if_neg c2]at h ⊢
 by_cases c3:n.f0=2
 ·have hp:=p1 oM
  rw[if_pos c3]at h ⊢
  rw[a3h g n oM,a5o g n oM]
  exact h
 rw[if_neg c3]at h ⊢
 by_cases c4:3≤n.f0∧n.f0≤16
 ·have hp:=p2 oM
  rw[if_pos c4]at h ⊢
  rw[a5o g n oM]
  exact h
 rw[if_neg c4]at h ⊢
 by_cases c5:n.f0=18
 ·rw[if_pos c5]at h ⊢
  exact h
 ·have hp:=p0 oM c4 c5
  rw[if_neg c5]at h ⊢
  rw[b9x g n hp,a3h g n oM,a5o g n oM]
  exact h
theorem b4k{l:List S31}(hN:pL l)(h0:1≤l.length):pL (vN l):=by
 have hP:=pP hN
 have hP':=a9v hP h0
 intro t ht
 obtain⟨j,hj,hm,rfl⟩:=a4x t ht
 obtain⟨a,b,c,d,e⟩:=(b2v l j oM).mp (hN j hj)
 rw[b2v _ _ oM]
 have hg:=a0m hP h0 j hj hm
 have hpl:=b4j hP h0 j hj hm
 have e0:(kA (vN l) ((a0f (rl l) j:Nat):Int)).f0=(kA l (j:Int)).f0:=by rw[hg];rfl
 have e1:(kA (vN l) ((a0f (rl l) j:Nat):Int)).f1=(kA l (j:Int)).f1:=by rw[hg];rfl
 have e2:(kA (vN l) ((a0f (rl l) j:Nat):Int)).f2=(kA l (j:Int)).f2:=by rw[hg];rfl
 have hw :∀t,c6y (vN l) (a0f (rl l) j) t=c6y l j t:=by
  intro t
  unfold c6y
  rw[hpl,List.length_map]
  by_cases ht:t<(pl l j).length
  ·rw[if_pos ht,if_pos ht]
   have hmem:rd (pl l j) (t:Int)∈pl l j:=by rw[rdI (pl l j) t ht];exact List.getElem_mem _
   have hin:=hP j hj _ hmem
   have hmp:=vM l hP (l.length-1) oM j hj hm _ hmem
   have er:rd ((pl l j).map fun p=>(a0f (rl l) p.toNat:Int)) (t:Int)=(a0f (rl l) (rd (pl l j) (t:Int)).toNat:Int):=by
    rw[rdI _ t (by rw[List.length_map];exact ht),rdI (pl l j) t ht,List.getElem_map]
   rw[er,a0m hP h0 _ oM hmp]
   show(kA l ((rd (pl l j) (t:Int)).toNat:Int)).f1=_
   rw[Int.toNat_of_nonneg hin.1]
  ·rw[if_neg ht,if_neg ht]
 refine⟨by rw[e1];exact a,by rw[e0];exact b,?_,hP' _ ht,?_⟩
 ·rw[hg];exact b9c _ _ c
 ·rw[hw,hw,hw,e0,e1,e2,b9u _ _ _ _ (kA l (j:Int)).f4 _ _ _ b.1 b.2]
  ·exact e
  ·intro hq
   rw[hg]
   exact a3h _ _ (by rw[yE hq];simp)
theorem b2s{l:List S31}(h:zQ l):zQ (vN l):=by
 refine⟨?_,Nat.le_trans (c3g l) h.2.1,b4k h.2.2 h.1⟩
 rw[a2r]
 have:=a8v (rl l) (l.length-1) (a0r _ l _ (by have:=h.1;omega)) l.length (by have:=h.1;omega)
 omega
theorem c0l{l:List S31}(h0:1≤l.length):a0f (rl l) (l.length-1)=(vN l).length-1:=by
 have hm:(rl l).getD (l.length-1) false=true:=a0r (fun _=>true) l (l.length-1) oM
 rw[a2r]
 have e:a0f (rl l) (l.length-1+1)=a0f (rl l) (l.length-1)+(if(rl l).getD (l.length-1) false=true then 1 else 0):=rfl
 rw[show l.length-1+1=l.length by omega]at e
 rw[e,if_pos hm];omega
theorem a3r{l:List S31}(hP:qX l)(h0:1≤l.length):T (vN l) ((vN l).length-1)=T l (l.length-1):=by
 rw[← c0l h0]
 exact c7f hP h0 _ oM (a0r _ l _ oM)
theorem b6a{l:List S31}(hP:qX l)(h0:1≤l.length)(j:Nat)(hj:j<l.length)(hm:(rl l).getD j false=true):isQ (vN l) (a0f (rl l) j) ↔ isQ l j:=by
 unfold isQ;rw[a0m hP h0 j hj hm];exact Iff.rfl
theorem b4i{l:List S31}(hP:qX l)(h0:1≤l.length)(j:Nat)(hj:j<l.length)(hm:(rl l).getD j false=true):qn (vN l) (a0f (rl l) j) ↔ qn l j:=by
 unfold qn
 rw[b6a hP h0 j hj hm]
 by_cases hq:isQ l j
 ·have hpl:pl l j=[(kA l (j:Int)).f3]:=yE hq
  have hin:=hP j hj _ (by rw[hpl];exact List.mem_singleton.mpr rfl)
  have hmp:=vM l hP (l.length-1) oM j hj hm _ (by rw[hpl];exact List.mem_singleton.mpr rfl)
  have e3:(kA (vN l) ((a0f (rl l) j:Nat):Int)).f3=(a0f (rl l) (kA l (j:Int)).f3.toNat:Int):=by
   rw[a0m hP h0 j hj hm]
   unfold a4u
   rw[if_pos (by rw[yE hq];simp)]
  have e4:(kA (vN l) ((a0f (rl l) j:Nat):Int)).f4=(kA l (j:Int)).f4:=by
   rw[a0m hP h0 j hj hm]
   exact a3h _ _ (by rw[yE hq];simp)
  have e2:(kA (vN l) ((a0f (rl l) j:Nat):Int)).f2=(kA l (j:Int)).f2:=by rw[a0m hP h0 j hj hm];rfl
  rw[e3,e4,e2,Int.toNat_natCast,c7f hP h0 _ oM hmp]
 ·exact⟨fun _ h=>absurd h hq,fun _ h=>absurd h hq⟩
def a3c(l:List S31)(met:Nat→Bool):Nat→Int
 | 0=>0
 | i+1=>if met i=true∧isQ l i then a3c l met i+(kA l (i:Int)).f4 else a3c l met i
theorem c0g{l:List S31}(hN:pL l)(met:Nat→Bool)(i:Nat):i≤l.length→0≤a3c l met i∧a3c l met i≤8*(i:Int):=by
 induction i with
 | zero=>intro _;simp[a3c]
 | succ i ih =>
  intro hi
  have h:=ih oM
  unfold a3c
  by_cases c:met i=true∧isQ l i
  ·rw[if_pos c]
   have:=uP hN i oM c.2
   omega
  ·rw[if_neg c];omega
theorem b2t{l:List S31}(hP:qX l)(h0:1≤l.length)(i:Nat):i≤l.length→a3c (vN l) (fun _=>true) (a0f (rl l) i)=a3c l (fun t=>(rl l).getD t false) i:=by
 induction i with
 | zero=>intro _;rfl
 | succ i ih =>
  intro hi
  have h:=ih oM
  have e:a0f (rl l) (i+1)=a0f (rl l) i+(if(rl l).getD i false=true then 1 else 0):=rfl
  rw[e]
  by_cases hm:(rl l).getD i false=true
  ·rw[if_pos hm]
   unfold a3c
   rw[h]
   have hq:=b6a hP h0 i oM hm
   by_cases c:isQ l i
   ·rw[if_pos ⟨rfl,hq.mpr c⟩,if_pos ⟨hm,c⟩]
    rw[a0m hP h0 i oM hm,a3h _ _ (by unfold isQ at c;rw[yE c];simp)]
   ·rw[if_neg (fun h=>c (hq.mp h.2)),if_neg (fun h=>c h.2)]
  ·rw[if_neg hm,Nat.add_zero,h]
   show _=(if _ then _ else _)
   rw[if_neg (fun h=>hm h.1)]
theorem c3f{l:List S31}(hN:pL l)(hl:l.length≤80)(h0:1≤l.length)(d:Nat) :∀i:Nat,i+d=l.length→
  Ev (fun k=>rO k l (a3c l (fun t=>(rl l).getD t false) i) (rl l) (l.length:Int) (i:Int)) (a3c l (fun t=>(rl l).getD t false) l.length):=by
 induction d with
 | zero =>
  intro i hi
  obtain rfl:i=l.length:=by omega
  refine kS ?_
  simp only[rO]
  exact kN oM pZ
 | succ d ih =>
  intro i hi
  have hrl:(rl l).length=l.length:=xW _ _ _
  have hbd:=c0g hN (fun t=>(rl l).getD t false) i oM
  have ih:=ih (i+1) oM
  refine kS ?_
  simp only[rO]
  rw[wS i]
  refine kD oM (kD oM (kD oM ?_))
  have hm:wH false (rl l) (i:Int)=(rl l).getD i false:=rfl
  rw[hm]
  have e:a3c l (fun t=>(rl l).getD t false) (i+1)=if(rl l).getD i false=true∧isQ l i then a3c l (fun t=>(rl l).getD t false) i+(kA l (i:Int)).f4 else a3c l (fun t=>(rl l).getD t false) i:=rfl
  rw[e]at ih
  by_cases c:(rl l).getD i false=true
  ·refine kD c (kD oM (qA (d8v _ _ _ _ _ _) ?_))
   by_cases q:isQ l i
   ·have hq:=uP hN i oM q
    rw[if_pos ⟨c,q⟩]at ih
    rw[kU (x:=a3c l (fun t=>(rl l).getD t false) i+(kA l (i:Int)).f4) oM oM]
    exact kD (by unfold isQ at q;simpa using q) ih
   ·rw[if_neg (fun h=>q h.2)]at ih
    exact kN (by unfold isQ at q;simpa using q) ih
  ·rw[if_neg (fun h=>c h.1)]at ih
   exact kN c ih
theorem b2o{l:List S31}(hN:pL l)(hl:l.length≤80)(h0:1≤l.length):Ev (fun k=>uC k l) (a3c l (fun t=>(rl l).getD t false) l.length):=by
 have hP:=pP hN
 unfold uC
 refine kP (a5q l oM h0 hP) ?_
 have hrl:(xC (fun _=>true) l (l.length-1)).length=l.length:=xW _ _ _
 have:=c3f hN hl h0 l.length 0 oM
 rw[hrl]
 exact this
theorem b6t{p:List S31}(hN:pL p)(hl:p.length≤80)(env:List Int)(r:Int×Bool)
  (H:Ev (fun k=>if a3c p (fun _=>true) p.length>12 then(some (0,false))else((wV k p env).bind fun t599=>(if t599=true then((some (([]:List Int):List Int)).bind fun y600=>(if y600.length+env.length<17592186044416 then((uK k p (y600++env) (wrap64 ((p.length:Int)-1))).bind fun bt606=>(some (bt606.1,true)))else(none)))else(some (0,false))))) r) (d:Nat) :∀i:Nat,i+d=p.length→
  Ev (fun k=>vK k env p (a3c p (fun _=>true) i) (i:Int)) r:=by
 induction d with
 | zero =>
  intro i hi
  obtain rfl:i=p.length:=by omega
  refine kS ?_
  simp only[vK]
  exact kN oM H
 | succ d ih =>
  intro i hi
  have hbd:=c0g hN (fun _=>true) i oM
  have ih:=ih (i+1) oM
  refine kS ?_
  simp only[vK]
  rw[wS i]
  refine kD oM (kD oM (qA (d1h _) ?_))
  have e:a3c p (fun _=>true) (i+1)=if true=true∧isQ p i then a3c p (fun _=>true) i+(kA p (i:Int)).f4 else a3c p (fun _=>true) i:=rfl
  rw[e]at ih
  by_cases q:isQ p i
  ·have hq:=uP hN i oM q
   rw[if_pos ⟨rfl,q⟩]at ih
   rw[kU (x:=a3c p (fun _=>true) i+(kA p (i:Int)).f4) oM oM]
   exact kD (by unfold isQ at q;simpa using q) ih
  ·rw[if_neg (fun h=>q h.2)]at ih
   exact kN (by unfold isQ at q;simpa using q) ih
def b3q(l:List S31)(env:List Int):Prop:=zQ l∧env.length=8∧a3c l (fun t=>(rl l).getD t false) l.length≤12∧b6w (T l (l.length-1)) env∧∀i<l.length,(rl l).getD i false=true→qn l i
theorem a0u(l:List S31)(env:List Int):(b3q l env→Ev (fun k=>uL k l env) (sem (T l (l.length-1)) env,true)∧Ev (fun k=>sF k l env) (sem (T l (l.length-1)) env,true))∧(¬b3q l env→Ev (fun k=>uL k l env) (0,false)∧Ev (fun k=>sF k l env) (0,false)):=by
 obtain⟨b,e1,e2,hb⟩:=a7q l
 have jt:Ev (fun k=>wJ k l env true) (0,false):=by
  refine kS ?_
  simp only[wJ]
  exact kD trivial pZ
 by_cases hbt:b=true
 ·subst hbt
  have hT:=hb.mp rfl
  obtain⟨h0,hl,hN⟩:=hT
  have hP:=pP hN
  by_cases he:env.length=8
  ·
   have hNp:=b4k hN h0
   have hTp:=b2s ⟨h0,hl,hN⟩
   have hlp:(vN l).length≤80:=hTp.2.1
   have h0p:1≤(vN l).length:=hTp.1
   have hqs:a3c (vN l) (fun _=>true) (vN l).length=a3c l (fun t=>(rl l).getD t false) l.length:=by
    rw[a2r];exact b2t hP h0 l.length (Nat.le_refl _)
   have spec :∀r,Ev (fun k=>if a3c (vN l) (fun _=>true) (vN l).length>12 then(some (0,false))else((wV k (vN l) env).bind fun t599=>(if t599=true then((some (([]:List Int):List Int)).bind fun y600=>(if y600.length+env.length<17592186044416 then((uK k (vN l) (y600++env) (wrap64 (((vN l).length:Int)-1))).bind fun bt606=>(some (bt606.1,true)))else(none)))else(some (0,false))))) r→Ev (fun k=>uL k l env) r:=by
    intro r H
    unfold uL
    refine kP e1 (kD rfl ?_)
    rw[show((env.length:Int)!=8)=false by rw[he];rfl]
    refine kS ?_
    simp only[wJ]
    exact kN (by decide) (kP (c2e l ⟨h0,hl,hN⟩ e1) (b6t hNp hlp env r H (vN l).length 0 oM))
   have impl :∀r,Ev (fun k=>(yU k l env).bind fun s=>(if s=true then(uC k l).bind fun q=>(if q>12 then some (0,false)else(impl_valueF l k env ((l.length:Int)-1) (List.replicate l.length (-1))).bind fun p=>some (p.1,true))else some (0,false))) r→Ev (fun k=>sF k l env) r:=by
    intro r H
    unfold sF
    exact kP e2 (kD rfl (kD he (kD ⟨h0,oM⟩ H)))
   obtain⟨fr,fe,fh⟩:=d1r hNp hlp h0p env he
   obtain⟨sr,se,sh⟩:=c2z hN hl h0 env he
   have hfs:fr=true ↔ sr=true:=by
    rw[fh,sh,a3r hP h0]
    constructor
    ·rintro⟨a,b⟩
     exact⟨b,fun i hi hm=>(b4i hP h0 i hi hm).mp (a _ (by rw[a2r];exact a8v (rl l) i hm l.length hi))⟩
    ·rintro⟨a,b⟩
     refine⟨fun t ht=>?_,a⟩
     obtain⟨j,hj,hm,rfl⟩:=a4x t ht
     exact(b4i hP h0 j hj hm).mpr (b j hj hm)
   have hqb:=b2o hN hl h0
   have hroot:wrap64 (((vN l).length:Int)-1)=(((vN l).length-1:Nat):Int):=by rw[kU oM oM];omega
   by_cases hq:a3c l (fun t=>(rl l).getD t false) l.length>12
   ·refine⟨fun h=>absurd hq (by have:=h.2.2.1;omega),fun _=>⟨spec _ (kD (by rw[hqs];exact hq) pZ),impl _ (kP se ?_)⟩⟩
    by_cases c:sr=true
    ·exact kD c (kP hqb (kD hq pZ))
    ·exact kN c pZ
   ·by_cases c:sr=true
    ·have hc:=sh.mp c
     have hg:=c1f hN (fun i=>(rl l).getD i false=true) (fun i hi hm p hp=>vM l hP (l.length-1) oM i hi hm p hp) hc.2 (l.length-1) env oM he (a0r _ l _ oM) hc.1
     obtain⟨kn,ev_,_,_⟩:=c2r hN hl (l.length-1) env (List.replicate l.length (-1)) oM he (by simp) hg (a8f l _ env rfl)
     have hat:=d8c hNp hlp ((vN l).length-1) env oM he
     rw[a3r hP h0]at hat
     refine⟨fun _=>⟨spec _ (kN (by rw[hqs];exact hq) (kP fe (kD (hfs.mpr c) (qA rfl (kD (by simp;omega) ?_))))),impl _ (kP se (kD c (kP hqb (kN hq ?_))))⟩,fun h=>absurd ⟨⟨h0,hl,hN⟩,he,oM,hc.1,hc.2⟩ h⟩
     ·rw[hroot,List.nil_append]
      exact kP hat pZ
     ·rw[show(l.length:Int)-1=((l.length-1:Nat):Int) by omega]
      exact kP ev_ pZ
    ·refine⟨fun h=>absurd (sh.mpr ⟨h.2.2.2.1,h.2.2.2.2⟩) c,fun _=>⟨spec _ (kN (by rw[hqs];exact hq) (kP fe (kN (fun h=>c (hfs.mp h)) pZ))),impl _ (kP se (kN c pZ))⟩⟩
  ·refine⟨fun h=>absurd h.2.1 he,fun _=>⟨?_,?_⟩⟩
   ·unfold uL
    refine kP e1 (kD rfl ?_)
    rw[show((env.length:Int)!=8)=true from bne_iff_ne.mpr oM]
    exact jt
   ·unfold sF
    exact kP e2 (kD rfl (kN he pZ))
 ·refine⟨fun h=>absurd (hb.mpr h.1) hbt,fun _=>⟨?_,?_⟩⟩
  ·unfold uL
   exact kP e1 (kN hbt jt)
  ·unfold sF
   exact kP e2 (kN hbt pZ)
theorem d2k(l:List S31)(env:List Int) :∃r,Ev (fun k=>uL k l env) r∧Ev (fun k=>sF k l env) r:=by
 by_cases h:b3q l env
 ·exact⟨_,(a0u l env).1 h⟩
 ·exact⟨_,(a0u l env).2 h⟩
end Go.Proofs.YtkpipmojkhikaaaGreat.Pure.ValuesW
namespace Go.Proofs.YtkpipmojkhikaaaGreat.Pure
open Go.RowKit Go.Proofs.YtkpipmojkhikaaaGreat.PAll Go.A_ Go.B_ Go.C_ Go.Proofs.YtkpipmojkhikaaaGreat.Base Go.Proofs.YtkpipmojkhikaaaGreat.Pure.ValuesW
def mkB(l:List UInt8):ByteArray:=⟨l.toArray⟩
theorem rI(a b:List UInt8):mkB a++mkB b=mkB (a++b):=by
 unfold mkB
 apply ByteArray.ext
 rw[ByteArray.data_append];simp
theorem pV(a:List UInt8):(mkB a).size=a.length:=by unfold mkB;simp[ByteArray.size]
theorem yS(a:List UInt8):(mkB a).toList=a:=by rw[ByteArray.toList_eq];unfold mkB;simp
def d8(n:Int):UInt8:=UInt8.ofNat (48+n.toNat)
def yK(n:Int):List UInt8:=if n<10 then [d8 n]else if n<100 then [d8 (n / 10),d8 (n%10)]else [d8 (n / 100),d8 (n / 10%10),d8 (n%10)]
theorem yC(n:Int):1≤(yK n).length∧(yK n).length≤3:=by unfold yK;split<;>(try split)<;>simp
theorem d9n{d:Int}(h0:0≤d)(h1:d<10):strOfNums [(IntKind.u64.wrap (48+d))%256]=mkB [d8 d]:=by
 have:d=0∨d=1∨d=2∨d=3∨d=4∨d=5∨d=6∨d=7∨d=8∨d=9:=by omega
 rcases this with rfl|rfl|rfl|rfl|rfl|rfl|rfl|rfl|rfl|rfl<;>decide +kernel
theorem a8t(m:Int)(h1:0≤m)(h2:m≤999)(acc:List UInt8)(hacc:acc.length≤100)(h0:0<m∨acc=[])(r:ByteArray)(h:Ev (fun k=>rU k (m / 10) (mkB (d8 (m%10)::acc))) r) :
  Ev (fun k=>rU k m (mkB acc)) r:=by
 have hw:IntKind.u64.wrap (m / 10)=m / 10:=a1u oM oM
 refine kS ?_
 simp only[rU]
 rw[Int.tmod_eq_emod_of_nonneg oM,Int.tdiv_eq_ediv_of_nonneg oM,hw,yS]
 have hd:=d9n (d:=m%10) oM oM
 have fin:Ev (fun k=>if(strOfNums [(IntKind.u64.wrap (48+m%10))%256]).size+(mkB acc).size≤9223372036854775807 then rU k (m / 10) (strOfNums [(IntKind.u64.wrap (48+m%10))%256]++mkB acc)else none) r:=by
  rw[hd,rI,pV,pV]
  exact kD (by simp;omega) h
 by_cases he:acc=[]
 ·exact kD he (qA rfl fin)
 ·exact kN he (kD (by rcases h0 with h|h;exact h;exact absurd h he) (qA rfl fin))
theorem c7k(n:Int)(h0:0≤n)(h1:n≤999):Ev (fun k=>qP k n) (mkB (yK n)):=by
 unfold qP zH
 have hu:IntKind.u64.wrap n=n:=a1u oM oM
 rw[hu]
 refine kN oM (kP (a:=mkB (yK n)) ?_ pZ)
 have fin :∀l:List UInt8,l≠[]→Ev (fun k=>rU k 0 (mkB l)) (mkB l):=by
  intro l hl
  refine kS ?_
  simp only[rU]
  rw[yS]
  exact kN hl (kN oM pZ)
 refine a8t n h0 h1 [] (by simp) (.inr rfl) _ ?_
 by_cases h10:n<10
 ·rw[show n / 10=0 by omega,show n%10=n by omega]
  unfold yK;rw[if_pos h10];exact fin _ (by simp)
 ·refine a8t _ oM oM _ (by simp) (.inl oM) _ ?_
  by_cases h100:n<100
  ·rw[show n / 10 / 10=0 by omega,show n / 10%10=n / 10 by omega]
   unfold yK;rw[if_neg h10,if_pos h100];exact fin _ (by simp)
  ·refine a8t _ oM oM _ (by simp) (.inl oM) _ ?_
   rw[show n / 10 / 10 / 10=0 by omega,show n / 10 / 10%10=n / 100 by omega]
   unfold yK;rw[if_neg h10,if_neg h100];exact fin _ (by simp)
def yP:List (List UInt8):=[[97,110,100],[111,114],[120,111,114],[97,100,100],[115,117,98],[109,117,108],[100,105,118],[114,101,109],[115,104,108],[115,104,114],[61],[60],[115,60],[106,111,105,110]]
theorem a9m(i:Nat):(yP.getD i []).length≤4:=by
 by_cases h:i<14
 ·have:i=0∨i=1∨i=2∨i=3∨i=4∨i=5∨i=6∨i=7∨i=8∨i=9∨i=10∨i=11∨i=12∨i=13:=by omega
  rcases this with rfl|rfl|rfl|rfl|rfl|rfl|rfl|rfl|rfl|rfl|rfl|rfl|rfl|rfl<;>decide
 ·rw[List.getD_eq_getElem?_getD,List.getElem?_eq_none (by simp[yP];omega)];simp
def hdL(op W K B:Int):List UInt8 :=
 if op=2 then [110,111,116]else if op=17 then [115,108,105,99,101,32]++yK K++[32]++yK W else if op=18 then [105,102]
 else if op=19 then [97,108,108,32,118]++yK K++[58]++yK B else if op=20 then [115,111,109,101,32,118]++yK K++[58]++yK B else yP.getD (op-3).toNat []
theorem d1j(op W K B:Int):(hdL op W K B).length≤20:=by
 have h1:=yC K;have h2:=yC W;have h3:=yC B;have h4:=a9m (op-3).toNat
 unfold hdL;repeat' split
 all_goals (try simp only[List.length_append,List.length_cons,List.length_nil])
 all_goals omega
def a3k(op W K:Int):List UInt8:=if op=0 then [35]++yK W++[58]++yK K else [118]++yK K++[58]++yK W
theorem a3j(op W K:Int):4≤(a3k op W K).length∧(a3k op W K).length≤10:=by
 have h1:=yC K;have h2:=yC W
 unfold a3k;split<;>simp only[List.length_append,List.length_cons,List.length_nil]<;>omega
def b2r(ts:List (List UInt8))(ps:List Int):List UInt8:=ps.flatMap fun p=>32::ts.getD p.toNat []
def b9a(op W K B:Int)(ts:List (List UInt8))(ps:List Int):List UInt8:=40::hdL op W K B++b2r ts ps++[41]
def d0e(ts:List (List UInt8))(op W K A B C:Int):List UInt8 :=
 if op=0∨op=1 then a3k op W K else if((kL op A B C).all fun p=>ts.getD p.toNat []!=[])=true∧(b9a op W K B ts (kL op A B C)).length≤4000 then b9a op W K B ts (kL op A B C)else []
def yD(l:List S31):Nat→List (List UInt8)
 | 0=>[]
 | i+1=>yD l i++[d0e (yD l i) (kA l (i:Int)).f0 (kA l (i:Int)).f1 (kA l (i:Int)).f2 (kA l (i:Int)).f3 (kA l (i:Int)).f4 (kA l (i:Int)).f5]
theorem vT(l:List S31)(i:Nat):(yD l i).length=i:=by
 induction i with
 | zero=>rfl
 | succ i ih=>simp[yD,ih]
theorem d0d(ts:List (List UInt8))(op W K A B C:Int):(d0e ts op W K A B C).length≤4000:=by
 unfold d0e
 split
 ·have:=a3j op W K;omega
 ·split
  ·rename_i h;exact h.2
  ·simp
theorem b2k(l:List S31)(i:Nat) :∀t∈yD l i,t.length≤4000:=by
 induction i with
 | zero=>intro t ht;simp[yD]at ht
 | succ i ih =>
  intro t ht
  simp only[yD,List.mem_append,List.mem_singleton]at ht
  rcases ht with ht|rfl
  ·exact ih t ht
  ·exact d0d _ _ _ _ _ _ _
theorem c1g(ts:List (List UInt8))(h :∀t∈ts,t.length≤4000)(i:Nat):(ts.getD i []).length≤4000:=by
 rw[List.getD_eq_getElem?_getD]
 by_cases hi:i<ts.length
 ·rw[List.getElem?_eq_getElem hi];exact h _ (List.getElem_mem hi)
 ·rw[List.getElem?_eq_none oM];simp
theorem d0t(ts:List (List UInt8))(h :∀t∈ts,t.length≤4000)(ps:List Int):(b2r ts ps).length≤4001*ps.length:=by
 unfold b2r
 induction ps with
 | nil=>simp
 | cons p ps ih =>
  simp only[List.flatMap_cons,List.length_append,List.length_cons]
  have:=c1g ts h p.toNat
  omega
theorem c0j(ts:List (List UInt8))(ps:List Int)(t:Nat)(h:t<ps.length):b2r ts (ps.take (t+1))=b2r ts (ps.take t)++([32]++ts.getD (rd ps (t:Int)).toNat []):=by
 unfold b2r
 rw[List.take_succ_eq_append_getElem h,List.flatMap_append,rdI ps t h];simp
theorem d7j(ts:List (List UInt8))(p:Int)(h0:0≤p)(h1:p.toNat<ts.length)(rest:List ByteArray):wH ByteArray.empty (ts.map mkB++rest) p=mkB (ts.getD p.toNat []):=by
 unfold wH
 rw[List.getD_eq_getElem?_getD,List.getElem?_append_left (by simpa using h1),List.getElem?_map,List.getD_eq_getElem?_getD,List.getElem?_eq_getElem h1];rfl
structure NumOk(op W K A B C:Int):Prop where
 op0:0≤op
 op1:op≤20
 w0:1≤W
 w1:W≤8
 k0:op=0∨op=1∨op=17∨op=19∨op=20→0≤K∧K≤255
 b0:op=19∨op=20→0≤B∧B≤8
theorem c2p{l:List S31}(h:pL l)(i:Nat)(hi:i<l.length):1≤(kA l (i:Int)).f1∧(kA l (i:Int)).f1≤8:=by
 have hb:=h i hi
 unfold a2s tG at hb
 simp only[Bool.and_eq_true]at hb
 exact qL.mp hb.1.1.1.1
theorem c0w{l:List S31}(hN:pL l)(i:Nat)(hi:i<l.length):NumOk (kA l i).f0 (kA l i).f1 (kA l i).f2 (kA l i).f3 (kA l i).f4 (kA l i).f5:=by
 have hb:=hN i hi
 unfold a2s at hb
 have hwid :∀p:Int,inB p 0 (((l.take i).length:Int)-1)=true→1≤(kA (l.take i) p).f1∧(kA (l.take i) p).f1≤8:=by
  intro p hp
  have hp:=qL.mp hp
  rw[List.length_take]at hp
  obtain⟨q,rfl⟩:=Int.eq_ofNat_of_zero_le hp.1
  rw[a5r l i _ hp.1 oM]
  exact c2p hN q oM
 generalize l.take i=L at hb hwid
 generalize (kA l i).f0=op at *
 generalize (kA l i).f1=W at *
 generalize (kA l i).f2=K at *
 generalize (kA l i).f3=A at *
 generalize (kA l i).f4=B at *
 generalize (kA l i).f5=C at *
 unfold tG at hb
 simp only[Bool.and_eq_true]at hb
 obtain⟨⟨⟨⟨hw,hop⟩,hu⟩,hp⟩,hs⟩:=hb
 have hw:=qL.mp hw
 have hop:=qL.mp hop
 refine⟨hop.1,hop.2,hw.1,hw.2,fun h=>?_,fun h=>?_⟩
 ·rcases h with rfl|rfl|rfl|rfl|rfl
  ·have hs:wok W K=true:=by simpa [pG]using hs
   obtain⟨h1,h2,h3,h4⟩:=pO.mp hs
   have:=rM (by omega:0≤W) h2
   omega
  ·have hs:inB K 0 7=true:=by simpa [pG]using hs
   have:=qL.mp hs;omega
  ·have hA:=hwid A (List.all_eq_true.mp hp A (by simp[kL]))
   have hwv:wv L (kL 17 A B C) (kL 17 A B C).length 0=(kA L A).f1:=by simp[wv,kL,rd]
   rw[hwv]at hs
   have hs:inB K 0 (wrap64 ((kA L A).f1-W))=true:=by simpa [pG]using hs
   rw[kU oM oM]at hs
   have:=qL.mp hs;omega
  ·have hs:inB K 0 7=true:=by
    simp only[pG]at hs;simp at hs;exact hs.1.1.1
   have:=qL.mp hs;omega
  ·have hs:inB K 0 7=true:=by
    simp only[pG]at hs;simp at hs;exact hs.1.1.1
   have:=qL.mp hs;omega
 ·have hs:inB B 1 8=true:=by
   rcases h with rfl|rfl<;>(simp only[pG]at hs;simp at hs;exact hs.1.1.2)
  have:=qL.mp hs;omega
theorem d7x(op W K A B C:Int)(hn:NumOk op W K A B C):Ev (fun k=>a1d k op W K A B C) (mkB (if op=0∨op=1 then a3k op W K else 40::hdL op W K B)):=by
 have hW:=c7k W (by have:=hn.w0;omega) (by have:=hn.w1;omega)
 have lW:=yC W;have lK:=yC K;have lB:=yC B
 unfold a1d
 by_cases o0:op=0
 ·have hK:=c7k K (hn.k0 (.inl o0)).1 (by have:=(hn.k0 (.inl o0)).2;omega)
  refine kD o0 (kP hW (kD (by rw[pV];omega) (kD (by rw[show(⟨#[35]⟩:ByteArray)=mkB [35]from rfl,rI,pV];simp;omega) (kP hK (kD ?_ (yF ?_))))))
  ·rw[show(⟨#[35]⟩:ByteArray)=mkB [35]from rfl,show(⟨#[58]⟩:ByteArray)=mkB [58]from rfl,rI,rI,pV,pV];simp;omega
  ·rw[show(⟨#[35]⟩:ByteArray)=mkB [35]from rfl,show(⟨#[58]⟩:ByteArray)=mkB [58]from rfl,rI,rI,rI]
   unfold a3k;rw[if_pos (.inl o0),if_pos o0]
 refine kN o0 ?_
 by_cases o1:op=1
 ·have hK:=c7k K (hn.k0 (.inr (.inl o1))).1 (by have:=(hn.k0 (.inr (.inl o1))).2;omega)
  refine kD o1 (kP hK (kD (by rw[pV];omega) (kD (by rw[show(⟨#[118]⟩:ByteArray)=mkB [118]from rfl,rI,pV];simp;omega) (kP hW (kD ?_ (yF ?_))))))
  ·rw[show(⟨#[118]⟩:ByteArray)=mkB [118]from rfl,show(⟨#[58]⟩:ByteArray)=mkB [58]from rfl,rI,rI,pV,pV];simp;omega
  ·rw[show(⟨#[118]⟩:ByteArray)=mkB [118]from rfl,show(⟨#[58]⟩:ByteArray)=mkB [58]from rfl,rI,rI,rI]
   unfold a3k;rw[if_pos (.inr o1),if_neg o0]
 refine kN o1 ?_
 rw[if_neg (show ¬(op=0∨op=1) by omega)]
 by_cases o2:op=2
 ·exact kD o2 (yF (by unfold hdL;rw[if_pos o2];rfl))
 refine kN o2 ?_
 by_cases o17:op=17
 ·have hK:=c7k K (hn.k0 (.inr (.inr (.inl o17)))).1 (by have:=(hn.k0 (.inr (.inr (.inl o17)))).2;omega)
  refine kD o17 (kP hK (kD (by rw[pV];omega) (kD (by rw[show(⟨#[40,115,108,105,99,101,32]⟩:ByteArray)=mkB [40,115,108,105,99,101,32]from rfl,rI,pV];simp;omega) (kP hW (kD ?_ (yF ?_))))))
  ·rw[show(⟨#[40,115,108,105,99,101,32]⟩:ByteArray)=mkB [40,115,108,105,99,101,32]from rfl,show(⟨#[32]⟩:ByteArray)=mkB [32]from rfl,rI,rI,pV,pV];simp;omega
  ·rw[show(⟨#[40,115,108,105,99,101,32]⟩:ByteArray)=mkB [40,115,108,105,99,101,32]from rfl,show(⟨#[32]⟩:ByteArray)=mkB [32]from rfl,rI,rI,rI]
   unfold hdL;rw[if_neg o2,if_pos o17];rfl
 refine kN o17 ?_
 by_cases o18:op=18
 ·exact kD o18 (yF (by unfold hdL;rw[if_neg o2,if_neg o17,if_pos o18];rfl))
 refine kN o18 ?_
 by_cases o19:op=19
 ·have hK:=c7k K (hn.k0 (.inr (.inr (.inr (.inl o19))))).1 (by have:=(hn.k0 (.inr (.inr (.inr (.inl o19))))).2;omega)
  have hB:=c7k B (hn.b0 (.inl o19)).1 (by have:=(hn.b0 (.inl o19)).2;omega)
  refine kD o19 (kP hK (kD (by rw[pV];omega) (kD (by rw[show(⟨#[40,97,108,108,32,118]⟩:ByteArray)=mkB [40,97,108,108,32,118]from rfl,rI,pV];simp;omega) (kP hB (kD ?_ (yF ?_))))))
  ·rw[show(⟨#[40,97,108,108,32,118]⟩:ByteArray)=mkB [40,97,108,108,32,118]from rfl,show(⟨#[58]⟩:ByteArray)=mkB [58]from rfl,rI,rI,pV,pV];simp;omega
  ·rw[show(⟨#[40,97,108,108,32,118]⟩:ByteArray)=mkB [40,97,108,108,32,118]from rfl,show(⟨#[58]⟩:ByteArray)=mkB [58]from rfl,rI,rI,rI]
   unfold hdL;rw[if_neg o2,if_neg o17,if_neg o18,if_pos o19];rfl
 refine kN o19 ?_
 by_cases o20:op=20
 ·have hK:=c7k K (hn.k0 (.inr (.inr (.inr (.inr o20))))).1 (by have:=(hn.k0 (.inr (.inr (.inr (.inr o20))))).2;omega)
  have hB:=c7k B (hn.b0 (.inr o20)).1 (by have:=(hn.b0 (.inr o20)).2;omega)
  refine kD o20 (kP hK (kD (by rw[pV];omega) (kD (by rw[show(⟨#[40,115,111,109,101,32,118]⟩:ByteArray)=mkB [40,115,111,109,101,32,118]from rfl,rI,pV];simp;omega) (kP hB (kD ?_ (yF ?_))))))
  ·rw[show(⟨#[40,115,111,109,101,32,118]⟩:ByteArray)=mkB [40,115,111,109,101,32,118]from rfl,show(⟨#[58]⟩:ByteArray)=mkB [58]from rfl,rI,rI,pV,pV];simp;omega
  ·rw[show(⟨#[40,115,111,109,101,32,118]⟩:ByteArray)=mkB [40,115,111,109,101,32,118]from rfl,show(⟨#[58]⟩:ByteArray)=mkB [58]from rfl,rI,rI,rI]
   unfold hdL;rw[if_neg o2,if_neg o17,if_neg o18,if_neg o19,if_pos o20];rfl
 refine kN o20 ?_
 have hop:=hn.op0;have hop1:=hn.op1
 have e3:wrap64 (op-3)=op-3:=kU oM oM
 have hlen:=a9m (op-3).toNat
 refine kP (a:=mkB (yP.getD (op-3).toNat [])) ?_ (kD (by rw[pV];omega) (yF ?_))
 ·unfold wO
  refine qA (a:=yP.map mkB) rfl (qA (inI _ _ _) (kD (by simp;omega) ?_))
  rw[e3]
  refine kD oM (kD (by simp[yP];omega) (yF ?_))
  have hrd:=d7j yP (op-3) oM (by simp[yP];omega) []
  rwa [List.append_nil]at hrd
 ·rw[show(⟨#[40]⟩:ByteArray)=mkB [40]from rfl,rI]
  unfold hdL;rw[if_neg o2,if_neg o17,if_neg o18,if_neg o19,if_neg o20];rfl
def yI(ts:List (List UInt8)):List Bool:=ts.map fun t=>t !=[]
theorem b2x(ts:List (List UInt8))(n:Nat)(t:List UInt8)(h:ts.length<n) :
  (ts.map mkB++List.replicate (n-ts.length) (mkB [])).set ts.length (mkB t)=(ts++[t]).map mkB++List.replicate (n-(ts.length+1)) (mkB []):=by
 rw[List.set_append_right _ _ (by simp),List.length_map,Nat.sub_self,show n-ts.length=(n-(ts.length+1))+1 by omega,List.replicate_succ]
 simp
theorem b1e(ts:List (List UInt8))(n:Nat)(h:ts.length<n) :
  ts.map mkB++List.replicate (n-ts.length) (mkB [])=(ts++[[]]).map mkB++List.replicate (n-(ts.length+1)) (mkB []):=by
 rw[show n-ts.length=(n-(ts.length+1))+1 by omega,List.replicate_succ]
 simp
theorem b1j(ts:List (List UInt8))(n:Nat)(b:Bool)(x:Bool)(rest:List Bool):(yI ts++x::rest).set ts.length b=yI ts++b::rest:=by
 rw[List.set_append_right _ _ (by simp[yI])];simp[yI]
theorem b1k(ts:List (List UInt8))(b:Bool)(rest:List Bool)(i:Int)(hi:i=ts.length):wH false (yI ts++b::rest) i=b:=by
 subst hi
 unfold wH
 rw[Int.toNat_natCast,List.getD_eq_getElem?_getD,List.getElem?_append_right (by simp[yI])];simp[yI]
theorem a6f(ts:List (List UInt8))(rest:List Bool)(p:Int)(h0:0≤p)(h1:p<(ts.length:Int)):wH false (yI ts++rest) p=(ts.getD p.toNat []!=[]):=by
 have hlt:p.toNat<ts.length:=by omega
 unfold wH
 rw[List.getD_eq_getElem?_getD,List.getElem?_append_left (by simpa [yI]using hlt),List.getD_eq_getElem?_getD,List.getElem?_eq_getElem hlt]
 simp[yI,hlt]
theorem c3a(l:List S31)(hl:l.length≤80)(i:Nat)(hi:i<l.length)(ts:List (List UInt8))(hts :∀t∈ts,t.length≤4000)(hlen:ts.length=i)(hd:List UInt8)(hh1:1≤hd.length)(hh2:hd.length≤21)(op W K A B C:Int)(ps:List Int)(hps:kL op A B C=ps)
  (hp :∀p∈ps,0≤p∧p<(i:Int)) (rest:List Bool) (R:ByteArray×Bool) (T:List UInt8)
  (hT:T=if(ps.all fun p=>ts.getD p.toNat []!=[])=true∧(hd++b2r ts ps++(if 0<ps.length then [41]else [])).length≤4000 then hd++b2r ts ps++(if 0<ps.length then [41]else [])else [])
  (hnext:Ev (fun k=>pC k l ((ts++[T]).map mkB++List.replicate (l.length-(i+1)) (mkB [])) (yI (ts++[T])++rest) l (l.length:Int) ((i+1:Nat):Int)) R) (d:Nat) :∀t:Nat,t+d=ps.length→
  Ev (fun k=>tC k l (ts.map mkB++List.replicate (l.length-i) (mkB [])) (yI ts++((ps.take t).all fun p=>ts.getD p.toNat []!=[])::rest) (i:Int) (mkB (hd++b2r ts (ps.take t))) l (l.length:Int) (i:Int) ps (ps.length:Int) (t:Int) op W K A B C) R:=by
 have hps3:ps.length≤3:=by rw[← hps];exact qF _ _ _ _
 have hle :∀t,(b2r ts (ps.take t)).length≤12003:=by
  intro t
  have:=d0t ts hts (ps.take t)
  rw[List.length_take]at this
  omega
 have hfl:(yI ts).length=i:=by simp[yI,hlen]
 have hx4:(ts.map mkB++List.replicate (l.length-i) (mkB [])).length=l.length:=by simp[hlen];omega
 induction d with
 | zero =>
  intro t ht
  have h1:=hle t
  rw[List.take_of_length_le oM]at h1 ⊢
  have hT':T=if(ps.all fun p=>ts.getD p.toNat []!=[])=true∧(hd++b2r ts ps++(if 0<ps.length then [41]else [])).length≤4000 then hd++b2r ts ps++(if 0<ps.length then [41]else [])else []:=hT
  clear hT
  generalize (ps.all fun p=>ts.getD p.toNat []!=[])=b at hT' ⊢
  have fin :∀s':List UInt8,hd++b2r ts ps++(if 0<ps.length then [41]else [])=s'→Ev (fun k=>if 0≤(i:Int)then(if(i:Int)<((yI ts++b::rest).length:Int)then(if wH false (yI ts++b::rest) (i:Int)=true then((some ((yI ts++b::rest).set ((i:Int):Int).toNat (decide (((mkB s').size:Int)≤4000)):List Bool)).bind fun y=>(if wH false y (i:Int)=true then(if(i:Int)<((ts.map mkB++List.replicate (l.length-i) (mkB [])).length:Int)then(pC k l ((ts.map mkB++List.replicate (l.length-i) (mkB [])).set ((i:Int):Int).toNat (mkB s')) y l (l.length:Int) (wrap64 ((i:Int)+1)))else(none))else(pC k l (ts.map mkB++List.replicate (l.length-i) (mkB [])) y l (l.length:Int) (wrap64 ((i:Int)+1)))))
    else((some ((yI ts++b::rest).set ((i:Int):Int).toNat false:List Bool)).bind fun y=>(if wH false y (i:Int)=true then(if(i:Int)<((ts.map mkB++List.replicate (l.length-i) (mkB [])).length:Int)then(pC k l ((ts.map mkB++List.replicate (l.length-i) (mkB [])).set ((i:Int):Int).toNat (mkB s')) y l (l.length:Int) (wrap64 ((i:Int)+1)))else(none))else(pC k l (ts.map mkB++List.replicate (l.length-i) (mkB [])) y l (l.length:Int) (wrap64 ((i:Int)+1))))))else(none))else(none)) R:=by
   intro s' hs'
   rw[hs']at hT'
   have hs1:s'≠[]:=by rw[← hs'];intro h;have:=congrArg List.length h;rw[List.length_append,List.length_append]at this;simp only[List.length_nil]at this;omega
   have hset:=b1j ts l.length (decide (((mkB s').size:Int)≤4000)) b rest
   have hset0:=b1j ts l.length false b rest
   rw[hlen]at hset hset0
   rw[Int.toNat_natCast,hset,hset0,wS i]
   refine kD oM (kD (by rw[List.length_append,hfl];simp;omega) ?_)
   rw[b1k ts b rest i oM]
   have keep:=b1e ts l.length oM
   have sett:=b2x ts l.length s' oM
   rw[hlen]at keep sett
   cases hb:b with
   | true =>
    subst hb
    refine kD rfl (qA rfl ?_)
    rw[b1k ts _ rest i oM]
    by_cases hc:s'.length≤4000
    ·rw[if_pos ⟨rfl,hc⟩]at hT'
     rw[hT']at hnext
     have hd4:decide (((mkB s').size:Int)≤4000)=true:=decide_eq_true (by rw[pV];omega)
     rw[hd4]
     refine kD rfl (kD (by rw[hx4];omega) ?_)
     rw[sett]
     have e:yI (ts++[s'])++rest=yI ts++true::rest:=by simp[yI,hs1]
     rw[e]at hnext;exact hnext
    ·rw[if_neg (fun h=>hc h.2)]at hT'
     rw[hT']at hnext
     have hd4:decide (((mkB s').size:Int)≤4000)=false:=decide_eq_false (by rw[pV];omega)
     rw[hd4]
     refine kN (by simp) ?_
     rw[keep]
     have e:yI (ts++[[]])++rest=yI ts++false::rest:=by simp[yI]
     rw[e]at hnext;exact hnext
   | false =>
    subst hb
    rw[if_neg (fun h=>by simp at h)]at hT'
    rw[hT']at hnext
    refine kN (by simp) (qA rfl ?_)
    rw[b1k ts _ rest i oM]
    refine kN (by simp) ?_
    rw[keep]
    have e:yI (ts++[[]])++rest=yI ts++false::rest:=by simp[yI]
    rw[e]at hnext;exact hnext
  refine kS ?_
  simp only[tC]
  refine kN oM (kP (a1h 1 fun k hk=>a6a _ _ _ _ _ _ hk) ?_)
  rw[hps]
  by_cases h0:(ps.length:Int)>0
  ·refine kD h0 (kD (by rw[pV,List.length_append];omega) ?_)
   rw[show(⟨#[41]⟩:ByteArray)=mkB [41]from rfl,rI]
   exact fin _ (by rw[if_pos oM])
  ·exact kN h0 (fin _ (by rw[if_neg oM,List.append_nil]))
 | succ d ih =>
  intro t ht
  have hlt:t<ps.length:=by omega
  have hq:=hp _ (List.getElem_mem hlt)
  have hr:rd ps (t:Int)=ps[t]:=rdI ps t hlt
  have h1:=hle t
  refine kS ?_
  simp only[tC]
  have hrd:=d7j ts (rd ps (t:Int)) (by rw[hr];exact hq.1) (by rw[hr];omega) (List.replicate (l.length-i) (mkB []))
  have hlast:=c1g ts hts (rd ps (t:Int)).toNat
  have hset:=fun b=>b1j ts l.length b ((ps.take t).all fun p=>ts.getD p.toNat []!=[]) rest
  rw[hlen]at hset
  rw[hrd,show(⟨#[32]⟩:ByteArray)=mkB [32]from rfl,rI,rI,pV,pV,pV,Int.toNat_natCast,hset,hset,b1k ts _ rest i oM,a6f ts _ (rd ps (t:Int)) (by rw[hr];exact hq.1) (by rw[hr];omega)]
  have hx5:((yI ts++((ps.take t).all fun p=>ts.getD p.toNat []!=[])::rest).length:Int)=i+1+rest.length:=by rw[List.length_append,hfl];simp;omega
  refine kD oM (kD oM (kD oM (kD (by simp only[List.length_append];omega) (kD (by rw[hr];exact hq.1) (kD (by rw[hr,hx4];omega) (kD (by simp only[List.length_append,List.length_cons,List.length_nil];omega) (kD oM (kD (by rw[hx5];omega) ?_))))))))
  rw[wS t,List.append_assoc,List.append_assoc,← c0j ts ps t hlt]
  have:=ih (t+1) oM
  rw[List.take_succ_eq_append_getElem hlt,List.all_append,← hr]at this
  by_cases hb:((ps.take t).all fun p=>ts.getD p.toNat []!=[])=true
  ·refine kD hb (kD (by rw[hx5,hr];omega) ?_)
   rw[hb]at this
   simpa [← List.take_succ_eq_append_getElem hlt,hr]using this
  ·refine kN hb ?_
   have hb':((ps.take t).all fun p=>ts.getD p.toNat []!=[])=false:=by simpa using hb
   rw[hb']at this
   simpa [← List.take_succ_eq_append_getElem hlt,hr]using this
theorem b6u(l:List S31)(hl:l.length≤80)(hN:pL l)(h0:1≤l.length)(d:Nat) :∀i:Nat,i+d=l.length→
  Ev (fun k=>pC k l ((yD l i).map mkB++List.replicate (l.length-i) (mkB [])) (yI (yD l i)++List.replicate (l.length-i) false) l (l.length:Int) (i:Int)) (mkB ((yD l l.length).getD (l.length-1) []),((yD l l.length).getD (l.length-1) []!=[])):=by
 induction d with
 | zero =>
  intro i hi
  obtain rfl:i=l.length:=by omega
  refine kS ?_
  simp only[pC]
  rw[kU (x:=(l.length:Int)-1) oM oM]
  have hrd:=d7j (yD l l.length) ((l.length:Int)-1) oM (by rw[vT];omega) (List.replicate (l.length-l.length) (mkB []))
  rw[show((l.length:Int)-1).toNat=l.length-1 by omega]at hrd
  have hrf:=a6f (yD l l.length) (List.replicate (l.length-l.length) false) ((l.length:Int)-1) oM (by rw[vT];omega)
  rw[show((l.length:Int)-1).toNat=l.length-1 by omega]at hrf
  rw[hrd,hrf]
  exact kN oM (kD oM (kD (by simp[vT];omega) (kD (by simp[vT,yI];omega) pZ)))
 | succ d ih =>
  intro i hi
  have hlt:i<l.length:=by omega
  have hn:=c0w hN i hlt
  have hp :∀p∈pl l i,0≤p∧p<(i:Int):=pP hN i hlt
  have hh:=d7x _ _ _ _ _ _ hn
  have hsp:List.replicate (l.length-i) false=false::List.replicate (l.length-(i+1)) false:=by rw[show l.length-i=(l.length-(i+1))+1 by omega,List.replicate_succ]
  have hset:=b1j (yD l i) l.length true false (List.replicate (l.length-(i+1)) false)
  rw[vT]at hset
  refine kS ?_
  simp only[pC]
  rw[hsp,Int.toNat_natCast,hset]
  refine kD oM (kD oM (kD oM (kP hh (kD (by simp[vT,yI];omega) (kP (a1h 1 fun k hk=>a6a _ _ _ _ _ _ hk) ?_)))))
  have hnext:=ih (i+1) oM
  have key:=c3a l hl i hlt (yD l i) (b2k l i) (vT l i) (if(kA l (i:Int)).f0=0∨(kA l (i:Int)).f0=1 then a3k (kA l (i:Int)).f0 (kA l (i:Int)).f1 (kA l (i:Int)).f2 else 40::hdL (kA l (i:Int)).f0 (kA l (i:Int)).f1 (kA l (i:Int)).f2 (kA l (i:Int)).f4)
   (by split;exact Nat.le_trans oM (a3j _ _ _).1;simp) (by split;exact Nat.le_trans (a3j _ _ _).2 oM;have:=d1j (kA l (i:Int)).f0 (kA l (i:Int)).f1 (kA l (i:Int)).f2 (kA l (i:Int)).f4;simp;omega)
   (kA l (i:Int)).f0 (kA l (i:Int)).f1 (kA l (i:Int)).f2 (kA l (i:Int)).f3 (kA l (i:Int)).f4 (kA l (i:Int)).f5 (pl l i) rfl hp (List.replicate (l.length-(i+1)) false) _ _ ?_ hnext (pl l i).length 0 oM
  ·rw[List.take_zero]at key
   simp only[b2r,List.flatMap_nil,List.append_nil,List.all_nil]at key
   exact key
  ·have hop:=hn.op0;have hop1:=hn.op1
   unfold d0e
   by_cases h01:(kA l (i:Int)).f0=0∨(kA l (i:Int)).f0=1
   ·have hpl:pl l i=[]:=by unfold pl kL;rw[if_neg oM,if_neg oM,if_neg oM]
    have:=a3j (kA l (i:Int)).f0 (kA l (i:Int)).f1 (kA l (i:Int)).f2
    rw[if_pos h01,if_pos h01,hpl]
    simp only[b2r,List.flatMap_nil,List.length_nil,List.append_nil,List.all_nil,Nat.lt_irrefl,if_false,true_and]
    rw[if_pos oM]
   ·have hpl:0<(pl l i).length:=by
     unfold pl kL
     split
     ·simp
     ·split
      ·simp
      ·rw[if_pos oM];simp
    rw[if_neg h01,if_neg h01,if_pos hpl]
    rfl
theorem b0f(L:List UInt8)(i:Nat)(h:i<L.length):bt (mkB L) (i:Int)=((L.getD i 0).toNat:Int):=by
 unfold bt mkB
 rw[Int.toNat_natCast,dif_pos (by simpa [ByteArray.size]using h)]
 simp[ByteArray.getElem_eq_getElem_data,List.getD_eq_getElem?_getD,h]
def dig(x:UInt8):Bool:=decide (48≤x.toNat∧x.toNat≤57)
def dv(x:UInt8):Int:=(x.toNat:Int)-48
theorem c1n{x:UInt8}:dig x=true ↔ 0≤dv x∧dv x≤9:=by unfold dig dv;simp only[decide_eq_true_eq];omega
def d5i(v:Int)(L:List UInt8):Int:=L.foldl (fun n x=>10*n+dv x) v
theorem c7g{i:Nat}(h:i≤9):(1:Int)≤10 ^ i∧(10:Int) ^ i≤1000000000:=by
 have:i=0∨i=1∨i=2∨i=3∨i=4∨i=5∨i=6∨i=7∨i=8∨i=9:=by omega
 rcases this with rfl|rfl|rfl|rfl|rfl|rfl|rfl|rfl|rfl|rfl<;>decide
def b4n(L:List UInt8):Option Int:=if(1≤L.length∧L.length≤9)∧L.all dig=true∧¬(1<L.length∧L.headD 0=48)then some (d5i 0 L)else none
theorem a5g(L:List UInt8)(i:Nat)(h:i<L.length):L.drop i=L.getD i 0::L.drop (i+1):=by
 rw[List.drop_eq_getElem_cons h,List.getD_eq_getElem?_getD,List.getElem?_eq_getElem h];rfl
theorem c0x(L:List UInt8)(hl:L.length≤9)(d:Nat) :∀(i:Nat) (v:Int),i+d=L.length→0≤v→v<10 ^ i→
  Ev (fun k=>sQ k (mkB L) v (L.length:Int) (i:Int)) (if(L.drop i).all dig=true then(d5i v (L.drop i),true)else(0,false)):=by
 induction d with
 | zero =>
  intro i v hi h0 h1
  refine kS ?_
  simp only[sQ]
  rw[List.drop_eq_nil_of_le oM]
  exact kN oM (yF rfl)
 | succ d ih =>
  intro i v hi h0 h1
  have hb:=c7g (i:=i) oM
  refine kS ?_
  simp only[sQ]
  rw[b0f L i oM,pV,a5g L i oM,List.all_cons]
  have hx:=UInt8.toNat_lt (L.getD i 0)
  generalize L.getD i 0=x at *
  refine kD oM (kD oM (kD oM ?_))
  by_cases hd:dig x=true
  ·have hv:=c1n.mp hd
   have hb2:=c7g (i:=i+1) oM
   rw[hd,Bool.true_and]
   refine kN (by unfold dv at hv;omega) (kN (by unfold dv at hv;omega) ?_)
   rw[show((x.toNat:Int)-48)%256=dv x by unfold dv at *;omega,kU (x:=10*v) oM oM,kU (x:=10*v+dv x) oM oM,kU (x:=(i:Int)+1) oM oM]
   exact ih (i+1) (10*v+dv x) oM oM (by rw[Int.pow_succ];omega)
  ·have e:dig x=false:=by simpa using hd
   rw[e,Bool.false_and,if_neg (by simp)]
   have hnd :¬(0≤dv x∧dv x≤9):=fun h=>hd (c1n.mpr h)
   unfold dv at hnd
   by_cases h48:(x.toNat:Int)<48
   ·exact kD h48 pZ
   ·exact kN h48 (kD oM pZ)
theorem d7k(L:List UInt8)(hb:L.length≤4000):Ev (fun k=>qU k (mkB L)) (match b4n L with|some v=>(v,true)|none=>(0,false)):=by
 unfold qU
 rw[inI,pV]
 simp only[Option.bind_some]
 have hj :∀b:Bool,(1≤L.length∧L.length≤9)→(b=true ↔ 1<L.length∧L.headD 0=48)→Ev (fun k=>rR k (mkB L) b) (match b4n L with|some v=>(v,true)|none=>(0,false)):=by
  intro b hl hbb
  refine kS ?_
  simp only[rR]
  by_cases h:b=true
  ·refine kD h ?_
   rw[show b4n L=none by unfold b4n;rw[if_neg (fun hc=>hc.2.2 (hbb.mp h))]]
   exact pZ
  ·refine kN h ?_
   rw[pV]
   have:=c0x L hl.2 L.length 0 0 oM oM (by decide)
   rw[List.drop_zero]at this
   have e:(match b4n L with|some v=>(v,true)|none=>((0:Int),false))=if L.all dig=true then(d5i 0 L,true)else(0,false):=by
    unfold b4n
    by_cases hd:L.all dig=true
    ·rw[if_pos ⟨hl,hd,fun hc=>h (hbb.mpr hc)⟩,if_pos hd]
    ·rw[if_neg (fun hc=>hd hc.2.1),if_neg hd]
   rw[e]
   exact this
 by_cases hl:1≤L.length∧L.length≤9
 ·refine kD (by simp;omega) ?_
  by_cases h1:1<L.length
  ·refine kD oM (kD oM (hj _ hl ?_))
   have:=b0f L 0 oM
   rw[show((0:Nat):Int)=0 from rfl]at this
   rw[this]
   cases L with
   | nil=>simp at h1
   | cons x L =>
    simp only[List.getD_cons_zero,List.headD_cons,beq_iff_eq]
    constructor
    ·intro h;exact⟨h1,by apply UInt8.toNat_inj.mp;show x.toNat=48;omega⟩
    ·intro h;rw[h.2];rfl
  ·exact kN oM (hj _ hl ⟨fun h=>absurd h (by decide),fun h=>absurd h.1 h1⟩)
 ·refine kN (by simp;omega) ?_
  rw[show b4n L=none by unfold b4n;rw[if_neg (fun hc=>hl hc.1)]]
  refine kS ?_
  simp only[rR]
  exact kD trivial pZ
theorem a2t(L:List UInt8)(i j:Nat):(mkB L).extract i j=mkB ((L.drop i).take (j-i)):=by
 unfold mkB
 apply ByteArray.ext
 simp[ByteArray.data_extract,List.extract_eq_take_drop]
def a9j(x:UInt8):Bool:=x==32 || x==40 || x==41
def wd(e:UInt8→Bool)(L:List UInt8)(a:Nat):List UInt8:=(L.drop a).takeWhile fun x=> !e x
theorem a3y{p:UInt8→Bool}(L:List UInt8):L.take (L.takeWhile p).length=L.takeWhile p:=by
 induction L with
 | nil=>rfl
 | cons x L ih =>
  by_cases h:p x=true
  ·rw[List.takeWhile_cons_of_pos h,List.length_cons,List.take_succ_cons,ih]
  ·rw[List.takeWhile_cons_of_neg h];rfl
theorem d0b(e:UInt8→Bool)(L:List UInt8)(a:Nat)(h:a<L.length):wd e L a=if e (L.getD a 0)=true then []else L.getD a 0::wd e L (a+1):=by
 unfold wd
 rw[a5g L a h]
 by_cases he:e (L.getD a 0)=true
 ·rw[if_pos he,List.takeWhile_cons_of_neg (by rw[he];decide)]
 ·rw[if_neg he,List.takeWhile_cons_of_pos (by rw[Bool.eq_false_iff.mpr he];rfl)]
theorem c3u(x:UInt8):Ev (fun _=>a0b (x.toNat:Int)) (a9j x):=by
 refine d9m ?_
 have e32:((x.toNat:Int)=32) ↔ x=32:=⟨fun h=>UInt8.toNat_inj.mp (by show x.toNat=32;omega),fun h=>by subst h;rfl⟩
 have e40:((x.toNat:Int)=40) ↔ x=40:=⟨fun h=>UInt8.toNat_inj.mp (by show x.toNat=40;omega),fun h=>by subst h;rfl⟩
 have e41:((x.toNat:Int)=41) ↔ x=41:=⟨fun h=>UInt8.toNat_inj.mp (by show x.toNat=41;omega),fun h=>by subst h;rfl⟩
 unfold a0b a9j
 by_cases h1:x=32
 ·subst h1;rfl
 ·by_cases h2:x=40
  ·subst h2;rfl
  ·rw[if_neg (fun h=>h1 (e32.mp h)),if_neg (fun h=>h2 (e40.mp h))]
   have b1:(x==32)=false:=by simpa using h1
   have b2:(x==40)=false:=by simpa using h2
   rw[b1,b2]
   by_cases h3:x=41
   ·subst h3;rfl
   ·have b3:(x==41)=false:=by simpa using h3
    rw[b3]
    have:((x.toNat:Int)==41)=false:=by simpa using fun h=>h3 (e41.mp h)
    rw[this];rfl
theorem b6k(L:List UInt8)(hL:L.length≤4000)(l:List S31)(c b:Int)(a:Nat)(d:Nat) :∀j:Nat,j+d=L.length→a≤j→
  Ev (fun k=>pQ k (a:Int) (mkB L) (j:Int) l c b) (mkB ((L.drop a).take (j+(wd a9j L j).length-a)),mkB L,((j+(wd a9j L j).length:Nat):Int),c,b):=by
 induction d with
 | zero =>
  intro j hj ha
  have hw:wd a9j L j=[]:=by unfold wd;rw[List.drop_eq_nil_of_le oM];rfl
  refine kS ?_
  simp only[pQ]
  rw[hw,pV,Int.toNat_natCast,Int.toNat_natCast,a2t]
  exact kN oM (kD oM (kD oM (kD oM pZ)))
 | succ d ih =>
  intro j hj ha
  refine kS ?_
  simp only[pQ]
  rw[pV,b0f L j oM,Int.toNat_natCast,Int.toNat_natCast,a2t,d0b a9j L j oM]
  refine kD oM (kD oM (kP (c3u _) ?_))
  by_cases he:a9j (L.getD j 0)=true
  ·rw[if_pos he]
   exact kD he (kD oM (kD oM (kD oM pZ)))
  ·rw[if_neg he,kU oM oM]
   refine kN he ?_
   have:=ih (j+1) oM oM
   rw[List.length_cons,show j+((wd a9j L (j+1)).length+1)=j+1+(wd a9j L (j+1)).length by omega]
   exact this
theorem b6l(L:List UInt8)(hL:L.length≤4000)(l:List S31)(c b:Int)(a:Nat)(ha:a≤L.length):Ev (fun k=>wF k (mkB L) (a:Int) l c b) (mkB (wd a9j L a),((a+(wd a9j L a).length:Nat):Int)):=by
 obtain⟨K,hK⟩:=b6k L hL l c b a (L.length-a) a oM (Nat.le_refl _)
 refine⟨K,fun k hk=>?_⟩
 have h:=hK k hk
 dsimp only at h ⊢
 unfold wF tJ
 rw[h,show a+(wd a9j L a).length-a=(wd a9j L a).length by omega]
 simp only[Option.map_some]
 unfold wd
 rw[a3y]
def b6g(L:List UInt8)(j:Nat):Nat:=j+((L.drop j).takeWhile fun x=>x !=58).length
theorem c1q(L:List UInt8)(j:Nat)(h:j≤L.length):j≤b6g L j∧b6g L j≤L.length:=by
 have:=congrArg List.length (a3y (p:=fun x=>x !=58) (L.drop j))
 rw[List.length_take,List.length_drop]at this
 unfold b6g;omega
theorem c1p(L:List UInt8)(j:Nat)(h:j<L.length):b6g L j=if L.getD j 0=58 then j else b6g L (j+1):=by
 unfold b6g
 rw[a5g L j h]
 by_cases he:L.getD j 0=58
 ·rw[if_pos he,List.takeWhile_cons_of_neg (by rw[he];decide)];rfl
 ·rw[if_neg he,List.takeWhile_cons_of_pos (by simpa using he),List.length_cons];omega
def a9y(L:List UInt8)(e:Nat):Option (Int×Int):=if e<L.length then(match b4n ((L.drop 1).take (e-1)),b4n (L.drop (e+1))with|some a,some b=>some (a,b)|_,_=>none)else none
def a4g(L:List UInt8)(sg:Int):Option (Int×Int):=if L≠[]∧((L.headD 0).toNat:Int)=sg then a9y L (b6g L 1)else none
theorem c58(x:UInt8):((x.toNat:Int)=58) ↔ x=58:=⟨fun h=>UInt8.toNat_inj.mp (by show x.toNat=58;omega),fun h=>by subst h;rfl⟩
theorem b7d(L:List UInt8)(hL:L.length≤4000)(r:Int×Int×Bool)(d:Nat) :∀j:Nat,j+d=L.length→1≤j→Ev (fun k=>rX k (mkB L) ((b6g L j:Nat):Int)) r→Ev (fun k=>uB k (mkB L) (j:Int)) r:=by
 induction d with
 | zero =>
  intro j hj h1 h
  have:=c1q L j oM
  rw[show b6g L j=j by omega]at h
  refine kS ?_
  simp only[uB]
  rw[pV]
  exact kN oM h
 | succ d ih =>
  intro j hj h1 h
  rw[c1p L j oM]at h
  refine kS ?_
  simp only[uB]
  rw[pV,b0f L j oM]
  refine kD oM (kD oM ?_)
  by_cases he:L.getD j 0=58
  ·rw[if_pos he]at h
   exact kD ((c58 _).mpr he) h
  ·rw[if_neg he]at h
   rw[kU oM oM]
   exact kN (fun h=>he ((c58 _).mp h)) (ih (j+1) oM oM h)
theorem d5u(L:List UInt8)(hL:L.length≤4000)(sg:Int) :∃x y,Ev (fun k=>sP k (mkB L) sg) (x,y,(a4g L sg).isSome)∧∀a b,a4g L sg=some (a,b)→x=a∧y=b:=by
 unfold sP
 have nope:a4g L sg=none→∃x y,Ev (fun k=>rY k (mkB L) true) (x,y,(a4g L sg).isSome)∧∀a b,a4g L sg=some (a,b)→x=a∧y=b:=by
  intro hn
  refine⟨0,0,?_,fun a b h=>by rw[hn]at h;cases h⟩
  rw[hn]
  refine kS ?_
  simp only[rY]
  exact kD trivial pZ
 by_cases hne:L=[]
 ·obtain⟨x,y,h1,h2⟩:=nope (by unfold a4g;rw[if_neg (fun h=>h.1 hne)])
  exact⟨x,y,kD (by rw[yS];exact hne) h1,h2⟩
 have hp:0<L.length:=by cases L with|nil=>exact absurd rfl hne|cons x L=>simp
 have hb0:=b0f L 0 hp
 rw[show((0:Nat):Int)=0 from rfl]at hb0
 have hh:L.getD 0 0=L.headD 0:=by cases L<;>rfl
 rw[hb0,hh,pV]
 by_cases hs:((L.headD 0).toNat:Int)=sg
 ·have hpl:a4g L sg=a9y L (b6g L 1):=by unfold a4g;rw[if_pos ⟨hne,hs⟩]
  have hc:=c1q L 1 oM
  rw[hpl]
  have step :∀r,Ev (fun k=>rX k (mkB L) ((b6g L 1:Nat):Int)) r→Ev (fun k=>if(mkB L).toList=[]then rY k (mkB L) true else if(0:Int)<(L.length:Int)then rY k (mkB L) (((L.headD 0).toNat:Int)!=sg)else none) r:=by
   intro r h
   refine kN (by rw[yS];exact hne) (kD oM (kS ?_))
   simp only[rY]
   exact kN (by rw[hs];simp) (b7d L hL r (L.length-1) 1 oM oM h)
  generalize b6g L 1=e at *
  by_cases he:e=L.length
  ·refine⟨0,0,step _ ?_,fun a b h=>by unfold a9y at h;rw[if_neg oM]at h;cases h⟩
   unfold a9y
   rw[if_neg oM]
   refine kS ?_
   simp only[rX]
   rw[pV]
   exact kD oM pZ
  ·have n1:=d7k ((L.drop 1).take (e-1)) (by simp;omega)
   have n2:=d7k (L.drop (e+1)) (by simp;omega)
   have key :∀x1 o1 x2 o2,Ev (fun k=>qU k (mkB ((L.drop 1).take (e-1)))) (x1,o1)→Ev (fun k=>qU k (mkB (L.drop (e+1)))) (x2,o2)→Ev (fun k=>rX k (mkB L) ((e:Nat):Int)) (x1,x2,o1&&o2):=by
    intro x1 o1 x2 o2 h1 h2
    refine kS ?_
    simp only[rX]
    rw[pV,kU oM oM,Int.toNat_natCast,show((e:Int)+1).toNat=e+1 by omega,a2t,a2t,show(L.drop (e+1)).take (L.length-(e+1))=L.drop (e+1)from List.take_of_length_le (by simp)]
    refine kN oM (kD oM (kD oM (kP h1 (kD oM (kD oM (kP h2 ?_))))))
    cases o1 with
    | true=>exact kD rfl (yF (by simp))
    | false=>exact kN (by simp) (yF (by simp))
   unfold a9y
   rw[if_pos oM]
   cases h1:b4n ((L.drop 1).take (e-1))with
   | none =>
    rw[h1]at n1
    cases h2:b4n (L.drop (e+1))with
    | none=>rw[h2]at n2;exact⟨0,0,step _ (key _ _ _ _ n1 n2),fun a b h=>by cases h⟩
    | some b=>rw[h2]at n2;exact⟨0,b,step _ (key _ _ _ _ n1 n2),fun a b h=>by cases h⟩
   | some a =>
    rw[h1]at n1
    cases h2:b4n (L.drop (e+1))with
    | none=>rw[h2]at n2;exact⟨a,0,step _ (key _ _ _ _ n1 n2),fun a b h=>by cases h⟩
    | some b=>rw[h2]at n2;exact⟨a,b,step _ (key _ _ _ _ n1 n2),fun a b h=>by simp only[Option.some.injEq,Prod.mk.injEq]at h;exact h⟩
 ·obtain⟨x,y,h1,h2⟩:=nope (by unfold a4g;rw[if_neg (fun h=>hs h.2)])
  refine⟨x,y,kN (by rw[yS];exact hne) (kD oM ?_),h2⟩
  have:(((L.headD 0).toNat:Int)!=sg)=true:=by simpa using hs
  rw[this]
  exact h1
def isB(L:List UInt8)(a:Nat)(x:Int):Bool:=decide (a<L.length∧((L.getD a 0).toNat:Int)=x)
theorem b7k(L:List UInt8)(hL:L.length≤4000)(a:Nat)(ha:a≤L.length)(l:List S31)(c b x:Int):goF (mkB L) (a:Int) l c b x=some (isB L a x,((if isB L a x=true then a+1 else a:Nat):Int)):=by
 unfold goF rS isB
 rw[pV]
 by_cases h1:a<L.length
 ·rw[b0f L a h1]
  rw[if_neg oM,if_pos oM,if_pos oM]
  by_cases h2:((L.getD a 0).toNat:Int)=x
  ·have :¬(((L.getD a 0).toNat:Int)≠x):=fun h=>h h2
   simp only[h1,h2,and_self,decide_true,if_true,Option.map_some]
   rw[kU oM oM]
   first|rfl|simp
  ·simp only[h2,and_false,decide_false]
   first|rfl|simp[h2]
 ·rw[if_pos oM]
  simp only[h1,false_and,decide_false]
  first|rfl|simp
theorem c0v(i:Nat)(hi:i<14):wO ((i:Int)+3)=some (mkB (yP.getD i [])):=by
 unfold wO
 simp only[Option.bind_some]
 rw[inI]
 simp only[Option.bind_some]
 rw[kU oM oM,show(i:Int)+3-3=(i:Int) by omega,if_pos (by simp;omega),if_pos oM,if_pos (by simp;omega)]
 have:=d7j yP (i:Int) oM (by simp[yP];omega) []
 rw[List.append_nil,Int.toNat_natCast]at this
 exact congrArg some this
theorem c2o :∀i,i<14→∀j,j<i→yP.getD j []≠yP.getD i []:=by decide
theorem d0w(i:Nat)(hi:i<14)(d:Nat) :∀j:Nat,j+d=i→Ev (fun k=>xI k (mkB (yP.getD i [])) ((j:Int)+3)) ((i:Int)+3,true):=by
 induction d with
 | zero =>
  intro j hj
  obtain rfl:j=i:=by omega
  refine kS ?_
  simp only[xI]
  refine kD oM (qA (c0v j hi) (kD rfl pZ))
 | succ d ih =>
  intro j hj
  refine kS ?_
  simp only[xI]
  refine kD oM (qA (c0v j oM) (kN (by rw[yS,yS];exact fun e=>c2o i hi j oM e.symm) ?_))
  rw[kU oM oM]
  have:=ih (j+1) oM
  rw[show((j+1:Nat):Int)+3=(j:Int)+3+1 by omega]at this
  exact this
theorem a9t(l m:List S31)(p:Int)(h0:0≤p)(h1:p<(l.length:Int)):kA (l++m) p=kA l p:=by
 unfold kA
 rw[List.getD_eq_getElem?_getD,List.getD_eq_getElem?_getD,List.getElem?_append_left oM]
theorem b7m(l:List S31)(n:S31)(m:Nat) :∀i j:Nat,a3a l n m i=some j→i≤j∧j<i+m∧kA l (j:Int)=n:=by
 induction m with
 | zero=>intro i j h;simp[a3a]at h
 | succ m ih =>
  intro i j h
  unfold a3a at h
  split at h
  ·rename_i hs
   obtain rfl:=Option.some.inj h
   refine⟨Nat.le_refl _,oM,?_⟩
   unfold b9r at hs
   simp only[Bool.and_eq_true,beq_iff_eq]at hs
   obtain⟨h0,h1,h2,h3,h4,h5⟩:=hs
   generalize kA l (i:Int)=x at *
   obtain⟨x0,x1,x2,x3,x4,x5⟩:=x
   obtain⟨n0,n1,n2,n3,n4,n5⟩:=n
   simp only[]at h0 h1 h2 h3 h4 h5
   subst h0 h1 h2 h3 h4 h5
   rfl
  ·have:=ih (i+1) j h
   exact⟨oM,oM,this.2.2⟩
theorem b0b{l:List S31}(h:pL l)(n:S31)(hn:tG l n.f0 n.f1 n.f2 n.f3 n.f4 n.f5=true):pL (l++[n]):=by
 intro i hi
 rw[List.length_append]at hi
 simp only[List.length_cons,List.length_nil]at hi
 unfold a2s
 by_cases h1:i<l.length
 ·have:=h i h1
  unfold a2s at this
  rw[a9t l [n] (i:Int) oM oM,List.take_append_of_le_length oM]
  exact this
 ·obtain rfl:i=l.length:=by omega
  have e:kA (l++[n]) ((l.length:Nat):Int)=n:=by unfold kA;simp
  rw[e,List.take_left']
  ·exact hn
  ·rfl
def whT(op W K B:Int)(ts:List (List UInt8)):List UInt8:=40::hdL op W K B++(ts.flatMap fun t=>32::t)++[41]
def txm(op W K B:Int)(ts:List (List UInt8)):List UInt8:=if op=0∨op=1 then a3k op W K else if(ts.all fun t=>t !=[])=true∧(whT op W K B ts).length≤4000 then whT op W K B ts else []
def tx:Tm→List UInt8
 | .leaf op W K=>txm op W K 0 []
 | .un op W K B a=>txm op W K B [tx a]
 | .bin op W K a b=>txm op W K 0 [tx a,tx b]
 | .ter op W K a b c=>txm op W K 0 [tx a,tx b,tx c]
theorem d9l(op W K B B':Int)(h:op≠19∧op≠20):hdL op W K B=hdL op W K B':=by
 unfold hdL
 rw[if_neg h.1,if_neg h.2,if_neg h.1,if_neg h.2]
theorem d0f(op W K B B':Int)(ts:List (List UInt8))(h:op≠19∧op≠20):txm op W K B ts=txm op W K B' ts:=by
 unfold txm whT
 rw[d9l op W K B B' h]
theorem a9x{op A B C:Int}(h:op=19∨op=20):(kL op A B C).length=1:=by
 unfold kL;rw[if_pos oM];rfl
theorem d5l(op W K B:Int)(ts:List Tm)(h3:ts.length≤3)(h:op=19∨op=20→ts.length=1):tx (mkT op W K B ts)=txm op W K B (ts.map tx):=by
 match ts with
 | []=>exact d0f _ _ _ _ _ _ ⟨fun e=>by have:=h (.inl e);simp at this,fun e=>by have:=h (.inr e);simp at this⟩
 | [a]=>rfl
 | [a,b]=>exact d0f _ _ _ _ _ _ ⟨fun e=>by have:=h (.inl e);simp at this,fun e=>by have:=h (.inr e);simp at this⟩
 | [a,b,c]=>exact d0f _ _ _ _ _ _ ⟨fun e=>by have:=h (.inl e);simp at this,fun e=>by have:=h (.inr e);simp at this⟩
 | _::_::_::_::_=>simp at h3
theorem b9g(l:List S31)(n:Nat) :∀i:Nat,i<n→(yD l n).getD i []=d0e (yD l i) (kA l (i:Int)).f0 (kA l (i:Int)).f1 (kA l (i:Int)).f2 (kA l (i:Int)).f3 (kA l (i:Int)).f4 (kA l (i:Int)).f5:=by
 induction n with
 | zero=>intro i h;omega
 | succ n ih =>
  intro i h
  simp only[yD]
  by_cases h1:i<n
  ·rw[← ih i h1,List.getD_eq_getElem?_getD,List.getElem?_append_left (by rw[vT];omega),List.getD_eq_getElem?_getD]
  ·obtain rfl:i=n:=by omega
   rw[List.getD_eq_getElem?_getD,List.getElem?_append_right (by rw[vT];omega),vT,Nat.sub_self];rfl
theorem d0s(ts:List (List UInt8))(ps:List Int):b2r ts ps=(ps.map fun p=>ts.getD p.toNat []).flatMap fun t=>32::t:=by
 unfold b2r;rw[List.flatMap_map]
theorem c2u(ts:List (List UInt8))(op W K A B C:Int):d0e ts op W K A B C=txm op W K B ((kL op A B C).map fun p=>ts.getD p.toNat []):=by
 unfold d0e txm whT b9a
 rw[d0s,List.all_map];rfl
theorem d2b{l:List S31}(hN:pL l)(i:Nat)(hi:i<l.length):tx (T l i)=txm (kA l (i:Int)).f0 (kA l (i:Int)).f1 (kA l (i:Int)).f2 (kA l (i:Int)).f4 ((pl l i).map fun p=>tx (T l p.toNat)):=by
 rw[a6p (pP hN) i hi,d5l _ _ _ _ _ (by rw[List.length_map];exact qF _ _ _ _) (fun h=>by rw[List.length_map];exact a9x h),List.map_map];rfl
theorem d0g{l:List S31}(hN:pL l)(i:Nat) :∀n,i<n→i<l.length→(yD l n).getD i []=tx (T l i):=by
 induction i using Nat.strongRecOn with
 | _ i ih =>
  intro n hn hi
  rw[b9g l n i hn,c2u,d2b hN i hi]
  congr 1
  refine List.map_congr_left (fun p hp=>?_)
  have:=pP hN i hi p hp
  exact ih p.toNat oM i oM oM
theorem c0z{op W K B op' W' K' B':Int}{ts ts':List Tm}(h3:ts.length≤3)(h3':ts'.length≤3)(h:mkT op W K B ts=mkT op' W' K' B' ts'):op=op'∧W=W'∧K=K'∧ts=ts'∧(ts.length=1→B=B'):=by
 match ts,ts' with
 | [],[]=>simp only[mkT,Tm.leaf.injEq]at h;simp[h]
 | [a],[a']=>simp only[mkT,Tm.un.injEq]at h;simp[h]
 | [a,b],[a',b']=>simp only[mkT,Tm.bin.injEq]at h;simp[h]
 | [a,b,c],[a',b',c']=>simp only[mkT,Tm.ter.injEq]at h;simp[h]
 | [],[_]=>cases h
 | [],[_,_]=>cases h
 | [],[_,_,_]=>cases h
 | [_],[]=>cases h
 | [_],[_,_]=>cases h
 | [_],[_,_,_]=>cases h
 | [_,_],[]=>cases h
 | [_,_],[_]=>cases h
 | [_,_],[_,_,_]=>cases h
 | [_,_,_],[]=>cases h
 | [_,_,_],[_]=>cases h
 | [_,_,_],[_,_]=>cases h
 | _::_::_::_::_,_=>simp at h3
 | _,_::_::_::_::_=>simp at h3'
def Nodup(l:List S31):Prop :=∀i j:Nat,i<l.length→j<l.length→kA l (i:Int)=kA l (j:Int)→i=j
theorem b4d{l:List S31}(hN:pL l)(i:Nat)(hi:i<l.length):xE (kA l (i:Int)).f0 (kA l (i:Int)).f2 (kA l (i:Int)).f3 (kA l (i:Int)).f4 (kA l (i:Int)).f5=true:=by
 have:=hN i hi
 unfold a2s tG at this
 simp only[Bool.and_eq_true]at this
 exact this.1.1.2
theorem c3m{op K A B C A' B' C':Int}(h0:0≤op∧op≤20)(u:xE op K A B C=true)(u':xE op K A' B' C'=true)(hp:kL op A B C=kL op A' B' C')(hB:(kL op A B C).length=1→B=B'):A=A'∧B=B'∧C=C':=by
 unfold xE at u u'
 unfold kL at hp hB
 by_cases o0:op=0∨op=1
 ·rw[if_pos o0]at u u'
  simp only[Bool.and_eq_true,beq_iff_eq]at u u'
  omega
 rw[if_neg o0]at u u'
 by_cases o1:op=2∨op=17∨op=19∨op=20
 ·rw[if_pos o1]at hp hB
  rw[if_pos o1]at hp
  have hB:=hB rfl
  simp only[List.cons.injEq,and_true]at hp
  refine⟨hp,hB,?_⟩
  by_cases o17:op=17
  ·rw[if_pos o17]at u u'
   simp only[Bool.and_eq_true,beq_iff_eq]at u u'
   omega
  rw[if_neg o17]at u u'
  by_cases oq:op=19∨op=20
  ·rw[if_pos oq]at u u'
   simp only[beq_iff_eq]at u u'
   omega
  rw[if_neg oq,if_pos (show op=2 by omega)]at u u'
  simp only[Bool.and_eq_true,beq_iff_eq]at u u'
  omega
 rw[if_neg o1]at hp
 rw[if_neg o1]at hp
 rw[if_neg (show ¬op=17 by omega),if_neg (show ¬(op=19∨op=20) by omega),if_neg (show ¬op=2 by omega)]at u u'
 by_cases o3:3≤op∧op≤16
 ·rw[if_pos o3]at hp
  rw[if_pos o3]at hp
  rw[if_pos o3]at u u'
  simp only[Bool.and_eq_true,beq_iff_eq]at u u'
  simp only[List.cons.injEq,and_true]at hp
  omega
 ·rw[if_neg o3]at hp
  rw[if_neg o3]at hp
  rw[if_pos (show op=18 by omega)]at hp
  rw[if_pos (show op=18 by omega)]at hp
  simp only[List.cons.injEq,and_true]at hp
  omega
theorem c3k{l:List S31}(hN:pL l)(i:Nat)(hi:i<l.length):0≤(kA l (i:Int)).f0∧(kA l (i:Int)).f0≤20:=by
 have:=hN i hi
 unfold a2s tG at this
 simp only[Bool.and_eq_true]at this
 exact qL.mp this.1.1.1.2
theorem d8d{l:List S31}(hN:pL l)(hD:Nodup l)(i:Nat) :∀j:Nat,i<l.length→j<l.length→T l i=T l j→i=j:=by
 induction i using Nat.strongRecOn with
 | _ i ih =>
  intro j hi hj h
  rw[a6p (pP hN) i hi,a6p (pP hN) j hj]at h
  obtain⟨h0,h1,h2,h3,h4⟩:=c0z (by rw[List.length_map];exact qF _ _ _ _) (by rw[List.length_map];exact qF _ _ _ _) h
  have hlen:(pl l i).length=(pl l j).length:=by simpa using congrArg List.length h3
  have hpp:pl l i=pl l j:=by
   refine List.ext_getElem hlen (fun t ht1 ht2=>?_)
   have e:T l (pl l i)[t].toNat=T l (pl l j)[t].toNat:=by
    have:=congrArg (fun x=>x[t]?) h3
    simpa [ht1,ht2]using this
   have b1:=pP hN i hi _ (List.getElem_mem ht1)
   have b2:=pP hN j hj _ (List.getElem_mem ht2)
   have:=ih _ (show(pl l i)[t].toNat<i by omega) (pl l j)[t].toNat oM oM e
   omega
  refine hD i j hi hj ?_
  have u1:=b4d hN i hi;have u2:=b4d hN j hj
  have o1:=c3k hN i hi
  unfold pl at hpp
  rw[List.length_map]at h4
  unfold pl at h4
  generalize kA l (i:Int)=x at *
  generalize kA l (j:Int)=y at *
  obtain⟨x0,x1,x2,x3,x4,x5⟩:=x
  obtain⟨y0,y1,y2,y3,y4,y5⟩:=y
  simp only[]at h0 h1 h2 u1 u2 o1 hpp h4
  subst h0 h1 h2
  obtain⟨rfl,rfl,rfl⟩:=c3m o1 u1 u2 hpp h4
  rfl
def a9n(w:Nat→Int):Nat→Int
 | 0=>0
 | n+1=>a9n w n+w n
theorem b6q{w:Nat→Int}(h :∀j,0≤w j)(n:Nat):0≤a9n w n:=by
 induction n with
 | zero=>exact Int.le_refl _
 | succ n ih=>have:=h n;show 0≤a9n w n+w n;omega
theorem a4p{w v:Nat→Int}(n:Nat):(∀j<n,w j=v j)→a9n w n=a9n v n:=by
 induction n with
 | zero=>intro _;rfl
 | succ n ih=>intro h;show a9n w n+w n=a9n v n+v n;rw[ih (fun j hj=>h j oM),h n oM]
theorem c2y(w:Nat→Int)(k:Nat)(m:Nat)(h:k<m):a9n (fun j=>if j=k then 0 else w j) m=a9n w m-w k:=by
 induction m with
 | zero=>omega
 | succ m ih =>
  show a9n _ m+(if m=k then 0 else w m)=a9n w m+w m-w k
  by_cases hk:m=k
  ·subst hk
   rw[if_pos rfl,a4p m (v:=w) (fun j hj=>if_neg oM)];omega
  ·rw[if_neg hk,ih oM];omega
theorem d0j(m:Nat)(g:Nat→Nat)(n:Nat) :∀w:Nat→Int,(∀j,0≤w j)→(∀q<n,g q<m)→(∀q r,q<n→r<n→g q=g r→q=r)→a9n (fun q=>w (g q)) n≤a9n w m:=by
 induction n with
 | zero=>intro w h0 _ _;exact b6q h0 m
 | succ n ih =>
  intro w h0 h1 h2
  have hg:=h1 n oM
  have:=ih (fun j=>if j=g n then 0 else w j) (fun j=>by show 0≤if j=g n then 0 else w j;split;exact Int.le_refl _;exact h0 j) (fun q hq=>h1 q oM) (fun q r hq hr=>h2 q r oM oM)
  rw[c2y w (g n) m hg]at this
  have e:=a4p (w:=fun q=>if g q=g n then 0 else w (g q)) (v:=fun q=>w (g q)) n (fun q hq=>if_neg (fun e=>by have:=h2 q n oM oM e;omega))
  rw[e]at this
  show a9n (fun q=>w (g q)) n+w (g n)≤_
  omega
theorem b9j(n:Nat):a9n (fun _=>1) n=(n:Int):=by
 induction n with
 | zero=>rfl
 | succ n ih=>show a9n _ n+1=_;rw[ih];omega
structure Rb(t:List S31)(D:Nat→Prop)(l:List S31):Prop where
 ok:pL l
 dup:Nodup l
 from_ :∀q<l.length,∃j<t.length,D j∧T l q=T t j
theorem Rb.sum{t:List S31}{D:Nat→Prop}{l:List S31}(h:Rb t D l)(w:Nat→Int)(v:Nat→Int)(hw :∀j,0≤w j)(hv :∀q<l.length,∀j<t.length,D j→T l q=T t j→v q=w j):a9n v l.length≤a9n w t.length:=by
 have ex :∃g:Nat→Nat,∀q<l.length,g q<t.length∧D (g q)∧T l q=T t (g q):=by
  refine⟨fun q=>if hq:q<l.length then Classical.choose (h.from_ q hq)else 0,fun q hq=>?_⟩
  have:=Classical.choose_spec (h.from_ q hq)
  simp only[hq,dif_pos]
  exact this
 obtain⟨g,hg⟩:=ex
 have:=d0j t.length g l.length w hw (fun q hq=>(hg q hq).1) (fun q r hq hr e=>d8d h.ok h.dup q r hq hr (by rw[(hg q hq).2.2,(hg r hr).2.2,e]))
 rw[a4p (v:=v) l.length (fun q hq=>(hv q hq (g q) (hg q hq).1 (hg q hq).2.1 (hg q hq).2.2).symm)]at this
 exact this
theorem Rb.len{t:List S31}{D:Nat→Prop}{l:List S31}(h:Rb t D l):l.length≤t.length:=by
 have:=h.sum (fun _=>1) (fun _=>1) (fun _=>by decide) (fun _ _ _ _ _ _=>rfl)
 rw[b9j,b9j]at this
 omega
def b6s(R:List UInt8):Prop:=R=[]∨∃y M,R=y::M∧(y=32∨y=41)
theorem a7r(M:List UInt8):b6s (32::M):= .inr ⟨32,M,rfl,.inl rfl⟩
theorem b9n(M:List UInt8):b6s (41::M):= .inr ⟨41,M,rfl,.inr rfl⟩
theorem b9b{L:List UInt8}{a:Nat}{W R:List UInt8}(h:L.drop a=W++R)(hW :∀x∈W,a9j x=false)(hR:b6s R):wd a9j L a=W:=by
 unfold wd
 rw[h,List.takeWhile_append_of_pos (fun x hx=>by rw[hW x hx];rfl)]
 rcases hR with rfl|⟨y,M,rfl,rfl|rfl⟩
 ·simp
 ·rw[List.takeWhile_cons_of_neg (by decide),List.append_nil]
 ·rw[List.takeWhile_cons_of_neg (by decide),List.append_nil]
theorem a8s{L:List UInt8}{a:Nat}{W R:List UInt8}(h:L.drop a=W++R):L.drop (a+W.length)=R:=by
 rw[← List.drop_drop,h,List.drop_left]
theorem c1m{L:List UInt8}{a:Nat}{W R:List UInt8}(h:L.drop a=W++R)(h0:W≠[]):a+W.length≤L.length:=by
 have:=congrArg List.length h
 rw[List.length_drop,List.length_append]at this
 have:W.length≠0:=fun e=>h0 (List.length_eq_zero_iff.mp e)
 omega
theorem a8i{L:List UInt8}{a:Nat}{y:UInt8}{M:List UInt8}(h:L.drop a=y::M):(∀x:Int,isB L a x=decide ((y.toNat:Int)=x))∧a<L.length∧L.drop (a+1)=M:=by
 have hlt:a<L.length:=by
  have:=congrArg List.length h
  rw[List.length_drop,List.length_cons]at this
  omega
 rw[a5g L a hlt]at h
 obtain⟨h1,h2⟩:=List.cons.inj h
 refine⟨fun x=>?_,hlt,h2⟩
 unfold isB
 rw[h1]
 simp[hlt]
theorem a8u{d:Int}(h0:0≤d)(h1:d<10):dig (d8 d)=true∧dv (d8 d)=d∧a9j (d8 d)=false∧d8 d≠58∧(1≤d→d8 d≠48):=by
 have:d=0∨d=1∨d=2∨d=3∨d=4∨d=5∨d=6∨d=7∨d=8∨d=9:=by omega
 rcases this with rfl|rfl|rfl|rfl|rfl|rfl|rfl|rfl|rfl|rfl<;>decide
theorem b4r{n:Int}(h0:0≤n)(h1:n≤999) :∀x∈yK n,∃d:Int,(0≤d∧d<10)∧x=d8 d:=by
 intro x hx
 unfold yK at hx
 split at hx
 ·simp only[List.mem_singleton]at hx;exact⟨n,oM,hx⟩
 ·split at hx
  ·simp only[List.mem_cons,List.not_mem_nil,or_false]at hx
   rcases hx with rfl|rfl
   ·exact⟨n / 10,oM,rfl⟩
   ·exact⟨n%10,oM,rfl⟩
  ·simp only[List.mem_cons,List.not_mem_nil,or_false]at hx
   rcases hx with rfl|rfl|rfl
   ·exact⟨n / 100,oM,rfl⟩
   ·exact⟨n / 10%10,oM,rfl⟩
   ·exact⟨n%10,oM,rfl⟩
theorem a5u{n:Int}(h0:0≤n)(h1:n≤999) :∀x∈yK n,a9j x=false:=fun x hx=>by
 obtain⟨d,hd,rfl⟩:=b4r h0 h1 x hx
 exact(a8u hd.1 hd.2).2.2.1
theorem d1w{n:Int}(h0:0≤n)(h1:n≤999) :∀x∈yK n,(x !=58)=true:=fun x hx=>by
 obtain⟨d,hd,rfl⟩:=b4r h0 h1 x hx
 simpa using(a8u hd.1 hd.2).2.2.2.1
theorem d1v{n:Int}(h0:0≤n)(h1:n≤999):d5i 0 (yK n)=n:=by
 unfold yK d5i
 split
 ·simp only[List.foldl_cons,List.foldl_nil]
  rw[(a8u h0 oM).2.1];omega
 ·split
  ·simp only[List.foldl_cons,List.foldl_nil]
   rw[(a8u (d:=n / 10) oM oM).2.1,(a8u (d:=n%10) oM oM).2.1];omega
  ·simp only[List.foldl_cons,List.foldl_nil]
   rw[(a8u (d:=n / 100) oM oM).2.1,(a8u (d:=n / 10%10) oM oM).2.1,(a8u (d:=n%10) oM oM).2.1];omega
theorem b1m{n:Int}(h0:0≤n)(h1:n≤999):b4n (yK n)=some n:=by
 have hl:=yC n
 have hz :¬(1<(yK n).length∧(yK n).headD 0=48):=by
  rintro⟨h2,h3⟩
  unfold yK at h2 h3
  split at h2
  ·simp at h2
  ·rename_i h10
   rw[if_neg h10]at h3
   split at h3
   ·exact(a8u (d:=n / 10) oM oM).2.2.2.2 oM h3
   ·exact(a8u (d:=n / 100) oM oM).2.2.2.2 oM h3
 have hd:(yK n).all dig=true:=List.all_eq_true.mpr (fun x hx=>by obtain⟨d,hd,rfl⟩:=b4r h0 h1 x hx;exact(a8u hd.1 hd.2).1)
 unfold b4n
 rw[if_pos ⟨⟨oM,oM⟩,hd,hz⟩,d1v h0 h1]
theorem b4l(sg:UInt8){x y:Int}(hx:0≤x∧x≤999)(hy:0≤y∧y≤999):a4g (sg::(yK x++58::yK y)) (sg.toNat:Int)=some (x,y):=by
 unfold a4g
 rw[if_pos ⟨by simp,rfl⟩]
 have e:b6g (sg::(yK x++58::yK y)) 1=1+(yK x).length:=by
  unfold b6g
  rw[List.drop_succ_cons,List.drop_zero,List.takeWhile_append_of_pos (d1w hx.1 hx.2),List.takeWhile_cons_of_neg (by decide),List.append_nil]
 rw[e]
 unfold a9y
 rw[if_pos (by simp only[List.length_cons,List.length_append];omega),List.drop_succ_cons,List.drop_zero,show 1+(yK x).length-1=(yK x).length by omega,List.take_left,b1m hx.1 hx.2,
  show 1+(yK x).length+1=((yK x).length+1)+1 by omega,List.drop_succ_cons,← List.drop_drop,List.drop_left,List.drop_succ_cons,List.drop_zero,b1m hy.1 hy.2]
theorem c3h(sg:UInt8)(M:List UInt8)(x:Int)(h:(sg.toNat:Int)≠x):a4g (sg::M) x=none:=by
 unfold a4g
 rw[if_neg (fun hc=>h hc.2)]
theorem b1a{L:List UInt8}{sg x y:Int}(hL:L.length≤4000)(h:a4g L sg=some (x,y)):Ev (fun k=>sP k (mkB L) sg) (x,y,true):=by
 obtain⟨a,b,e,h2⟩:=d5u L hL sg
 obtain⟨rfl,rfl⟩:=h2 x y h
 rw[h]at e
 exact e
theorem c0m{L:List UInt8}{sg:Int}(hL:L.length≤4000)(h:a4g L sg=none) :∃x y,Ev (fun k=>sP k (mkB L) sg) (x,y,false):=by
 obtain⟨a,b,e,h2⟩:=d5u L hL sg
 rw[h]at e
 exact⟨a,b,e⟩
def opL(op:Int):List UInt8:=if op=2 then [110,111,116]else if op=17 then [115,108,105,99,101]else if op=18 then [105,102]else if op=19 then [97,108,108]else if op=20 then [115,111,109,101]else yP.getD (op-3).toNat []
def tlL(op W K B:Int):List UInt8:=if op=17 then 32::(yK K++32::yK W)else if op=19∨op=20 then 32::118::(yK K++58::yK B)else []
theorem c3v(op W K B:Int):hdL op W K B=opL op++tlL op W K B:=by
 unfold hdL opL tlL
 by_cases h2:op=2
 ·subst h2;rfl
 by_cases h17:op=17
 ·subst h17;simp
 by_cases h18:op=18
 ·subst h18;rfl
 by_cases h19:op=19
 ·subst h19;simp
 by_cases h20:op=20
 ·subst h20;simp
 simp[h2,h17,h18,h19,h20]
theorem d7t{op:Int}(h0:2≤op)(h1:op≤20):Ev (fun k=>a1c k (mkB (opL op))) (op,true):=by
 unfold a1c
 rw[yS]
 have ne :∀V∈([[110,111,116],[115,108,105,99,101],[105,102],[97,108,108],[115,111,109,101]]:List (List UInt8)),∀i,i<14→yP.getD i []≠V:=by decide
 by_cases h2:op=2
 ·subst h2;exact kD rfl pZ
 by_cases h17:op=17
 ·subst h17;exact kN (by decide) (kD rfl pZ)
 by_cases h18:op=18
 ·subst h18;exact kN (by decide) (kN (by decide) (kD rfl pZ))
 by_cases h19:op=19
 ·subst h19;exact kN (by decide) (kN (by decide) (kN (by decide) (kD rfl pZ)))
 by_cases h20:op=20
 ·subst h20;exact kN (by decide) (kN (by decide) (kN (by decide) (kN (by decide) (kD rfl pZ))))
 have e:opL op=yP.getD (op-3).toNat []:=by unfold opL;rw[if_neg h2,if_neg h17,if_neg h18,if_neg h19,if_neg h20]
 rw[e]
 have hi:(op-3).toNat<14:=by omega
 refine kN (ne _ (by simp) _ hi) (kN (ne _ (by simp) _ hi) (kN (ne _ (by simp) _ hi) (kN (ne _ (by simp) _ hi) (kN (ne _ (by simp) _ hi) ?_))))
 have:=d0w (op-3).toNat hi (op-3).toNat 0 oM
 rw[show(((op-3).toNat:Nat):Int)+3=op by omega]at this
 exact this
theorem d5x{op:Int} :∀x∈opL op,a9j x=false:=by
 have key :∀M:List UInt8,(M.all fun x=> !a9j x)=true→∀x∈M,a9j x=false:=fun M h x hx=>by simpa using List.all_eq_true.mp h x hx
 unfold opL
 split
 ·exact key _ (by decide)
 split
 ·exact key _ (by decide)
 split
 ·exact key _ (by decide)
 split
 ·exact key _ (by decide)
 split
 ·exact key _ (by decide)
 by_cases h:(op-3).toNat<14
 ·generalize (op-3).toNat=i at h
  have :∀i,i<14→((yP.getD i []).all fun x=> !a9j x)=true:=by decide
  exact key _ (this i h)
 ·rw[List.getD_eq_getElem?_getD,List.getElem?_eq_none (by simp[yP];omega)];intro x hx;cases hx
theorem d7s{op:Int}(h0:2≤op)(h1:op≤20):opL op≠[]:=by
 unfold opL
 split
 ·decide
 split
 ·decide
 split
 ·decide
 split
 ·decide
 split
 ·decide
 have :∀i,i<14→yP.getD i []≠[]:=by decide
 exact this _ oM
theorem c3l{L:List UInt8}(hL:L.length≤4000)(l:List S31){op W K A B C:Int}(hn:NumOk op W K A B C){a:Nat}(ha:a≤L.length){R:List UInt8}(h:L.drop a=tlL op W K B++R)(hR:b6s R) :
  Ev (fun k=>a4z k (mkB L) (a:Int) l 0 0 ⟨op,0,0,0,0,0⟩) (true,((a+(tlL op W K B).length:Nat):Int),⟨op,if op=17 then W else 0,if op=17∨op=19∨op=20 then K else 0,0,if op=19∨op=20 then B else 0,0⟩):=by
 have hW:=hn.w0;have hW1:=hn.w1
 unfold a4z
 simp only[]
 unfold tlL at h ⊢
 by_cases o17:op=17
 ·have hK:=hn.k0 oM
  rw[if_pos o17]at h ⊢
  rw[if_pos o17,if_pos (.inl o17),if_neg oM]
  rw[List.cons_append,List.append_assoc,List.cons_append]at h
  obtain⟨b1,l1,d1⟩:=a8i h
  have w1:=b6l L hL l 0 0 (a+1) oM
  rw[b9b d1 (a5u hK.1 oM) (a7r _)]at w1
  have d2:=a8s d1
  obtain⟨b2,l2,d3⟩:=a8i d2
  have w2:=b6l L hL l 0 0 (a+1+(yK K).length+1) oM
  rw[b9b d3 (a5u oM oM) hR]at w2
  have g1:=b7k L hL a ha l 0 0 32;have g2:=b7k L hL (a+1+(yK K).length) oM l 0 0 32
  rw[b1,decide_eq_true (by decide),if_pos rfl]at g1
  rw[b2,decide_eq_true (by decide),if_pos rfl]at g2
  have n1:=d7k (yK K) (by have:=yC K;omega);have n2:=d7k (yK W) (by have:=yC W;omega)
  rw[b1m hK.1 oM]at n1
  rw[b1m oM oM]at n2
  refine kD o17 (qA g1 (kD rfl (kP w1 (kP n1 (kD rfl (qA g2 (kD rfl (kP w2 (kP n2 (yF ?_))))))))))
  simp only[List.length_cons,List.length_append]
  rw[show a+1+(yK K).length+1+(yK W).length=a+((yK K).length+((yK W).length+1)+1) by omega]
 by_cases oq:op=19∨op=20
 ·have hK:=hn.k0 oM;have hB:=hn.b0 oq
  rw[if_neg o17,if_pos oq]at h ⊢
  rw[if_neg o17,if_pos (.inr oq),if_pos oq]
  rw[List.cons_append]at h
  obtain⟨b1,l1,d1⟩:=a8i h
  have w1:=b6l L hL l 0 0 (a+1) oM
  rw[b9b d1 (fun x hx=>by
   rcases List.mem_cons.mp hx with rfl|hx
   ·decide
   ·rcases List.mem_append.mp hx with hx|hx
    ·exact a5u hK.1 oM x hx
    ·rcases List.mem_cons.mp hx with rfl|hx
     ·decide
     ·exact a5u hB.1 oM x hx) hR]at w1
  have g1:=b7k L hL a ha l 0 0 32
  rw[b1,decide_eq_true (by decide),if_pos rfl]at g1
  have n1:=b1a (L:=118::(yK K++58::yK B)) (by have:=yC K;have:=yC B;simp only[List.length_cons,List.length_append];omega) (b4l 118 ⟨hK.1,oM⟩ ⟨hB.1,oM⟩)
  refine kN o17 (kD oq (qA g1 (kD rfl (kP w1 (kP n1 (yF ?_))))))
  simp only[List.length_cons,List.length_append]
  rw[show a+1+((yK K).length+((yK B).length+1)+1)=a+((yK K).length+((yK B).length+1)+1+1) by omega]
 ·rw[if_neg o17,if_neg oq,if_neg o17,if_neg oM,if_neg oq]
  exact kN o17 (kN oq (yF (by simp)))
theorem b6v(n:S31):b9r n n=true:=by unfold b9r;simp
theorem b7n(l:List S31)(n:S31)(m:Nat) :∀i:Nat,a3a l n m i=none→∀j,i≤j→j<i+m→kA l (j:Int)≠n:=by
 induction m with
 | zero=>intro i _ j h1 h2;omega
 | succ m ih =>
  intro i h j h1 h2
  unfold a3a at h
  split at h
  ·cases h
  ·rename_i hs
   by_cases e:j=i
   ·subst e;intro e;rw[e]at hs;exact hs (b6v n)
   ·exact ih (i+1) h j oM oM
theorem d5m(l m:List S31)(hP:qX l)(n:Nat) :∀i:Nat,i<l.length→tr (l++m) n i=tr l n i:=by
 induction n with
 | zero=>intro i _;rfl
 | succ n ih =>
  intro i hi
  have e:=a9t l m (i:Int) oM oM
  unfold tr pl
  rw[e]
  congr 1
  refine List.map_congr_left (fun p hp=>?_)
  have:=hP i hi p hp
  exact ih p.toNat oM
theorem d2c{l m:List S31}(hP:qX l)(i:Nat)(hi:i<l.length):T (l++m) i=T l i:=d5m l m hP (i+1) i hi
theorem b5x(l:List S31)(n:S31):kA (l++[n]) ((l.length:Nat):Int)=n:=by unfold kA;simp
theorem a7v{l:List S31}{op W K A B C:Int}(h:tG l op W K A B C=true) :∀p∈kL op A B C,0≤p∧p<(l.length:Int):=by
 intro p hp
 unfold tG at h
 simp only[Bool.and_eq_true]at h
 have:=qL.mp (List.all_eq_true.mp h.1.2 p hp)
 omega
theorem c0i{t:List S31}{D:Nat→Prop}{l:List S31}(hR:Rb t D l)(ht:t.length≤80)(n:S31)(i:Nat)(hi:i<t.length)(hDi:D i)(hr:tG l n.f0 n.f1 n.f2 n.f3 n.f4 n.f5=true)
  (hT:mkT n.f0 n.f1 n.f2 n.f4 ((kL n.f0 n.f3 n.f4 n.f5).map fun p=>T l p.toNat)=T t i) (frm:Int) :
  ∃(p:Nat) (l':List S31),a5s l 0 0 n frm=(((p:Int),true),l',0,0)∧Rb t D l'∧(∃m,l'=l++m)∧p<l'.length∧T l' p=T t i∧(l'=l∨l'.length=p+1)∧kA l' (p:Int)=n:=by
 unfold a5s
 rw[if_pos hr]
 cases hf:a3a l n l.length 0 with
 | some p =>
  obtain⟨_,h1,h2⟩:=b7m l n _ _ _ hf
  rw[Nat.zero_add]at h1
  refine⟨p,l,rfl,hR,⟨[],by simp⟩,h1,?_,.inl rfl,h2⟩
  rw[a6p (pP hR.ok) p h1]
  unfold pl
  rw[h2]
  exact hT
 | none =>
  have hno:=b7n l n _ _ hf
  have hT':T (l++[n]) l.length=T t i:=by
   have hok:=b0b hR.ok n hr
   rw[a6p (pP hok) l.length (by simp)]
   unfold pl
   rw[b5x,← hT]
   congr 1
   refine List.map_congr_left (fun p hp=>?_)
   have:=a7v hr p hp
   exact d2c (pP hR.ok) p.toNat oM
  have hR':Rb t D (l++[n]):=by
   refine⟨b0b hR.ok n hr,?_,?_⟩
   ·intro a b ha hb e
    simp only[List.length_append,List.length_cons,List.length_nil]at ha hb
    by_cases ha1:a<l.length
    ·by_cases hb1:b<l.length
     ·rw[a9t l [n] _ oM oM,a9t l [n] _ oM oM]at e
      exact hR.dup a b ha1 hb1 e
     ·obtain rfl:b=l.length:=by omega
      rw[a9t l [n] _ oM oM,b5x]at e
      exact absurd e (hno a oM oM)
    ·obtain rfl:a=l.length:=by omega
     by_cases hb1:b<l.length
     ·rw[a9t l [n] (b:Int) oM oM,b5x]at e
      exact absurd e.symm (hno b oM oM)
     ·omega
   ·intro q hq
    simp only[List.length_append,List.length_cons,List.length_nil]at hq
    by_cases hq1:q<l.length
    ·rw[d2c (pP hR.ok) q hq1];exact hR.from_ q hq1
    ·obtain rfl:q=l.length:=by omega
     exact⟨i,hi,hDi,hT'⟩
  have:=hR'.len
  rw[List.length_append]at this
  simp only[List.length_cons,List.length_nil]at this
  refine⟨l.length,l++[n],?_,hR',⟨[n],rfl⟩,by simp,hT',.inr (by simp),b5x l n⟩
  show(if l.length=80 then _ else _)=_
  rw[if_neg oM]
theorem d9j(op W K B B' u v x:Int)(h0:0≤op)(h20:op≤20)(h:op=19∨op=20→B=B'):pG op W K B u v x=pG op W K B' u v x:=by
 by_cases hq:op=19∨op=20
 ·rw[h hq]
 ·unfold pG
  by_cases o0:op=0
  ·rw[if_pos o0,if_pos o0]
  rw[if_neg o0,if_neg o0]
  by_cases o1:op=1
  ·rw[if_pos o1,if_pos o1]
  rw[if_neg o1,if_neg o1]
  by_cases o2:op=2
  ·rw[if_pos o2,if_pos o2]
  rw[if_neg o2,if_neg o2]
  by_cases o3:3≤op∧op≤12
  ·rw[if_pos o3,if_pos o3]
  rw[if_neg o3,if_neg o3]
  by_cases o4:13≤op∧op≤15
  ·rw[if_pos o4,if_pos o4]
  rw[if_neg o4,if_neg o4]
  by_cases o5:op=16
  ·rw[if_pos o5,if_pos o5]
  rw[if_neg o5,if_neg o5]
  by_cases o6:op=17
  ·rw[if_pos o6,if_pos o6]
  rw[if_neg o6,if_neg o6,if_pos oM,if_pos oM]
theorem yM{op A B C:Int}(h0:0≤op)(h1:op≤20):((op=0∨op=1)∧kL op A B C=[])∨((op=2∨op=17∨op=19∨op=20)∧kL op A B C=[A])∨((3≤op∧op≤16)∧kL op A B C=[A,B])∨(op=18∧kL op A B C=[A,B,C]):=by
 unfold kL
 by_cases o1:op=2∨op=17∨op=19∨op=20
 ·rw[if_pos o1];exact .inr (.inl ⟨o1,rfl⟩)
 rw[if_neg o1]
 by_cases o3:3≤op∧op≤16
 ·rw[if_pos o3];exact .inr (.inr (.inl ⟨o3,rfl⟩))
 rw[if_neg o3]
 by_cases o18:op=18
 ·rw[if_pos o18];exact .inr (.inr (.inr ⟨o18,rfl⟩))
 rw[if_neg o18];exact .inl ⟨oM,rfl⟩
theorem c3p{op A B C A' B' C':Int}:(kL op A B C).length=(kL op A' B' C').length:=by
 unfold kL
 split
 ·rfl
 ·split
  ·rfl
  ·split<;>rfl
theorem d5p(ps:List Int)(k:Nat)(h:ps.length≤k):rd ps (k:Int)=0:=by
 unfold rd
 rw[List.getD_eq_getElem?_getD,List.getElem?_eq_none (by simpa using h)];rfl
theorem places{op B:Int}(h0:2≤op)(h1:op≤20)(ps:List Int){A B' C:Int}(hl:ps.length=(kL op A B' C).length):kL op (rd ps 0) (if op=19∨op=20 then B else rd ps 1) (rd ps 2)=ps:=by
 rcases yM (op:=op) (A:=A) (B:=B') (C:=C) oM h1 with⟨h,e⟩|⟨h,e⟩|⟨h,e⟩|⟨h,e⟩
 ·omega
 ·rw[e]at hl
  match ps,hl with
  | [x],_=>unfold kL;rw[if_pos h];rfl
 ·rw[e]at hl
  match ps,hl with
  | [x,y],_=>unfold kL;rw[if_neg oM,if_pos h,if_neg oM];rfl
 ·rw[e]at hl
  match ps,hl with
  | [x,y,z],_=>unfold kL;rw[if_neg oM,if_neg oM,if_pos h,if_neg oM];rfl
theorem b9t{t:List S31}(hN:pL t)(i:Nat)(hi:i<t.length){l:List S31}(ps:List Int)(hop:2≤(kA t (i:Int)).f0)(hlen:ps.length=(pl t i).length)
  (hps :∀(k:Nat) (h1:k<ps.length) (h2:k<(pl t i).length),0≤ps[k]∧ps[k]<(l.length:Int)∧(kA l ps[k]).f1=(kA t (pl t i)[k]).f1) :
  tG l (kA t (i:Int)).f0 (kA t (i:Int)).f1 (kA t (i:Int)).f2 (rd ps 0) (if(kA t (i:Int)).f0=19∨(kA t (i:Int)).f0=20 then(kA t (i:Int)).f4 else rd ps 1) (rd ps 2)=true:=by
 have hb:=hN i hi
 have hP:=pP hN i hi
 have ho:=c3k hN i hi
 have key :∀k:Nat,wv (t.take i) (pl t i) (pl t i).length k=wv l ps ps.length k:=by
  intro k
  unfold wv
  rw[hlen]
  by_cases hk:k<(pl t i).length
  ·have:=hps k oM hk
   have hp:=hP _ (List.getElem_mem hk)
   rw[if_pos hk,if_pos hk,rdI _ k hk,rdI _ k oM,a5r t i _ hp.1 hp.2,this.2.2]
  ·rw[if_neg hk,if_neg hk]
 have hpl:=places (B:=(kA t (i:Int)).f4) hop ho.2 ps hlen
 unfold a2s tG at hb
 unfold tG
 rw[hpl]
 have k0:=key 0;have k1:=key 1;have k2:=key 2
 unfold pl at k0 k1 k2
 rw[k0,k1,k2]at hb
 unfold pl at hlen
 simp only[Bool.and_eq_true]at hb ⊢
 obtain⟨⟨⟨⟨g1,g2⟩,g3⟩,_⟩,g5⟩:=hb
 refine⟨⟨⟨⟨g1,g2⟩,?_⟩,?_⟩,?_⟩
 ·clear g5 k0 k1 k2 key hps hP hi hN
  generalize kA t (i:Int)=n at *
  obtain⟨op,W,K,A,B,C⟩:=n
  simp only[]at *
  rcases yM (op:=op) (A:=A) (B:=B) (C:=C) ho.1 ho.2 with⟨h,e⟩|⟨h,e⟩|⟨h,e⟩|⟨h,e⟩
  ·omega
  ·rw[e]at hlen
   match ps,hlen with
   | [x],_ =>
    rw[show rd [x] 0=x from rfl,show rd [x] 1=0 from rfl,show rd [x] 2=0 from rfl]
    unfold xE at g3 ⊢
    rw[if_neg oM]at g3 ⊢
    by_cases o17:op=17
    ·rw[if_pos o17,if_neg oM];rfl
    rw[if_neg o17]at g3 ⊢
    by_cases oq:op=19∨op=20
    ·rw[if_pos oq];rfl
    rw[if_neg oq]at g3 ⊢
    rw[if_pos (show op=2 by omega)]at g3 ⊢
    simp only[Bool.and_eq_true,beq_iff_eq]at g3
    rw[if_neg oM,g3.1.1];rfl
  ·rw[e]at hlen
   match ps,hlen with
   | [x,y],_ =>
    rw[show rd [x,y] 0=x from rfl,show rd [x,y] 1=y from rfl,show rd [x,y] 2=0 from rfl]
    unfold xE at g3 ⊢
    rw[if_neg oM,if_neg oM,if_neg oM,if_neg oM,if_pos h]at g3 ⊢
    simp only[Bool.and_eq_true,beq_iff_eq]at g3
    rw[g3.1];rfl
  ·rw[e]at hlen
   match ps,hlen with
   | [x,y,z],_ =>
    unfold xE at g3 ⊢
    rw[if_neg oM,if_neg oM,if_neg oM,if_neg oM,if_neg oM,if_pos h]at g3 ⊢
    exact g3
 ·refine List.all_eq_true.mpr (fun p hp=>?_)
  obtain⟨k,hk,rfl⟩:=List.getElem_of_mem hp
  have:=hps k hk (by unfold pl;omega)
  exact qL.mpr oM
 ·rw[← d9j _ _ _ (kA t (i:Int)).f4 _ _ _ _ ho.1 ho.2 (fun h=>(if_pos h).symm)]
  exact g5
theorem d0a{s:ByteArray}{a c b:Int}{l:List S31}{op W K A B C:Int}(h0:2≤op)(hr:tG l op W K A B C=true)(W':Int)(hW:op=17→W'=W) :
  Ev (fun k=>qH k s a l c b op W' K A B C) (W,s,a,c,b):=by
 have hp:=a7v hr
 unfold tG at hr
 simp only[Bool.and_eq_true]at hr
 obtain⟨⟨⟨⟨h1,h2⟩,_⟩,_⟩,h5⟩:=hr
 have h1:=qL.mp h1;have h2:=qL.mp h2
 unfold qH
 rw[inI,d8v]
 simp only[Option.bind_some]
 by_cases o17:op=17
 ·exact kD o17 (yF (by rw[hW o17]))
 by_cases oq:op=19∨op=20
 ·refine kN o17 (kN (by simp;omega) (kS ?_))
  simp only[pJ]
  have hW1:W=1:=by
   unfold pG at h5
   rw[if_neg oM,if_neg oM,if_neg oM,if_neg oM,if_neg oM,if_neg oM,if_neg oM,if_neg oM]at h5
   simp only[Bool.and_eq_true,beq_iff_eq]at h5
   exact h5.2
  exact kD (by simpa using oq) (yF (by rw[hW1]))
 have qf:((op==19) || (op==20))=false:=by simp;omega
 by_cases o13:13≤op∧op≤15
 ·refine kN o17 (kD (by simp;exact o13) (kS ?_))
  simp only[pJ]
  have hW1:W=1:=by
   unfold pG at h5
   rw[if_neg oM,if_neg oM,if_neg oM,if_neg oM,if_pos o13]at h5
   simp only[Bool.and_eq_true,beq_iff_eq]at h5
   exact h5.2
  exact kD trivial (yF (by rw[hW1]))
 refine kN o17 (kN (by simp;omega) (kS ?_))
 simp only[pJ]
 rw[qf]
 refine kN (by decide) ?_
 rcases yM (op:=op) (A:=A) (B:=B) (C:=C) h2.1 h2.2 with⟨h,e⟩|⟨h,e⟩|⟨h,e⟩|⟨h,e⟩
 ·omega
 ·rw[e]at hp h5
  have hA:=hp A (by simp)
  rw[show wv l [A] [A].length 0=(kA l A).f1 from rfl]at h5
  unfold pG at h5
  rw[if_neg oM,if_neg oM,if_pos (show op=2 by omega)]at h5
  have h5:=beq_iff_eq.mp h5
  exact kN oM (kN oM (kD hA.1 (kD hA.2 (yF (by rw[h5])))))
 ·rw[e]at hp h5
  have hA:=hp A (by simp);have hB:=hp B (by simp)
  rw[show wv l [A,B] [A,B].length 0=(kA l A).f1 from rfl,show wv l [A,B] [A,B].length 1=(kA l B).f1 from rfl]at h5
  unfold pG at h5
  rw[if_neg oM,if_neg oM,if_neg oM]at h5
  by_cases o12:3≤op∧op≤12
  ·rw[if_pos o12]at h5
   simp only[Bool.and_eq_true,beq_iff_eq]at h5
   exact kN oM (kN oM (kD hA.1 (kD hA.2 (yF (by rw[h5.1])))))
  ·rw[if_neg o12,if_neg o13,if_pos (show op=16 by omega)]at h5
   have h5:=beq_iff_eq.mp h5
   exact kD oM (kD hA.1 (kD hA.2 (kD hB.1 (kD hB.2 (yF (by rw[h5]))))))
 ·rw[e]at hp h5
  have hB:=hp B (by simp)
  rw[show wv l [A,B,C] [A,B,C].length 1=(kA l B).f1 from rfl]at h5
  unfold pG at h5
  rw[if_neg oM,if_neg oM,if_neg oM,if_neg oM,if_neg oM,if_neg oM,if_neg oM,if_pos h]at h5
  simp only[Bool.and_eq_true,beq_iff_eq]at h5
  exact kN oM (kD h (kD hB.1 (kD hB.2 (yF (by rw[h5.1.2])))))
def d2m(VI:Nat→RdV)(t:List S31)(D:Nat→Prop)(i a:Nat)(l:List S31):Prop :=
 ∃(p:Nat) (l':List S31),Ev (fun k=>VI k (a:Int) l 0 0) (((p:Int),true),((a+(tx (T t i)).length:Nat):Int),l',0,0)∧Rb t D l'∧(∃m,l'=l++m)∧p<l'.length∧T l' p=T t i∧(l'.length≤l.length∨l'.length≤p+1)
theorem a9o(t:List S31)(qs:List Int){R:List UInt8}(hR:b6s R):b6s ((qs.flatMap fun q=>32::tx (T t q.toNat))++R):=by
 cases qs with
 | nil=>exact hR
 | cons q qs=>rw[List.flatMap_cons,List.cons_append,List.cons_append];exact a7r _
theorem c3r{t:List S31}{D:Nat→Prop}{L:List UInt8}(hL:L.length≤4000)(VI:Nat→RdV)(frm:Int)(qs:List Int) :
  (∀q∈qs,tx (T t q.toNat)≠[]∧∀(a:Nat) (l:List S31) (R:List UInt8),L.drop a=tx (T t q.toNat)++R→b6s R→Rb t D l→d2m VI t D q.toNat a l)→
  ∀(a:Nat) (l:List S31) (acc:List Int) (R:List UInt8),a≤L.length→L.drop a=(qs.flatMap fun q=>32::tx (T t q.toNat))++R→b6s R→Rb t D l→
   ∃(ps:List Int) (l':List S31),Ev (fun k=>b3a (VI k) (mkB L) frm qs.length (a:Int) l 0 0 acc) (true,acc++ps,((a+(qs.flatMap fun q=>32::tx (T t q.toNat)).length:Nat):Int),l',0,0)∧ps.length=qs.length∧Rb t D l'∧(∃m,l'=l++m)∧
    (∀(k:Nat) (h1:k<ps.length) (h2:k<qs.length),0≤ps[k]∧ps[k]<(l'.length:Int)∧T l' ps[k].toNat=T t qs[k].toNat)∧(l'.length≤l.length∨∃p∈ps,(l'.length:Int)≤p+1):=by
 induction qs with
 | nil =>
  intro _ a l acc R ha h hR hl
  refine⟨[],l,?_,rfl,hl,⟨[],by simp⟩,fun k h1=>absurd h1 (by simp),.inl (Nat.le_refl _)⟩
  simp only[b3a,List.length_nil,List.flatMap_nil,List.append_nil,Nat.add_zero]
  exact pZ
 | cons q qs ih =>
  intro hV a l acc R ha h hR hl
  rw[List.flatMap_cons,List.cons_append,List.cons_append,List.append_assoc]at h
  obtain⟨b1,l1,d1⟩:=a8i h
  have g1:=b7k L hL a ha l 0 0 32
  rw[b1,decide_eq_true (by decide),if_pos rfl]at g1
  obtain⟨hne,hq⟩:=hV q List.mem_cons_self
  obtain⟨p,l1,e1,hl1,⟨m1,hm1⟩,hp1,hT1,ho1⟩:=hq (a+1) l _ d1 (a9o t qs hR) hl
  have hle:=c1m d1 hne
  obtain⟨ps,l2,e2,hlen,hl2,⟨m2,hm2⟩,hps,ho2⟩:=ih (fun q hq=>hV q (List.mem_cons_of_mem _ hq)) (a+1+(tx (T t q.toNat)).length) l1 (acc++[(p:Int)]) R hle (a8s d1) hR hl1
  refine⟨(p:Int)::ps,l2,?_,by simp[hlen],hl2,⟨m1++m2,by rw[hm2,hm1,List.append_assoc]⟩,?_,?_⟩
  ·simp only[b3a,List.length_cons]
   rw[List.append_assoc]at e2
   refine qA g1 (kD rfl (kP e1 (kD rfl ?_)))
   rw[List.flatMap_cons,List.length_append,List.length_cons,show a+((tx (T t q.toNat)).length+1+(qs.flatMap fun q=>32::tx (T t q.toNat)).length)=a+1+(tx (T t q.toNat)).length+(qs.flatMap fun q=>32::tx (T t q.toNat)).length by omega]
   exact e2
  ·intro k h1 h2
   have hlen2:l1.length≤l2.length:=by rw[hm2];simp
   cases k with
   | zero =>
    refine⟨by simp,by simp only[List.getElem_cons_zero];omega,?_⟩
    simp only[List.getElem_cons_zero,Int.toNat_natCast]
    rw[hm2,d2c (pP hl1.ok) p hp1,hT1]
   | succ k=>exact hps k (by simpa using h1) (by simpa using h2)
  ·rcases ho2 with ho2|⟨r,hr,ho2⟩
   ·rcases ho1 with ho1|ho1
    ·exact .inl oM
    ·exact .inr ⟨(p:Int),List.mem_cons_self,oM⟩
   ·exact .inr ⟨r,List.mem_cons_of_mem _ hr,ho2⟩
theorem c3n(op W K B B':Int)(ts:List Tm)(h:ts.length≠1):mkT op W K B ts=mkT op W K B' ts:=by
 match ts with
 | []=>rfl
 | [_]=>exact absurd rfl h
 | [_,_]=>rfl
 | _::_::_::_=>rfl
theorem c7i{op K A B C:Int}(h0:2≤op)(h1:op≤20)(h:xE op K A B C=true):(if op=17∨op=19∨op=20 then K else 0)=K:=by
 by_cases hq:op=17∨op=19∨op=20
 ·exact if_pos hq
 rw[if_neg hq]
 unfold xE at h
 rw[if_neg oM,if_neg oM,if_neg oM]at h
 by_cases o2:op=2
 ·rw[if_pos o2]at h
  simp only[Bool.and_eq_true,beq_iff_eq]at h
  exact h.1.1.symm
 rw[if_neg o2]at h
 by_cases o3:3≤op∧op≤16
 ·rw[if_pos o3]at h
  simp only[Bool.and_eq_true,beq_iff_eq]at h
  exact h.1.symm
 rw[if_neg o3,if_pos oM]at h
 exact(beq_iff_eq.mp h).symm
theorem c2v{op W K B:Int}{ts:List (List UInt8)}(h0:2≤op)(h:txm op W K B ts≠[]):txm op W K B ts=whT op W K B ts∧∀x∈ts,x≠[]:=by
 unfold txm at h ⊢
 rw[if_neg oM]at h ⊢
 split at h
 ·rename_i hc
  exact⟨if_pos hc,fun x hx=>by simpa using List.all_eq_true.mp hc.1 x hx⟩
 ·exact absurd rfl h
theorem b7h{t:List S31}(hN:pL t)(ht:t.length≤80){D:Nat→Prop}{L:List UInt8}(hL:L.length≤4000)(i:Nat)(hi:i<t.length)(hDi:D i)(hne:tx (T t i)≠[])(hop:2≤(kA t (i:Int)).f0)(VI:Nat→RdV)
  (hV :∀q∈pl t i,tx (T t q.toNat)≠[]→∀(a:Nat) (l:List S31) (R:List UInt8),L.drop a=tx (T t q.toNat)++R→b6s R→Rb t D l→d2m VI t D q.toNat a l)
  (a:Nat) (l:List S31) (R:List UInt8) (h:L.drop a=tx (T t i)++R) (hR:b6s R) (hl:Rb t D l) :
  isB L a 40=true∧d2m (fun k=>fun x m _ _=>b3b (k+1) (VI k) (mkB L) (x+1) m 0 0 x) t D i a l:=by
 have ho:=c3k hN i hi
 have hn:=c0w hN i hi
 have hu:=b4d hN i hi
 have e:=d2b hN i hi
 rw[e]at hne
 obtain⟨e1,hall⟩:=c2v hop hne
 have e2:=e.trans e1
 unfold whT at e2
 rw[List.flatMap_map,c3v]at e2
 have hlen:=congrArg List.length e2
 rw[e2]at h
 simp only[List.cons_append,List.append_assoc,List.nil_append]at h
 obtain⟨b0,l0,d0⟩:=a8i h
 refine⟨by rw[b0];decide,?_⟩
 have hP0:pl t i≠[]:=by
  rcases yM (op:=(kA t (i:Int)).f0) (A:=(kA t (i:Int)).f3) (B:=(kA t (i:Int)).f4) (C:=(kA t (i:Int)).f5) ho.1 ho.2 with⟨h,e⟩|⟨h,e⟩|⟨h,e⟩|⟨h,e⟩
  ·omega
  ·unfold pl;rw[e];simp
  ·unfold pl;rw[e];simp
  ·unfold pl;rw[e];simp
 have s1 :∀M,b6s ((tlL (kA t (i:Int)).f0 (kA t (i:Int)).f1 (kA t (i:Int)).f2 (kA t (i:Int)).f4)++(((pl t i).flatMap fun q=>32::tx (T t q.toNat))++M)):=by
  intro M
  unfold tlL
  split
  ·exact a7r _
  ·split
   ·exact a7r _
   ·rw[List.nil_append]
    cases hp:pl t i with
    | nil=>exact absurd hp hP0
    | cons q qs=>rw[List.flatMap_cons,List.cons_append,List.cons_append];exact a7r _
 have w1:=zK (b6l L hL l 0 0 (a+1) oM)
 rw[b9b d0 d5x (s1 _)]at w1
 have le1:=c1m d0 (d7s hop ho.2)
 have d1:=a8s d0
 have n1:=zK (c3l hL l hn le1 d1 (a9o t (pl t i) (b9n R)))
 have le2:a+1+(opL (kA t (i:Int)).f0).length+(tlL (kA t (i:Int)).f0 (kA t (i:Int)).f1 (kA t (i:Int)).f2 (kA t (i:Int)).f4).length≤L.length:=by
  have:=congrArg List.length d1
  rw[List.length_drop,List.length_append]at this
  omega
 have d2:=a8s d1
 obtain⟨ps,l',f1,hps,hl',⟨m',hm'⟩,hpp,hor⟩:=c3r (D:=D) hL VI (a:Int) (pl t i) (fun q hq=>⟨hall _ (List.mem_map.mpr ⟨q,hq,rfl⟩),hV q hq (hall _ (List.mem_map.mpr ⟨q,hq,rfl⟩))⟩) _ l [] (41::R) le2 d2 (b9n R) hl
 rw[List.nil_append]at f1
 have d3:=a8s d2
 obtain⟨b3,l3,_⟩:=a8i d3
 have g3:=b7k L hL _ (Nat.le_of_lt l3) l' 0 0 41
 rw[b3,decide_eq_true (by decide),if_pos rfl]at g3
 have o1:=zK (d7t hop ho.2)
 have hr:=b9t hN i hi (l:=l') ps hop hps (fun k h1 h2=>by
  obtain⟨p0,p1,p2⟩:=hpp k h1 h2
  have q:=pP hN i hi _ (List.getElem_mem h2)
  refine⟨p0,p1,?_⟩
  have e1:=d2a (l:=l') ps[k].toNat
  have e2:=d2a (l:=t) (pl t i)[k].toNat
  rw[Int.toNat_of_nonneg p0]at e1
  rw[Int.toNat_of_nonneg q.1]at e2
  rw[← e1,← e2,p2])
 have hpl:=places (B:=(kA t (i:Int)).f4) hop ho.2 ps hps
 have hw:=zK (d0a (s:=mkB L) (a:=((a+1+(opL (kA t (i:Int)).f0).length+(tlL (kA t (i:Int)).f0 (kA t (i:Int)).f1 (kA t (i:Int)).f2 (kA t (i:Int)).f4).length+((pl t i).flatMap fun q=>32::tx (T t q.toNat)).length+1:Nat):Int)) (c:=0) (b:=0) hop hr (if(kA t (i:Int)).f0=17 then(kA t (i:Int)).f1 else 0) (fun h=>if_pos h))
 have hTs:(ps.map fun p=>T l' p.toNat)=(pl t i).map fun p=>T t p.toNat:=by
  refine List.ext_getElem (by simpa using hps) (fun k h1 h2=>?_)
  rw[List.getElem_map,List.getElem_map]
  exact(hpp k (by simpa using h1) (by simpa using h2)).2.2
 have hT:mkT (kA t (i:Int)).f0 (kA t (i:Int)).f1 (kA t (i:Int)).f2 (if(kA t (i:Int)).f0=19∨(kA t (i:Int)).f0=20 then(kA t (i:Int)).f4 else rd ps 1) (ps.map fun p=>T l' p.toNat)=T t i:=by
  rw[a6p (pP hN) i hi,hTs]
  by_cases hq:(kA t (i:Int)).f0=19∨(kA t (i:Int)).f0=20
  ·rw[if_pos hq]
  rw[if_neg hq]
  by_cases h1:(pl t i).length=1
  ·rw[show rd ps 1=0 from d5p ps 1 oM]
   have hB0:(kA t (i:Int)).f4=0:=by
    unfold xE at hu
    rcases yM (op:=(kA t (i:Int)).f0) (A:=(kA t (i:Int)).f3) (B:=(kA t (i:Int)).f4) (C:=(kA t (i:Int)).f5) ho.1 ho.2 with⟨h,e⟩|⟨h,e⟩|⟨h,e⟩|⟨h,e⟩
    ·omega
    ·rw[if_neg oM]at hu
     by_cases o17:(kA t (i:Int)).f0=17
     ·rw[if_pos o17]at hu
      simp only[Bool.and_eq_true,beq_iff_eq]at hu
      exact hu.1
     ·rw[if_neg o17,if_neg hq,if_pos oM]at hu
      simp only[Bool.and_eq_true,beq_iff_eq]at hu
      exact hu.1.2
    ·unfold pl at h1;rw[e]at h1;simp at h1
    ·unfold pl at h1;rw[e]at h1;simp at h1
   rw[hB0]
  ·exact c3n _ _ _ _ _ _ (by rw[List.length_map];exact h1)
 have hpo:=pP hl'.ok
 obtain⟨p,l2,u1,hl2,⟨m2,hm2⟩,hp2,hT2,hor2,hnd⟩:=c0i hl' ht ⟨(kA t (i:Int)).f0,(kA t (i:Int)).f1,(kA t (i:Int)).f2,rd ps 0,if(kA t (i:Int)).f0=19∨(kA t (i:Int)).f0=20 then(kA t (i:Int)).f4 else rd ps 1,rd ps 2⟩ i hi hDi hr (by simp only[];rw[hpl];exact hT) (a:Int)
 refine⟨p,l2,?_,hl2,⟨m'++m2,by rw[hm2,hm',List.append_assoc]⟩,hp2,hT2,?_⟩
 ·dsimp only
  unfold b3b
  rw[show((a:Int)+1)=((a+1:Nat):Int) by omega]
  refine kP w1 (kP o1 (kD rfl (kP n1 (kD rfl (kP (by
   dsimp only
   rw[show(kL (kA t (i:Int)).f0 0 (if(kA t (i:Int)).f0=19∨(kA t (i:Int)).f0=20 then(kA t (i:Int)).f4 else 0) 0).length=(pl t i).length from c3p]
   exact f1) (kD rfl (qA g3 (kD rfl (kP (by
   dsimp only
   rw[show(if(kA t (i:Int)).f0=19∨(kA t (i:Int)).f0=20 then(if(kA t (i:Int)).f0=19∨(kA t (i:Int)).f0=20 then(kA t (i:Int)).f4 else 0)else rd ps 1)=(if(kA t (i:Int)).f0=19∨(kA t (i:Int)).f0=20 then(kA t (i:Int)).f4 else rd ps 1) by split<;>rfl,c7i hop ho.2 hu]
   exact hw) (yF ?_))))))))))
  dsimp only
  rw[show(if(kA t (i:Int)).f0=19∨(kA t (i:Int)).f0=20 then(if(kA t (i:Int)).f0=19∨(kA t (i:Int)).f0=20 then(kA t (i:Int)).f4 else 0)else rd ps 1)=(if(kA t (i:Int)).f0=19∨(kA t (i:Int)).f0=20 then(kA t (i:Int)).f4 else rd ps 1) by split<;>rfl,c7i hop ho.2 hu]
  unfold c2l
  rw[u1,hlen]
  simp only[List.length_cons,List.length_append,List.length_nil]
  rw[show a+1+(opL (kA t (i:Int)).f0).length+(tlL (kA t (i:Int)).f0 (kA t (i:Int)).f1 (kA t (i:Int)).f2 (kA t (i:Int)).f4).length+((pl t i).flatMap fun q=>32::tx (T t q.toNat)).length+1=a+((opL (kA t (i:Int)).f0).length+(tlL (kA t (i:Int)).f0 (kA t (i:Int)).f1 (kA t (i:Int)).f2 (kA t (i:Int)).f4).length+1+((pl t i).flatMap fun q=>32::tx (T t q.toNat)).length+(0+1)) by omega]
 ·rcases hor2 with rfl|h2
  ·rcases hor with h3|⟨q,hq,h3⟩
   ·exact .inl h3
   ·have:=pP hl2.ok p hp2 q (by unfold pl;rw[hnd];simp only[];rw[hpl];exact hq)
    omega
  ·exact .inr oM
theorem c1b{t:List S31}(hN:pL t)(ht:t.length≤80){D:Nat→Prop}{L:List UInt8}(hL:L.length≤4000)(i:Nat)(hi:i<t.length)(hDi:D i)(hop:(kA t (i:Int)).f0=0∨(kA t (i:Int)).f0=1)
  (a:Nat) (l:List S31) (R:List UInt8) (h:L.drop a=tx (T t i)++R) (hR:b6s R) (hl:Rb t D l) :
  isB L a 40=false∧d2m (fun k=>fun x m _ _=>b7f (k+1) (mkB L) x m 0 0 x) t D i a l:=by
 have hn:=c0w hN i hi
 have hb:=hN i hi
 have hTe:=a6p (pP hN) i hi
 have e:=d2b hN i hi
 have ht1:tx (T t i)=a3k (kA t (i:Int)).f0 (kA t (i:Int)).f1 (kA t (i:Int)).f2:=by
  rw[e];unfold txm;exact if_pos hop
 have hlen:=congrArg List.length ht1
 rw[ht1]at h
 unfold d2m
 rw[hlen]
 unfold pl at hTe
 generalize hx:kA t (i:Int)=x at *
 obtain⟨op,W,K,A,B,C⟩:=x
 simp only[]at *
 have hW:=hn.w0;have hW1:=hn.w1;have hK:=hn.k0 oM
 have hp:kL op A B C=[]:=by
  rcases yM (op:=op) (A:=A) (B:=B) (C:=C) oM oM with⟨_,e⟩|⟨h,_⟩|⟨h,_⟩|⟨h,_⟩
  ·exact e
  ·omega
  ·omega
  ·omega
 have hp0:kL op 0 0 0=[]:=by
  rcases yM (op:=op) (A:=0) (B:=0) (C:=0) oM oM with⟨_,e⟩|⟨h,_⟩|⟨h,_⟩|⟨h,_⟩
  ·exact e
  ·omega
  ·omega
  ·omega
 unfold a2s at hb
 rw[hx]at hb
 simp only[]at hb
 have hu:A=0∧B=0∧C=0:=by
  unfold tG at hb
  simp only[Bool.and_eq_true]at hb
  have:=hb.1.1.2
  unfold xE at this
  rw[if_pos hop]at this
  simp only[Bool.and_eq_true,beq_iff_eq]at this
  omega
 obtain⟨rfl,rfl,rfl⟩:=hu
 have hr:tG l op W K 0 0 0=true:=by
  unfold tG at hb ⊢
  rw[hp0]at hb ⊢
  exact hb
 rw[hp0]at hTe
 obtain⟨p,l2,u1,hl2,hm2,hp2,hT2,hor2,_⟩:=c0i hl ht ⟨op,W,K,0,0,0⟩ i hi hDi hr (by simp only[];rw[hp0];exact hTe.symm) (a:Int)
 have hor:l2.length≤l.length∨l2.length≤p+1:=by
  rcases hor2 with rfl|h2
  ·exact .inl (Nat.le_refl _)
  ·exact .inr oM
 have fin :∀(sg:UInt8) (x y:Int),a3k op W K=sg::(yK x++58::yK y)→(0≤x∧x≤999)→(0≤y∧y≤999)→a9j sg=false→(sg.toNat:Int)≠40→wd a9j L a=a3k op W K∧isB L a 40=false∧a≤L.length∧(a3k op W K).length≤4000:=by
  intro sg x y hL1 hx hy hs h40
  have hw:=b9b h (fun z hz=>by
   rw[hL1]at hz
   rcases List.mem_cons.mp hz with rfl|hz
   ·exact hs
   ·rcases List.mem_append.mp hz with hz|hz
    ·exact a5u hx.1 hx.2 z hz
    ·rcases List.mem_cons.mp hz with rfl|hz
     ·decide
     ·exact a5u hy.1 hy.2 z hz) hR
  rw[hL1,List.cons_append]at h
  obtain⟨b0,l0,_⟩:=a8i h
  exact⟨hw,by rw[b0];exact decide_eq_false h40,oM,by have:=a3j op W K;omega⟩
 rcases hop with rfl|rfl
 ·have hL1:a3k 0 W K=35::(yK W++58::yK K):=by unfold a3k;rw[if_pos rfl];simp
  obtain⟨f1,f2,f3,f4⟩:=fin 35 W K hL1 ⟨oM,oM⟩ ⟨hK.1,oM⟩ (by decide) (by decide)
  refine⟨f2,p,l2,?_,hl2,hm2,hp2,hT2,hor⟩
  have w1:=zK (b6l L hL l 0 0 a f3)
  rw[f1]at w1
  have hpr:=b4l 35 (x:=W) (y:=K) ⟨oM,oM⟩ ⟨hK.1,oM⟩
  rw[← hL1]at hpr
  have n1:=zK (b1a f4 hpr)
  unfold b7f
  exact kP w1 (kP n1 (kD rfl (yF (by unfold c2l;rw[u1]))))
 ·have hL1:a3k 1 W K=118::(yK K++58::yK W):=by unfold a3k;rw[if_neg (by decide)];simp
  obtain⟨f1,f2,f3,f4⟩:=fin 118 K W hL1 ⟨hK.1,oM⟩ ⟨oM,oM⟩ (by decide) (by decide)
  refine⟨f2,p,l2,?_,hl2,hm2,hp2,hT2,hor⟩
  have w1:=zK (b6l L hL l 0 0 a f3)
  rw[f1]at w1
  have hpr:=b4l 118 (x:=K) (y:=W) ⟨hK.1,oM⟩ ⟨oM,oM⟩
  have hno:=c3h 118 (yK K++58::yK W) 35 (by decide)
  rw[← hL1]at hpr hno
  have n1:=zK (b1a f4 hpr)
  obtain⟨x,y,n0⟩:=c0m f4 hno
  have n0:=zK n0
  unfold b7f
  exact kP w1 (kP n0 (kN (by simp) (kP n1 (kD rfl (yF (by unfold c2l;rw[u1]))))))
theorem d9r{t:List S31}(hN:pL t)(ht:t.length≤80){D:Nat→Prop}(hD :∀i<t.length,D i→∀p∈pl t i,D p.toNat){L:List UInt8}(hL:L.length≤4000)(i:Nat):i<t.length→D i→tx (T t i)≠[]→
  ∀(a:Nat) (l:List S31) (R:List UInt8),L.drop a=tx (T t i)++R→b6s R→Rb t D l→d2m (fun k=>nodeF (mkB L) k) t D i a l:=by
 induction i using Nat.strongRecOn with
 | _ i ih =>
  intro hi hDi hne a l R h hR hl
  have ho:=c3k hN i hi
  have ha:a≤L.length:=by
   have:=congrArg List.length h
   rw[List.length_drop,List.length_append]at this
   have:(tx (T t i)).length≠0:=fun e=>hne (List.length_eq_zero_iff.mp e)
   omega
  have g:=b7k L hL a ha l 0 0 40
  by_cases hop:(kA t (i:Int)).f0=0∨(kA t (i:Int)).f0=1
  ·obtain⟨h40,p,l',e1,h2⟩:=c1b hN ht hL i hi hDi hop a l R h hR hl
   rw[h40]at g
   refine⟨p,l',kS ?_,h2⟩
   simp only[nodeF,nodeR]
   exact qA g (kN (by simp) e1)
  ·obtain⟨h40,p,l',e1,h2⟩:=b7h hN ht hL i hi hDi hne oM (fun k=>nodeF (mkB L) k) (fun q hq hqn a l R h hR hl=>by
    have:=pP hN i hi q hq
    exact ih q.toNat oM oM (hD i hi hDi q hq) hqn a l R h hR hl) a l R h hR hl
   rw[h40]at g
   refine⟨p,l',kS ?_,h2⟩
   simp only[nodeF,nodeR]
   exact qA g (kD rfl e1)
theorem d5q(t:List S31)(D:Nat→Prop):Rb t D []:=⟨fun i hi=>absurd hi (by simp),fun i j hi=>absurd hi (by simp),fun q hq=>absurd hq (by simp)⟩
theorem b9h{t:List S31}(hN:pL t)(ht:t.length≤80){D:Nat→Prop}(hD :∀i<t.length,D i→∀p∈pl t i,D p.toNat)(i:Nat)(hi:i<t.length)(hDi:D i)(hne:tx (T t i)≠[])(h4:(tx (T t i)).length≤4000) :
  ∃u:List S31,Ev (fun k=>b9y k (mkB (tx (T t i)))) (u,0,0)∧Rb t D u∧1≤u.length∧T u (u.length-1)=T t i:=by
 obtain⟨p,u,e1,hu,_,hp,hT,hor⟩:=d9r hN ht hD h4 i hi hDi hne 0 [] [] (by simp) (.inl rfl) (d5q t D)
 have hlen:u.length=p+1:=by rcases hor with h|h;simp at h;rw[h]at hp;simp at hp;omega
 refine⟨u,?_,hu,oM,by rw[hlen,Nat.add_sub_cancel];exact hT⟩
 unfold b9y
 rw[pV]
 rw[Nat.zero_add]at e1
 exact kN oM (kP e1 (kD rfl (kN (by dsimp only;omega) pZ)))
theorem d6q(l:List S31)(h:zQ l):Ev (fun k=>xK k l) (mkB (tx (T l (l.length-1))),tx (T l (l.length-1))!=[])∧(tx (T l (l.length-1))).length≤4000:=by
 obtain⟨b,e1,e2,hb⟩:=a7q l
 have hb:=hb.mpr h
 obtain⟨h1,h2,h3⟩:=h
 have hm:(yD l l.length).getD (l.length-1) []∈yD l l.length:=by
  rw[List.getD_eq_getElem?_getD,List.getElem?_eq_getElem (by rw[vT];omega)];exact List.getElem_mem _
 rw[← d0g h3 (l.length-1) l.length oM oM]
 refine⟨?_,b2k l _ _ hm⟩
 unfold xK
 refine kP e2 (kD hb (kD oM (kD (by simp;omega) (kD (by simp;omega) ?_))))
 have:=b6u l h2 h3 h1 l.length 0 oM
 simp only[yD,yI,List.map_nil,List.nil_append,Nat.sub_zero]at this
 exact this
theorem d2e(l:List S31)(hT:zQ l):Ev (fun k=>a0d k l) (vN l):=by
 obtain⟨b,e1,e2,h⟩:=a7q l
 have hb:=h.mpr hT
 obtain⟨h1,h2,h3⟩:=hT
 have hP:=pP h3
 unfold a0d
 refine kP e2 (kD hb (kP (a5q l oM h1 hP) (kD ⟨xW _ _ _,oM,?_⟩ pZ)))
 unfold a6n
 rw[List.all_eq_true]
 intro i hi
 rw[List.all_eq_true]
 intro p hp
 have:=hP i (List.mem_range.mp hi) p hp
 have:=List.mem_range.mp hi
 exact qL.mpr oM
theorem c7l{l t:List S31}(hN:pL l)(hM:pL t)(i j:Nat)(hi:i<l.length)(hj:j<t.length)(h:T l i=T t j):(isQ l i ↔ isQ t j)∧(isQ l i→(kA l (i:Int)).f4=(kA t (j:Int)).f4)∧(qn t j→qn l i):=by
 rw[a6p (pP hN) i hi,a6p (pP hM) j hj]at h
 obtain⟨h0,_,h2,h3,h4⟩:=c0z (by rw[List.length_map];exact qF _ _ _ _) (by rw[List.length_map];exact qF _ _ _ _) h
 have hq:isQ l i ↔ isQ t j:=by unfold isQ;rw[h0]
 have hB:isQ l i→(kA l (i:Int)).f4=(kA t (j:Int)).f4:=fun q=>h4 (by rw[List.length_map];unfold pl;exact a9x q)
 refine⟨hq,hB,fun hn q=>?_⟩
 have hn:=hn (hq.mp q)
 have e1:pl l i=[(kA l (i:Int)).f3]:=by unfold pl;exact yE q
 have e2:pl t j=[(kA t (j:Int)).f3]:=by unfold pl;exact yE (hq.mp q)
 rw[e1,e2]at h3
 have h3:T l (kA l (i:Int)).f3.toNat=T t (kA t (j:Int)).f3.toNat:=by simpa using h3
 rw[h3,h2,hB q]
 exact hn
theorem b5y(l:List S31)(met:Nat→Bool)(n:Nat):a3c l met n=a9n (fun j=>if met j=true∧isQ l j then(kA l (j:Int)).f4 else 0) n:=by
 induction n with
 | zero=>rfl
 | succ n ih =>
  show(if met n=true∧isQ l n then a3c l met n+(kA l (n:Int)).f4 else a3c l met n)=a9n _ n+(if met n=true∧isQ l n then(kA l (n:Int)).f4 else 0)
  rw[ih]
  by_cases c:met n=true∧isQ l n
  ·rw[if_pos c,if_pos c]
  ·rw[if_neg c,if_neg c];omega
theorem b5z{l:List S31}(hN:pL l)(met:Nat→Bool)(n:Nat):n≤l.length→a3c l met n≤a3c l (fun _=>true) n:=by
 induction n with
 | zero=>intro _;exact Int.le_refl _
 | succ n ih =>
  intro hn
  have h:=ih oM
  show(if met n=true∧isQ l n then a3c l met n+(kA l (n:Int)).f4 else a3c l met n)≤(if true=true∧isQ l n then a3c l (fun _=>true) n+(kA l (n:Int)).f4 else a3c l (fun _=>true) n)
  by_cases q:isQ l n
  ·have:=uP hN n oM q
   rw[if_pos (⟨rfl,q⟩:true=true∧isQ l n)]
   by_cases c:met n=true
   ·rw[if_pos ⟨c,q⟩];omega
   ·rw[if_neg (fun h=>c h.1)];omega
  ·rw[if_neg (fun h=>q h.2),if_neg (fun h=>q h.2)];exact h
theorem c1v{t:List S31}{env:List Int}(h:b3q t env){u:List S31}(hu:Rb t (fun j=>(rl t).getD j false=true) u)(hu1:1≤u.length)(hT:T u (u.length-1)=T t (t.length-1)):b3q u env:=by
 obtain⟨⟨h1,h80,hN⟩,he,hs,hr,hq⟩:=h
 have hlen:=hu.len
 refine⟨⟨hu1,oM,hu.ok⟩,he,?_,by rw[hT];exact hr,fun i hi _=>?_⟩
 ·refine Int.le_trans (b5z hu.ok _ _ (Nat.le_refl _)) (Int.le_trans ?_ hs)
  rw[b5y,b5y]
  have hw :∀j,0≤(if j<t.length then(if(rl t).getD j false=true∧isQ t j then(kA t (j:Int)).f4 else 0)else 0):=by
   intro j
   by_cases hj:j<t.length
   ·rw[if_pos hj]
    by_cases c:(rl t).getD j false=true∧isQ t j
    ·rw[if_pos c];have:=uP hN j hj c.2;omega
    ·rw[if_neg c];exact Int.le_refl _
   ·rw[if_neg hj];exact Int.le_refl _
  have key:=hu.sum (fun j=>if j<t.length then(if(rl t).getD j false=true∧isQ t j then(kA t (j:Int)).f4 else 0)else 0) (fun j=>if true=true∧isQ u j then(kA u (j:Int)).f4 else 0) hw (fun q hq j hj hd e=>by
   have hs:=c7l hu.ok hN q j hq hj e
   show(if true=true∧isQ u q then(kA u (q:Int)).f4 else 0)=(if j<t.length then(if(rl t).getD j false=true∧isQ t j then(kA t (j:Int)).f4 else 0)else 0)
   rw[if_pos hj]
   by_cases c:isQ u q
   ·rw[if_pos ⟨rfl,c⟩,if_pos ⟨hd,hs.1.mp c⟩,hs.2.1 c]
   ·rw[if_neg (fun h=>c h.2),if_neg (fun h=>c (hs.1.mpr h.2))])
  rw[a4p (w:=fun j=>if j<t.length then(if(rl t).getD j false=true∧isQ t j then(kA t (j:Int)).f4 else 0)else 0) (v:=fun j=>if(rl t).getD j false=true∧isQ t j then(kA t (j:Int)).f4 else 0) t.length (fun j hj=>if_pos hj)]at key
  exact key
 ·obtain⟨j,hj,hd,e⟩:=hu.from_ i hi
  exact(c7l hu.ok hN i j hi hj e).2.2 (hq j hj hd)
theorem c0k{t:List S31}{env:List Int}(h:b3q t env):b3q (vN t) env:=by
 obtain⟨⟨h1,h80,hN⟩,he,hs,hr,hq⟩:=h
 have hP:=pP hN
 refine⟨b2s ⟨h1,h80,hN⟩,he,?_,by rw[a3r hP h1];exact hr,fun i hi _=>?_⟩
 ·refine Int.le_trans (b5z (b4k hN h1) _ _ (Nat.le_refl _)) (Int.le_trans (Int.le_of_eq ?_) hs)
  rw[a2r]
  exact b2t hP h1 t.length (Nat.le_refl _)
 ·obtain⟨j,hj,hm,rfl⟩:=a4x i hi
  exact(b4i hP h1 j hj hm).mpr (hq j hj hm)
theorem FnValues:laws_FnValues.Pure:=by
 intro l hm hl hw
 have hl:(l.length:Int)≤140737488351232:=by omega
 refine c2i ?_
 unfold zE a3t
 refine qA rfl ?_
 by_cases hb:(l.length:Int)>1048576
 ·exact kD (by simpa using hb) pZ
 refine kN (by simpa using hb) ?_
 obtain⟨⟨t,env⟩,ed,⟨t1,t2⟩,e78,_⟩:=b6n l hl
 refine kP ed ?_
 simp only at t1 t2 e78 ⊢
 by_cases hV:b3q t env
 rotate_left
 ·obtain⟨e1,e2⟩:=(a0u t env).2 hV
  refine kP e2 (kP e1 (kN (by simp) (kS ?_)))
  simp only[vI]
  exact kN (by simp) (kN (by simp) (yF rfl))
 obtain⟨e1,e2⟩:=(a0u t env).1 hV
 have hT:=hV.1
 obtain⟨h1,h80,hN⟩:=hT
 have hP:=pP hN
 have hpv:=((a0u (vN t) env).1 (c0k hV)).2
 rw[a3r hP h1]at hpv
 have hpr:=d2e t hV.1
 have hg:=c1f hN (fun i=>(rl t).getD i false=true) (fun i hi hm p hp=>vM t hP (t.length-1) oM i hi hm p hp) hV.2.2.2.2 (t.length-1) env oM hV.2.1 (a0r _ t _ oM) hV.2.2.2.1
 have hwk:=b9q hN (t.length-1) env oM hg
 obtain⟨s1,s2⟩:=d6q t hV.1
 have hback:=b9h hN h80 (D:=fun j=>(rl t).getD j false=true) (fun i hi hm p hp=>vM t hP (t.length-1) oM i hi hm p hp) (t.length-1) oM (a0r _ t _ oM)
 have hcv :∀u,Rb t (fun j=>(rl t).getD j false=true) u→1≤u.length→T u (u.length-1)=T t (t.length-1)→Ev (fun k=>sF k u env) (sem (T t (t.length-1)) env,true):=by
  intro u a b c
  have:=((a0u u env).1 (c1v hV a b c)).2
  rw[c]at this
  exact this
 generalize hx:sem (T t (t.length-1)) env=x at *
 refine kP e2 (kP e1 (kN (by simp) (kS ?_)))
 simp only[vI]
 rw[kU (x:=(t.length:Int)-1) oM oM,show(t.length:Int)-1=((t.length-1:Nat):Int) by omega]
 refine kN (by simp) (kD trivial (kP hpr (kP hpv (kD rfl (kD rfl (kD oM (kD oM (qA (c9z _ _) (kS ?_)))))))))
 simp only[vH]
 rw[hwk]
 refine kN (by simp) ?_
 generalize hs:tx (T t (t.length-1))=s at *
 by_cases h0:s=[]
 ·have ec:Ev (fun k=>xL k t) []:=by
   unfold xL
   exact kP s1 (kN (by rw[h0];simp) pZ)
  exact kP ec (kD rfl pZ)
 ·obtain⟨u,eR,hu,hu1,hTu⟩:=hback h0 s2
  have ec:Ev (fun k=>xL k t) u:=by
   unfold xL
   exact kP s1 (kD (bne_iff_ne.mpr h0) (kP eR pZ))
  exact kP ec (kN oM (kP (hcv u hu hu1 hTu) (kD rfl (yF (by simp)))))
end Go.Proofs.YtkpipmojkhikaaaGreat.Pure
