/- Go functions as Lean functions: a call comes to what they say. -/
import Derived.Test.YtkpipmojkhikaaaGreatVValues3
namespace Go.Proofs.YtkpipmojkhikaaaGreat.PAll
open Go.RowKit Go.A_ Go.B_ Go.C_ Go.D_
attribute [local go_sem] rF rC tE tD qK qJ rD rA
set_option linter.unusedVariables false
set_option maxHeartbeats 8000000
set_option maxRecDepth 100000
set_option linter.unusedSimpArgs false
@[reducible] def d5g:Array Bool:= #[false,false,false,false,false,false,false,false,false,false,false,false,false]
@[reducible] def d5c:Array Bool:= #[true,false,false,false,false,false,false,false,false,false,false,false,false]
@[reducible] def d4y:Array Bool:= #[true,true,false,false,false,false,false,false,false,false,false,false,false]
@[reducible] def d4u:Array Bool:= #[true,true,true,false,false,false,false,false,false,false,false,false,false]
@[reducible] def d4q:Array Bool:= #[true,true,true,true,false,false,false,false,false,false,false,false,false]
@[reducible] def d4m:Array Bool:= #[true,true,true,true,true,false,false,false,false,false,false,false,false]
@[reducible] def d4i:Array Bool:= #[true,true,true,true,true,false,true,false,false,false,false,false,false]
@[reducible] def d4e:Array Bool:= #[true,true,true,true,true,false,true,true,false,false,false,false,false]
@[reducible] def d4a:Array Bool:= #[true,true,true,true,true,false,true,true,true,false,false,false,false]
@[reducible] def d3u:Array Bool:= #[true,true,true,true,true,false,true,true,true,true,false,false,false]
@[reducible] def c9y:Array Bool:= #[true,true,true,true,true,true,true,true,true,true,false,false,false]
@[reducible] def c9u:Array Bool:= #[true,true,true,true,true,true,true,true,true,true,true,false,false]
@[reducible] def c9q:Array Bool:= #[true,true,true,true,true,true,true,true,true,true,true,true,false]
@[reducible] def c9m:Array Bool:= #[true,true,true,true,true,true,true,true,true,true,true,true,true]
@[reducible] def a7n:Array Bool:= #[false,false,false,false,false,false,false,false,false,false,false,false,false,false,false,false,false,false,false,false,false,false,false,false,false,false,false,false,false,false,false,false,false,false,false,false,false]
@[reducible] def a7m:Array Bool:= #[true,false,false,false,false,false,false,false,false,false,false,false,false,false,false,false,false,false,false,false,false,false,false,false,false,false,false,false,false,false,false,false,false,false,false,false,false]
@[reducible] def a7l:Array Bool:= #[true,true,false,false,false,false,false,false,false,false,false,false,false,false,false,false,false,false,false,false,false,false,false,false,false,false,false,false,false,false,false,false,false,false,false,false,false]
@[reducible] def a7k:Array Bool:= #[true,true,true,false,false,false,false,false,false,false,false,false,false,false,false,false,false,false,false,false,false,false,false,false,false,false,false,false,false,false,false,false,false,false,false,false,false]
@[reducible] def a7j:Array Bool:= #[true,true,true,true,false,false,false,false,false,false,false,false,false,false,false,false,false,false,false,false,false,false,false,false,false,false,false,false,false,false,false,false,false,false,false,false,false]
@[reducible] def a7i:Array Bool:= #[true,true,true,true,true,false,false,false,false,false,false,false,false,false,false,false,false,false,false,false,false,false,false,false,false,false,false,false,false,false,false,false,false,false,false,false,false]
@[reducible] def a7h:Array Bool:= #[true,true,true,true,true,true,false,false,false,false,false,false,false,false,false,false,false,false,false,false,false,false,false,false,false,false,false,false,false,false,false,false,false,false,false,false,false]
@[reducible] def a7g:Array Bool:= #[true,true,true,true,true,true,true,false,false,false,false,false,false,false,false,false,false,false,false,false,false,false,false,false,false,false,false,false,false,false,false,false,false,false,false,false,false]
@[reducible] def a7f:Array Bool:= #[true,true,true,true,true,true,true,true,false,false,false,false,false,false,false,false,false,false,false,false,false,false,false,false,false,false,false,false,false,false,false,false,false,false,false,false,false]
@[reducible] def a7e:Array Bool:= #[true,true,true,true,true,true,true,true,true,false,false,false,false,false,false,false,false,false,false,false,false,false,false,false,false,false,false,false,false,false,false,false,false,false,false,false,false]
@[reducible] def a7d:Array Bool:= #[true,true,true,true,true,true,true,true,true,true,false,false,false,false,false,false,false,false,false,false,false,false,false,false,false,false,false,false,false,false,false,false,false,false,false,false,false]
@[reducible] def a7c:Array Bool:= #[true,true,true,true,true,true,true,true,true,true,true,false,false,false,false,false,false,false,false,false,false,false,false,false,false,false,false,false,false,false,false,false,false,false,false,false,false]
@[reducible] def a7b:Array Bool:= #[true,true,true,true,true,true,true,true,true,true,true,true,false,false,false,false,false,false,false,false,false,false,false,false,false,false,false,false,false,false,false,false,false,false,false,false,false]
@[reducible] def b4a:Array Bool:= #[true,true,true,true,true,true,true,true,true,true,true,true,false,false,false,true,false,false,false,false,false,false,false,false,false,false,false,false,false,false,false,false,false,false,false,false,false]
@[reducible] def b3z:Array Bool:= #[true,true,true,true,true,true,true,true,true,true,true,true,false,false,false,true,true,false,false,false,false,false,false,false,false,false,false,false,false,false,false,false,false,false,false,false,false]
@[reducible] def b3y:Array Bool:= #[true,true,true,true,true,true,true,true,true,true,true,true,false,false,false,true,true,true,false,false,false,false,false,false,false,false,false,false,false,false,false,false,false,false,false,false,false]
@[reducible] def b3x:Array Bool:= #[true,true,true,true,true,true,true,true,true,true,true,true,false,false,false,true,true,true,true,false,false,false,false,false,false,false,false,false,false,false,false,false,false,false,false,false,false]
@[reducible] def b3w:Array Bool:= #[true,true,true,true,true,true,true,true,true,true,true,true,true,false,false,true,true,true,true,false,false,false,false,false,false,false,false,false,false,false,false,false,false,false,false,false,false]
@[reducible] def b3v:Array Bool:= #[true,true,true,true,true,true,true,true,true,true,true,true,true,true,false,true,true,true,true,false,false,false,false,false,false,false,false,false,false,false,false,false,false,false,false,false,false]
@[reducible] def a7a:Array Bool:= #[true,true,true,true,true,true,true,true,true,true,true,true,true,true,true,true,true,true,true,false,false,false,false,false,false,false,false,false,false,false,false,false,false,false,false,false,false]
@[reducible] def a6z:Array Bool:= #[true,true,true,true,true,true,true,true,true,true,true,true,true,true,true,true,true,true,true,true,false,false,false,false,false,false,false,false,false,false,false,false,false,false,false,false,false]
@[reducible] def a6y:Array Bool:= #[true,true,true,true,true,true,true,true,true,true,true,true,true,true,true,true,true,true,true,true,true,false,false,false,false,false,false,false,false,false,false,false,false,false,false,false,false]
@[reducible] def a6x:Array Bool:= #[true,true,true,true,true,true,true,true,true,true,true,true,true,true,true,true,true,true,true,true,true,true,false,false,false,false,false,false,false,false,false,false,false,false,false,false,false]
@[reducible] def a6w:Array Bool:= #[true,true,true,true,true,true,true,true,true,true,true,true,true,true,true,true,true,true,true,true,true,true,true,false,false,false,false,false,false,false,false,false,false,false,false,false,false]
@[reducible] def a6v:Array Bool:= #[true,true,true,true,true,true,true,true,true,true,true,true,true,true,true,true,true,true,true,true,true,true,true,true,false,false,false,false,false,false,false,false,false,false,false,false,false]
@[reducible] def a6u:Array Bool:= #[true,true,true,true,true,true,true,true,true,true,true,true,true,true,true,true,true,true,true,true,true,true,true,true,true,false,false,false,false,false,false,false,false,false,false,false,false]
@[reducible] def a6t:Array Bool:= #[true,true,true,true,true,true,true,true,true,true,true,true,true,true,true,true,true,true,true,true,true,true,true,true,true,true,false,false,false,false,false,false,false,false,false,false,false]
@[reducible] def a6s:Array Bool:= #[true,true,true,true,true,true,true,true,true,true,true,true,true,true,true,true,true,true,true,true,true,true,true,true,true,true,true,false,false,false,false,false,false,false,false,false,false]
@[reducible] def b0r:Array Bool:= #[true,true,true,true,true,true,true,true,true,true,true,true,true,true,true,true,true,true,true,true,true,true,true,true,true,true,true,true,false,false,false,false,false,false,false,false,false]
@[reducible] def b0q:Array Bool:= #[true,true,true,true,true,true,true,true,true,true,true,true,true,true,true,true,true,true,true,true,true,true,true,true,true,true,true,true,true,false,false,false,false,false,false,false,false]
@[reducible] def b0p:Array Bool:= #[true,true,true,true,true,true,true,true,true,true,true,true,true,true,true,true,true,true,true,true,true,true,true,true,true,true,true,true,true,true,false,false,false,false,false,false,false]
@[reducible] def b0o:Array Bool:= #[true,true,true,true,true,true,true,true,true,true,true,true,true,true,true,true,true,true,true,true,true,true,true,true,true,true,true,true,true,true,true,false,false,false,false,false,false]
@[reducible] def b0n:Array Bool:= #[true,true,true,true,true,true,true,true,true,true,true,true,true,true,true,true,true,true,true,true,true,true,true,true,true,true,true,true,true,true,true,true,false,false,false,false,false]
@[reducible] def b0m:Array Bool:= #[true,true,true,true,true,true,true,true,true,true,true,true,true,true,true,true,true,true,true,true,true,true,true,true,true,true,true,true,true,true,true,true,true,false,false,false,false]
@[reducible] def b0l:Array Bool:= #[true,true,true,true,true,true,true,true,true,true,true,true,true,true,true,true,true,true,true,true,true,true,true,true,true,true,true,true,true,true,true,true,true,true,false,false,false]
@[reducible] def b0k:Array Bool:= #[true,true,true,true,true,true,true,true,true,true,true,true,true,true,true,true,true,true,true,true,true,true,true,true,true,true,true,true,true,true,true,true,true,true,true,false,false]
@[reducible] def b0j:Array Bool:= #[true,true,true,true,true,true,true,true,true,true,true,true,true,true,true,true,true,true,true,true,true,true,true,true,true,true,true,true,true,true,true,true,true,true,true,true,false]
@[reducible] def b0i:Array Bool:= #[true,true,true,true,true,true,true,true,true,true,true,true,true,true,true,true,true,true,true,true,true,true,true,true,true,true,true,true,true,true,true,true,true,true,true,true,true]
@[reducible] def b8p:Array Bool:= #[true,true,true,true,true,true,true,true,true,true,true,true,true,false,false,false,false,false,false,false,false,false,false,false,false,false,false,false,false,false,false,false,false,false,false,false,false]
@[reducible] def b8o:Array Bool:= #[true,true,true,true,true,true,true,true,true,true,true,true,true,true,false,false,false,false,false,false,false,false,false,false,false,false,false,false,false,false,false,false,false,false,false,false,false]
@[reducible] def b8n:Array Bool:= #[true,true,true,true,true,true,true,true,true,true,true,true,true,true,true,false,false,false,false,false,false,false,false,false,false,false,false,false,false,false,false,false,false,false,false,false,false]
@[reducible] def b8m:Array Bool:= #[true,true,true,true,true,true,true,true,true,true,true,true,true,true,true,true,false,false,false,false,false,false,false,false,false,false,false,false,false,false,false,false,false,false,false,false,false]
@[reducible] def b8l:Array Bool:= #[true,true,true,true,true,true,true,true,true,true,true,true,true,true,true,true,true,false,false,false,false,false,false,false,false,false,false,false,false,false,false,false,false,false,false,false,false]
@[reducible] def b8k:Array Bool:= #[true,true,true,true,true,true,true,true,true,true,true,true,true,true,true,true,true,true,false,false,false,false,false,false,false,false,false,false,false,false,false,false,false,false,false,false,false]
@[reducible] def c8r:Array Bool:= #[false,false,false,false,false,false,false,false,false,false,false,false,false,false,false]
@[reducible] def c8q:Array Bool:= #[true,false,false,false,false,false,false,false,false,false,false,false,false,false,false]
@[reducible] def c8p:Array Bool:= #[true,true,false,false,false,false,false,false,false,false,false,false,false,false,false]
@[reducible] def c8o:Array Bool:= #[true,true,true,false,false,false,false,false,false,false,false,false,false,false,false]
@[reducible] def c8n:Array Bool:= #[true,true,true,true,false,false,false,false,false,false,false,false,false,false,false]
@[reducible] def c8m:Array Bool:= #[true,true,true,true,false,true,false,false,false,false,false,false,false,false,false]
@[reducible] def c8l:Array Bool:= #[true,true,true,true,false,true,true,false,false,false,false,false,false,false,false]
@[reducible] def c8k:Array Bool:= #[true,true,true,true,false,true,true,true,false,false,false,false,false,false,false]
@[reducible] def c8j:Array Bool:= #[true,true,true,true,false,true,true,true,true,false,false,false,false,false,false]
@[reducible] def c8i:Array Bool:= #[true,true,true,true,true,true,true,true,true,false,false,false,false,false,false]
@[reducible] def c8h:Array Bool:= #[true,true,true,true,true,true,true,true,true,true,false,false,false,false,false]
@[reducible] def c8g:Array Bool:= #[true,true,true,true,true,true,true,true,true,true,true,false,false,false,false]
@[reducible] def c8f:Array Bool:= #[true,true,true,true,true,true,true,true,true,true,true,true,false,false,false]
@[reducible] def c8e:Array Bool:= #[true,true,true,true,true,true,true,true,true,true,true,true,true,false,false]
@[reducible] def c8d:Array Bool:= #[true,true,true,true,true,true,true,true,true,true,true,true,true,true,false]
@[reducible] def c8c:Array Bool:= #[true,true,true,true,true,true,true,true,true,true,true,true,true,true,true]
mutual
def sY:Nat→List (S31)→Bool→Option (Bool)
 | 0,_,_=>none
 | k+1,x0,aC=>if aC=true then(some false)else((vU k x0).bind fun aA=>((a0g k x0).bind fun a9=>(uA k x0 aA a9 (([]:List Int)) 0)))
def uA:Nat→List (S31)→List Bool→List Bool→List Int→Int→Option (Bool)
 | 0,_,_,_,_,_=>none
 | k+1,x0,x3,x4,x5,x6=>if x6<8 then(if x5.length<17592186044416 then(uA k x0 x3 x4 (x5++[0]) (wrap64 (x6+1)))else(none))else(sX k x0 x3 x4 x5 0)
def sX:Nat→List (S31)→List Bool→List Bool→List Int→Int→Option (Bool)
 | 0,_,_,_,_,_=>none
 | k+1,x0,x3,x4,x5,x7=>if x7<(x0.length:Int)then(if 0≤x7 then(if x7<(x3.length:Int)then(if wH false x3 x7=true then((rH ((kA x0 x7).f0)).bind fun a8=>(vF k x0 x3 x4 x5 x7 a8))else(vF k x0 x3 x4 x5 x7 false))else(none))else(none))else(tZ k x0 x3 x4 x5 (([]:List Int)) 0)
def vF:Nat→List (S31)→List Bool→List Bool→List Int→Int→Bool→Option (Bool)
 | 0,_,_,_,_,_,_=>none
 | k+1,x0,x3,x4,x5,x7,aB=>if aB=true then(if 0≤x7 then(if x7<(x0.length:Int)then(if 0≤((kA x0 x7).f2)then(if((kA x0 x7).f2)<(x5.length:Int)then(if(rd x5 ((kA x0 x7).f2))=0 then(sX k x0 x3 x4 (x5.set (((kA x0 x7).f2):Int).toNat ((kA x0 x7).f4)) (wrap64 (x7+1)))else(some false))else(none))else(none))else(none))else(none))else(sX k x0 x3 x4 x5 (wrap64 (x7+1)))
def tZ:Nat→List (S31)→List Bool→List Bool→List Int→List Int→Int→Option (Bool)
 | 0,_,_,_,_,_,_=>none
 | k+1,x0,x3,x4,x5,x8,x9=>if x9<(x0.length:Int)then(if x8.length<17592186044416 then(tZ k x0 x3 x4 x5 (x8++[0]) (wrap64 (x9+1)))else(none))else(sV k x0 x3 x4 x5 x8 0)
def sV:Nat→List (S31)→List Bool→List Bool→List Int→List Int→Int→Option (Bool)
 | 0,_,_,_,_,_,_=>none
 | k+1,x0,x3,x4,x5,x8,a0=>if a0<(x0.length:Int)then(if 0≤a0 then(if a0<(x3.length:Int)then(if wH false x3 a0=true then(if((kA x0 a0).f0)=1 then(if 0≤((kA x0 a0).f2)then(if((kA x0 a0).f2)<(x5.length:Int)then(if(rd x5 ((kA x0 a0).f2))=((kA x0 a0).f1)then(if a0<(x4.length:Int)then(if wH false x4 a0=true then((uW ((kA x0 a0).f0)).bind fun a7=>(qS k x0 x3 x4 x5 x8 a0 (!a7)))else(qS k x0 x3 x4 x5 x8 a0 false))else(none))else(qS k x0 x3 x4 x5 x8 a0 true))else(none))else(none))else(if a0<(x4.length:Int)then(if wH false x4 a0=true then((uW ((kA x0 a0).f0)).bind fun a6=>(qS k x0 x3 x4 x5 x8 a0 (!a6)))else(qS k x0 x3 x4 x5 x8 a0 false))else(none)))else(sV k x0 x3 x4 x5 x8 (wrap64 (a0+1))))else(none))else(none))else(rW k x0 x3 x4 x8 0)
def qS:Nat→List (S31)→List Bool→List Bool→List Int→List Int→Int→Bool→Option (Bool)
 | 0,_,_,_,_,_,_,_=>none
 | k+1,x0,x3,x4,x5,x8,a0,a4=>if a4=true then(some false)else(if 0≤a0 then(if a0<(x0.length:Int)then((sZ k ((kA x0 a0).f0) ((kA x0 a0).f1) ((kA x0 a0).f2) ((kA x0 a0).f3) ((kA x0 a0).f4) ((kA x0 a0).f5)).bind fun a5=>(tY k x0 x3 x4 x5 x8 a0 a5 0))else(none))else(none))
def tY:Nat→List (S31)→List Bool→List Bool→List Int→List Int→Int→List Int→Int→Option (Bool)
 | 0,_,_,_,_,_,_,_,_=>none
 | k+1,x0,x3,x4,x5,x8,a0,a3,a2=>if a2<(a3.length:Int)then(if 0≤a2 then(if 0≤(rd a3 a2)then(if(rd a3 a2)<(x8.length:Int)then(tY k x0 x3 x4 x5 (x8.set ((rd a3 a2):Int).toNat (wrap64 ((rd x8 (rd a3 a2))+1))) a0 a3 (wrap64 (a2+1)))else(none))else(none))else(none))else(sV k x0 x3 x4 x5 x8 (wrap64 (a0+1)))
def rW:Nat→List (S31)→List Bool→List Bool→List Int→Int→Option (Bool)
 | 0,_,_,_,_,_=>none
 | k+1,x0,x3,x4,x8,a1=>if a1<(x0.length:Int)then(if 0≤a1 then(if a1<(x3.length:Int)then(if wH false x3 a1=true then(if a1<(x4.length:Int)then(if wH false x4 a1=true then(if a1<(x8.length:Int)then(if(rd x8 a1)>1 then(some false)else(rW k x0 x3 x4 x8 (wrap64 (a1+1))))else(none))else(rW k x0 x3 x4 x8 (wrap64 (a1+1))))else(none))else(rW k x0 x3 x4 x8 (wrap64 (a1+1))))else(none))else(none))else(some true)
end
def uZ(k:Nat)(l0:List (S31)):Option (Bool):=(tN k l0).bind fun a1=>(if a1=true then(if 0≤(wrap64 ((l0.length:Int)-1))then(if(wrap64 ((l0.length:Int)-1))<(l0.length:Int)then(if((kA l0 (wrap64 ((l0.length:Int)-1))).f1)=1 then((zN k l0).bind fun a0=>(sY k l0 (decide ((a0.length:Int)>0))))else(sY k l0 true))else(none))else(none))else(sY k l0 true))
def a2a:Bool×List (List Nat×List Nat):=(true,[([],[]),([],[]),([],[]),([1,2],[1,2]),([3],[3]),([4],[4]),([],[]),([],[]),([6,7],[6,7]),([8],[8]),([9],[9]),([0,5,0,1,2,3,4,5,6,7,8,9,10],[0,5]),([11,10,0,1,2,3,4,5,6,7,8,9,10],[10,11])])
def a5n:List Nat:=[0,0,0,6,14,30,0,0,192,448,960,2047,4095]
theorem a4d:a4f .any (a7z Tryz.f79 15)=a2a:=by kernel_rfl
theorem a3v:yL a2a.2 a5n=true:=by kernel_rfl
def a1z:Bool×List (List Nat×List Nat):=(true,[([],[]),([],[]),([0,1],[0,1]),([2],[2]),([3],[3]),([4],[4]),([5],[5]),([6],[6]),([6],[6]),([6],[6]),([8,9,6],[6,8,9]),([10,6],[6,10]),([11,6],[6,11]),([7,12,6],[6,7,12]),([13,6],[6,13]),([6],[6]),([6],[6]),([15,16,6],[6,15,16]),([17,6],[6,17]),([18,6],[6,18]),([14,19,6],[6,14,19]),([6,20],[6,20]),([21,6],[21]),([22],[22]),([22],[22]),([23,24,22],[22,23,24]),([25,22],[22,25]),([26,22,22],[22,26]),([27],[27]),([27],[27]),([28,29,27],[27,28,29]),([30,27],[27,30]),([31,27],[27,31]),([32,27,27],[27,32]),([33,27],[27,33]),([27,34,22],[22,27,34]),([22,35],[22,35])])
def a5m:List Nat:=[0,0,3,7,15,31,63,127,127,127,895,1919,3967,8191,16383,127,127,98431,229503,491647,1048575,2097151,4194303,8388607,8388607,33554431,67108863,134217727,268435455,268435455,1073741823,2147483647,4294967295,8589934591,17179869183,34359738367,68719476735]
theorem uY:a4f .any (a7z Tryz.f79 25)=a1z:=by kernel_rfl
theorem uE:yL a1z.2 a5m=true:=by kernel_rfl
def a1y:Bool×List (List Nat×List Nat):=(true,[([],[]),([],[]),([],[]),([1,2],[1,2]),([3],[3]),([],[]),([],[]),([],[]),([6,7],[6,7]),([8],[8]),([5,9],[5,9]),([10],[10]),([11],[11]),([0,4,0,1,2,3,4,5,6,7,8,9,10,11,12],[0,4]),([13,12,0,1,2,3,4,5,6,7,8,9,10,11,12],[12,13])])
def a5l:List Nat:=[0,0,0,6,14,0,0,0,192,448,992,2016,4064,8191,16383]
theorem a4c:a4f .any (a7z Tryz.f79 31)=a1y:=by kernel_rfl
theorem a3u:yL a1y.2 a5l=true:=by kernel_rfl
theorem pK{P:Prop}(h:P:=by
 simp only[Act.put,List.setIfInBounds_toArray,List.set_cons_zero,List.set_cons_succ,vB,a3w]
 rfl):P:=h
theorem c5s{P:Prop}(h:P:=by
 refine pT (i:=27) (N:=some 132) b0r ?_
 refine qO (i:=28) (N:=some 133) (v:=undef) (a':=?_) b0q rfl rfl (qZ HT_.out (by kernel_rfl)) (fun _ _ _ h=>h) (Or.inr ⟨by rfl,rfl⟩) ?_ ?_
 rotate_left
 ·exact pK
 refine qO (i:=29) (N:=some 134) (v:=undef) (a':=?_) b0p rfl rfl (qZ HT_.out (by kernel_rfl)) (fun _ _ _ h=>h) (Or.inr ⟨by rfl,rfl⟩) ?_ ?_
 rotate_left
 ·exact pK
 refine qO (i:=30) (N:=some 135) (v:=undef) (a':=?_) b0o rfl rfl (qZ HT_.out (by kernel_rfl)) (fun _ _ _ h=>h) (Or.inr ⟨by rfl,rfl⟩) ?_ ?_
 rotate_left
 ·exact pK
 refine qO (i:=31) (N:=some 136) (v:=undef) (a':=?_) b0n rfl rfl (qZ HT_.out (by kernel_rfl)) (fun _ _ _ h=>h) (Or.inr ⟨by rfl,rfl⟩) ?_ ?_
 rotate_left
 ·exact pK
 refine qO (i:=32) (N:=some 137) (v:=undef) (a':=?_) b0m rfl rfl (qZ HT_.out (by kernel_rfl)) (fun _ _ _ h=>h) (Or.inr ⟨by rfl,rfl⟩) ?_ ?_
 rotate_left
 ·exact pK
 refine qO (i:=33) (N:=some 138) (v:=undef) (a':=?_) b0l rfl rfl (qZ HT_.out (by kernel_rfl)) (fun _ _ _ h=>h) (Or.inr ⟨by rfl,rfl⟩) ?_ ?_
 rotate_left
 ·exact pK
 refine qO (i:=34) (N:=some 139) (v:=undef) (a':=?_) b0k rfl rfl (qZ HT_.out (by kernel_rfl)) (fun _ _ _ h=>h) (Or.inr ⟨by rfl,rfl⟩) ?_ ?_
 rotate_left
 ·exact pK
 refine pT (i:=35) (N:=some 140) b0j ?_
 refine pT (i:=36) (N:=some 141) b0i ?_
 refine a1s (a2u HT_.out (by kernel_rfl)) ?_
 try go_wp2
 go_meet
 case rel=>exact⟨_,false,rfl,H,⟨by have:=bE.out;have:=bD.out;have:=bK.out;have:=cM.out;have:=cV.out;omega⟩,⟨sR<|a2.out⟩,⟨sR<|a4.out⟩,⟨sR<|a5.out⟩,⟨sR<|a6.out⟩,⟨sW HB.out⟩⟩):P:=h
theorem a9l{P:Prop}(h:P:=by
 rintro w' ⟨s0,s1,s2,s3,s4,s5,s6,s7,s8,s9,fA,f9,h2,iU,iS,iR,iQ,iO,iM,lO,oY,oX,oW,oU,oT,oR⟩
 go_simp
 with_reducible rfl):P:=h
theorem b8c{P:Prop}(h:P:=by
 go_wp2
 go_roundg k6
 case measure=>have:=bE.out;have:=bD.out;have:=bK.out;have:=cM.out;have:=cV.out;have:=iY.out;omega
 case rel=>exact⟨(wrap64 (aE+1)),rfl,H,⟨by have:=bE.out;have:=bD.out;have:=bK.out;have:=cM.out;have:=cV.out;have:=iY.out;omega⟩,⟨sR<|a2.out⟩,⟨sR<|a4.out⟩,⟨sR<|a6.out⟩,⟨sW HB.out⟩⟩):P:=h
theorem b1u{P:Prop}(h:P:=by
 rintro w' ⟨s0,s1,s2,s3,s4,s5,s6,s7,s8,s9,fA,f9,h2,iU,iS,iR,iQ,iO,iM,lO⟩
 go_simp
 with_reducible rfl):P:=h
theorem b5g{P:Prop}(h:P:=by
 rintro w' ⟨s0,s1,s2,s3,s4,s5,s6,s7,s8,s9,fA,f9,h2,iU,iS,iR,iQ,iO,iM⟩
 go_simp
 with_reducible rfl):P:=h
theorem b7w{P:Prop}(h:P:=by
 rintro w' ⟨s0,s1,s2,s3,s4,s5,s6,s7,s8,s9,fA,f9,h2⟩
 go_simp
 with_reducible rfl):P:=h
theorem KLi{k:Nat}{A0:Option Addr}{c0:Nat}{l0:List (S31)}{r:Bool}{w:World}(hr0:Kd.C k31 w A0 l0.length l0)(hc0:l0.length≤c0)(h:uZ k l0=some r) :
  Calls Tryz.prog 79 #[.slice A0 l0.length c0] w fun e w'=>e= .returned (.bool r)∧Below w.heap.size w w':=by
 have hu31:=Tryz.underlying33
 have b6:=am hr0
 have eP:=am hc0
 clear hr0 hc0
 have HB:=am (Below.refl w.heap.size w)
 have H:=h
 clear h
 unfold uZ at H
 have hL:=am H;clear H
 go_enter Tryz.func79,Tryz.ntmps79
 go_upto_region 1 with(fail)
 go_cut [32] (fun lK wc =>∃(kq:Nat) (eS:Bool),lK= .bool eS∧Aside0 (sY kq l0 eS=some r)∧Aside0 (kq≤k)∧Aside0 (Below w.heap.size w wc))
 case first=>as_aux_lemma =>
  have H:=hL.out
  clear hL
  replace H:=oA H;obtain⟨n6,A3,H⟩:=H
  replace H:=iB H;rcases H with⟨rfl,H⟩|⟨rfl,H⟩
  ·generalize hF:wrap64 ((l0.length:Int)-1)=hC at H
   (try rw[hF]at A3)
   have lX:(IntKind.i64.wrap ((l0.length:Int)-1))=hC:=(vB _).trans hF
   replace H:=iN H;obtain⟨nY,H⟩:=H
   replace H:=iN H;obtain⟨nX,H⟩:=H
   replace H:=iE H;rcases H with⟨lB,lA,H⟩|⟨lB,lA,H⟩
   ·replace H:=oA H;obtain⟨jF,A9,H⟩:=H
    replace H:=am H
    go_wp2_with (first|(go_at_call 107;refine(XJi (sC (Kd.JE b6.out HB.out)) eP.out A9.out).mono ?_;rintro e w11 ⟨n5,rfl,cK,hb⟩;have iL:=rL cK HB;replace HB:=hB HB hb;(try clear hb);(try clear cK);obtain⟨oP,nW,rfl⟩:=Kd.JB iL.out)|((with_reducible refine gW ?_);refine gF 19 (some 15) rfl ?_;refine gS Tryz.func19 (JPi (sC (Kd.JE b6.out HB.out)) eP.out A3.out) ?_;rintro w10 hb;replace HB:=hB HB hb;(try clear hb);obtain⟨jP,jK,i4,rfl,cS,cR,cQ,cP,cO,cN⟩:=ix (pE b6.out (hC));replace cS:=kC HB.out cS;replace cR:=kC HB.out cR;replace cQ:=kC HB.out cQ;replace cP:=kC HB.out cP;replace cO:=kC HB.out cO;replace cN:=kC HB.out cN))
    go_meet
    case rel=>exact⟨_,(decide ((jF.length:Int)>0)),(by(simp;done)),H,⟨oM⟩,⟨sW HB.out⟩⟩
   replace H:=am H
   go_wp2_with (((with_reducible refine gW ?_);refine gF 19 (some 15) rfl ?_;refine gS Tryz.func19 (JPi (sC (Kd.JE b6.out HB.out)) eP.out A3.out) ?_;rintro w13 hb;replace HB:=hB HB hb;(try clear hb);obtain⟨jP,jK,i4,rfl,cS,cR,cQ,cP,cO,cN⟩:=ix (pE b6.out (hC));replace cS:=kC HB.out cS;replace cR:=kC HB.out cR;replace cQ:=kC HB.out cQ;replace cP:=kC HB.out cP;replace cO:=kC HB.out cO;replace cN:=kC HB.out cN))
   go_meet
   case rel=>exact⟨_,true,rfl,H,⟨oM⟩,⟨sW HB.out⟩⟩
  replace H:=am H
  go_wp2_with (((with_reducible refine gW ?_);refine gF 19 (some 15) rfl ?_;refine gS Tryz.func19 (JPi (sC (Kd.JE b6.out HB.out)) eP.out A3.out) ?_;rintro w14 hb;replace HB:=hB HB hb;(try clear hb)))
  go_meet
  case rel=>exact⟨_,true,rfl,H,⟨oM⟩,⟨sW HB.out⟩⟩
 case rest=>as_aux_lemma =>
  clear hL
  obtain⟨kq,eS,rfl,HA,bE,HB⟩:=hcut
  cases kq with
  | zero=>cases HA.out
  | succ iV =>
   obtain⟨H⟩:=HA
   simp only[sY]at H
   replace H:=iB H;rcases H with⟨rfl,H⟩|⟨rfl,H⟩
   ·obtain rfl:=oI H
    go_wp2
    go_ret
    exact⟨rfl,sW HB.out⟩
   replace H:=oA H;obtain⟨aI,lW,H⟩:=H
   replace H:=oA H;obtain⟨aJ,lV,H⟩:=H
   generalize fY:([]:List Int)=jA at H
   have iA:=am fY.symm;clear fY
   replace H:=am H
   go_wp2_with (((with_reducible refine gW ?_);first|(refine gF 44 (some 34) rfl ?_;refine gT Tryz.func44 (KYi (sC (Kd.JE b6.out HB.out)) eP.out lW.out) ?_;rintro bN w18 ⟨cK,hb⟩;have dK:=rL cK HB;replace HB:=hB HB hb;(try clear hb);(try clear cK))|(refine gF 108 (some 36) rfl ?_;refine gT Tryz.func108 (XOi (sC (Kd.JE b6.out HB.out)) eP.out lV.out) ?_;rintro bF w19 ⟨cK,hb⟩;have f6:=am (Kd.JF (Kd.JN cK (Kd.JM (by exact sR<|dK.out))) (kG (by exact sW HB.out)));replace dK:=rE dK cK hb;replace HB:=hB HB hb;(try clear hb);(try clear cK))|((with_reducible refine pU (N:=37) rfl ?_);(try(refine wD (by rfl) ?_;dsimp only));refine Kd.YC (Kd.int .i64) _ 3 ?hg (N:=37) ?hd (xs:=([]:List Int)) (inner:=[]) (ok:=fun _=>True) (okp:=fun _=>True) ?hr ?hp (fun _ hk=>hk) trivial (Below.refl _ _) (Nat.le_refl _) (by simp) ?_;(case hd=>rfl);(case hg=>rfl);(case hr=>(go_simp;done));(case hp=>exact(Reps.none _ _));intro n4 w20 fK hb hg_ hnew_;clear hg_ hnew_;(rw[← iA.out]at fK);replace dK:=rB dK hb;replace f6:=rB f6 hb;have iK:=rL fK HB;replace HB:=hB HB hb;clear hb fK)))
   go_loopg [5,6] iV (fun kq v5 v6 w' =>∃(e0:List Int) (eR:Int),v6= .int .i64 eR∧Aside0 (uA kq l0 aI aJ e0 eR=some r)∧Aside0 (kq≤iV)∧Aside0 (Kd.R Kd.bool 4 w' w.heap.size (fun k_=>some k_≠(bF:Value).ownBlock) bN aI)∧Aside0 (Kd.R Kd.bool 4 w' w.heap.size (fun k_=>some k_≠(bN:Value).ownBlock) bF aJ)∧Aside0 (Kd.R (Kd.int .i64) 3 w' w.heap.size (fun _=>True) v5 e0)∧Aside0 (Below w.heap.size w w'))
   case atStart=>exact⟨jA,0,rfl,H,⟨Nat.le_refl _⟩,⟨sR<|Kd.JC dK.out (fun _ hk=>hk.2)⟩,⟨sR<|Kd.JC f6.out (fun _ hk=>hk.2)⟩,⟨sR<|iK.out⟩,⟨sW HB.out⟩⟩
   case round=>as_aux_lemma =>
    clear H
    obtain⟨e0,eR,rfl,HA,bD,a2,a4,a5,HB⟩:=hrel
    cases gk with
    | zero=>cases HA.out
    | succ k2 =>
     obtain⟨H⟩:=HA
     simp only[uA]at H
     replace H:=iD H;rcases H with⟨g0,H⟩|⟨g0,H⟩
     ·replace H:=iP H;obtain⟨iX,H⟩:=H
      have iF:=am iX
      clear iX
      generalize fX:e0++[0]=j9 at H
      have i9:=am fX.symm;clear fX
      replace H:=am H
      go_wp2_with (((with_reducible refine kZ (b:= .append) (xs:= #[.tmp 42,.tmp 43]) rfl ?_);(try(refine wD (by rfl) ?_;dsimp only));at_builtin;refine Kd.JQ (Kd.int .i64) (w0:=w) w.heap.size rfl (.tmp 42) (.tmp 43) 25 3 (.int .i64 0) 8 rfl Tryz.underlying25 a4h rfl (by decide) oM u5 e0 0 [.int .i64 0] (fun _=>True) (fun _=>False) rfl rfl ?aP (fun _ hk=>hk.elim) ?aF ?aO ?aB ?aS ?aL ?_;(case aP=>exact rfl);(case aB=>exact(by exact sW HB.out));(case aF=>exact(fun _ _=>trivial));(case aO=>exact(by exact sR<|a5.out));(case aS=>exact(kG (by exact sW HB.out)));(case aL=>have:=iF.out;omega);intro n3 w24 ho hb hg hat;rw[← i9.out]at ho;replace a2:=oV a2 a5 hg;replace a4:=oV a4 a5 hg;replace HB:=am hb;have iJ:=am ho;clear a5;clear ho hb hg hat))
      go_roundg k2
      case measure=>have:=bE.out;have:=bD.out;omega
      case rel=>exact⟨j9,(wrap64 (eR+1)),rfl,H,⟨by have:=bE.out;have:=bD.out;omega⟩,⟨sR<|a2.out⟩,⟨sR<|a4.out⟩,⟨sR<|iJ.out⟩,⟨sW HB.out⟩⟩
     replace H:=am H
     go_wp2
     go_loopg [7] k2 (fun kq v7 w' =>∃(b7:List Int) (a3:Int),v7= .int .i64 a3∧Aside0 (sX kq l0 aI aJ b7 a3=some r)∧Aside0 (kq≤k2)∧Aside0 (Kd.R Kd.bool 4 w' w.heap.size (fun k_=>some k_≠(bF:Value).ownBlock) bN aI)∧Aside0 (Kd.R Kd.bool 4 w' w.heap.size (fun k_=>some k_≠(bN:Value).ownBlock) bF aJ)∧Aside0 (Kd.R (Kd.int .i64) 3 w' w.heap.size (fun _=>True) u5 b7)∧Aside0 (Below w.heap.size w w'))
     case atStart=>exact⟨e0,0,rfl,H,⟨Nat.le_refl _⟩,⟨sR<|a2.out⟩,⟨sR<|a4.out⟩,⟨sR<|a5.out⟩,⟨sW HB.out⟩⟩
     case round=>as_aux_lemma =>
      clear H
      clear g0
      obtain⟨b7,a3,rfl,HA,bK,a2,a4,a5,HB⟩:=hrel
      cases gk with
      | zero=>cases HA.out
      | succ k3 =>
       obtain⟨H⟩:=HA
       simp only[sX]at H
       replace H:=iD H;rcases H with⟨eV,H⟩|⟨eV,H⟩
       ·have fS:=am H;clear H
        go_upto_region 12 with(fail)
        go_cut [62] (fun lJ wc =>∃(kq:Nat) (e7:Bool),lJ= .bool e7∧Aside0 (vF kq l0 aI aJ b7 a3 e7=some r)∧Aside0 (kq≤k3)∧Aside0 (Kd.R Kd.bool 4 wc w.heap.size (fun k_=>some k_≠(bF:Value).ownBlock) bN aI)∧Aside0 (Kd.R Kd.bool 4 wc w.heap.size (fun k_=>some k_≠(bN:Value).ownBlock) bF aJ)∧Aside0 (Kd.R (Kd.int .i64) 3 wc w.heap.size (fun _=>True) u5 b7)∧Aside0 (Below w.heap.size w wc))
        case first=>as_aux_lemma =>
         have H:=fS.out
         clear fS
         replace H:=iN H;obtain⟨mN,H⟩:=H
         replace H:=iN H;obtain⟨mM,H⟩:=H
         generalize hbq29:wH false aI a3=o1 at H
         have g4:=am hbq29.symm;clear hbq29
         replace H:=iB H;rcases H with⟨rfl,H⟩|⟨rfl,H⟩
         ·replace H:=oA H;obtain⟨jE,lU,H⟩:=H
          replace H:=am H
          obtain⟨oO,nV,rfl⟩:=Kd.JB a2.out
          have dT:0≤(a3:Int):=oD (by assumption)
          have dO:a3<(aI.length:Int):=oD (by assumption)
          obtain⟨i3,fO,e5⟩:=Kd.JJ (Kd.JA a2.out).2.2 a3 dT dO
          (try rw[← g4.out]at e5)
          cases fO
          replace dT:=eq_true dT
          replace dO:=eq_true dO
          obtain⟨nE,nA,mS,rfl,lI,lH,lG,lF,lD,lC⟩:=ix (pE (Kd.JE b6.out HB.out) a3)
          go_wp2_with ((go_at_call 21;refine cD (JOi lU.out) fun nd=>?_))
          go_meet
          case rel=>exact⟨_,jE,rfl,H,⟨by have:=bE.out;have:=bD.out;have:=bK.out;omega⟩,⟨sR<|a2.out⟩,⟨sR<|a4.out⟩,⟨sR<|a5.out⟩,⟨sW HB.out⟩⟩
         replace H:=am H
         obtain⟨oN,nU,rfl⟩:=Kd.JB a2.out
         have dT:0≤(a3:Int):=oD (by assumption)
         have dO:a3<(aI.length:Int):=oD (by assumption)
         obtain⟨i3,fO,e5⟩:=Kd.JJ (Kd.JA a2.out).2.2 a3 dT dO
         (try rw[← g4.out]at e5)
         cases fO
         replace dT:=eq_true dT
         replace dO:=eq_true dO
         go_wp2
         go_meet
         case rel=>exact⟨_,false,rfl,H,⟨by have:=bE.out;have:=bD.out;have:=bK.out;omega⟩,⟨sR<|a2.out⟩,⟨sR<|a4.out⟩,⟨sR<|a5.out⟩,⟨sW HB.out⟩⟩
        case rest=>as_aux_lemma =>
         clear fS
         clear eV
         obtain⟨kq,e7,rfl,HA,f8,a2,a4,a5,HB⟩:=hcut
         cases kq with
         | zero=>cases HA.out
         | succ hA =>
          obtain⟨H⟩:=HA
          simp only[vF]at H
          replace H:=iB H;rcases H with⟨rfl,H⟩|⟨rfl,H⟩
          rotate_left
          ·replace H:=am H
           go_wp2
           go_roundg hA
           case measure=>have:=bE.out;have:=bD.out;have:=bK.out;have:=f8.out;omega
           case rel=>exact⟨b7,(wrap64 (a3+1)),rfl,H,⟨by have:=bE.out;have:=bD.out;have:=bK.out;have:=f8.out;omega⟩,⟨sR<|a2.out⟩,⟨sR<|a4.out⟩,⟨sR<|a5.out⟩,⟨sW HB.out⟩⟩
          replace H:=iN H;obtain⟨mL,H⟩:=H
          replace H:=iN H;obtain⟨mK,H⟩:=H
          replace H:=iN H;obtain⟨mJ,H⟩:=H
          replace H:=iN H;obtain⟨mI,H⟩:=H
          replace H:=iE H;rcases H with⟨hV,hU,H⟩|⟨hV,hU,H⟩
          rotate_left
          ·obtain rfl:=oI H
           obtain⟨jO,jJ,aH,rfl,gN,gM,gL,gK,gJ,gI⟩:=ix (pE (Kd.JE b6.out HB.out) a3)
           obtain⟨oK,nR,rfl⟩:=Kd.JB a5.out
           obtain⟨jN,jI,i2,rfl,e4⟩:=ix (Kd.JD (Kd.JA a5.out).2.2 ((kA l0 a3).f2))
           go_wp2
           go_ret
           exact⟨rfl,sW HB.out⟩
          generalize fW:b7.set (((kA l0 a3).f2):Int).toNat ((kA l0 a3).f4)=j8 at H
          have i8:=am fW.symm;clear fW
          replace H:=am H
          obtain⟨jO,jJ,aH,rfl,gN,gM,gL,gK,gJ,gI⟩:=ix (pE (Kd.JE b6.out HB.out) a3)
          obtain⟨oL,nS,rfl⟩:=Kd.JB a5.out
          obtain⟨jN,jI,i2,rfl,e4⟩:=ix (Kd.JD (Kd.JA a5.out).2.2 ((kA l0 a3).f2))
          try go_wp2
          replace a2:=am (Kd.JR a2.out)
          replace a4:=am (Kd.JR a4.out)
          replace a5:=am (Kd.JR a5.out)
          replace HB:=am (kQ HB.out)
          have fJ:0≤(a3:Int):=oD (by assumption)
          have fF:a3<(l0.length:Int):=oD (by assumption)
          obtain⟨i1,l9,dI,dH,dG,dF,dE,dD⟩:=pE b6.out a3 fJ fF
          have gX:=dD
          have gY:=dE
          have gZ:=dF
          have g_:=dG
          have h0:=dH
          have h1:=dI
          obtain rfl:aH=i1:=(by injection l9)
          replace dI:=kC HB.out dI
          replace dH:=kC HB.out dH
          replace dG:=kC HB.out dG
          replace dF:=kC HB.out dF
          replace dE:=kC HB.out dE
          replace dD:=kC HB.out dD
          replace fJ:=eq_true fJ
          replace fF:=eq_true fF
          have fI:0≤(a3:Int):=oD (by assumption)
          have fE:a3<(l0.length:Int):=oD (by assumption)
          obtain⟨i0,l8,dC,dB,dA,d9,d8,d7⟩:=pE b6.out a3 fI fE
          have gO:=d7
          have gP:=d8
          have gQ:=d9
          have gR:=dA
          have gU:=dB
          have gV:=dC
          obtain rfl:aH=i0:=(by injection l8)
          replace dC:=kC HB.out dC
          replace dB:=kC HB.out dB
          replace dA:=kC HB.out dA
          replace d9:=kC HB.out d9
          replace d8:=kC HB.out d8
          replace d7:=kC HB.out d7
          replace fI:=eq_true fI
          replace fE:=eq_true fE
          have h7:0≤(((kA l0 a3).f2):Int):=oD (by assumption)
          have h4:(((kA l0 a3).f2):Int)<((b7.length:Int):Int):=oD (by assumption)
          obtain⟨hG,nT,jZ,hI,gl40,cl40,HG40⟩:=Kd.JZ a5.out oM
          (cases jZ)
          have o3:=am hI
          have GG40:=am HG40
          clear hI gl40 HG40
          (simp only[pW]at e4)
          obtain⟨hE,hf40_0⟩:=Kd.JH 0 a5.out (((kA l0 a3).f2):Int) h7 h4
          replace h7:=eq_true h7
          replace h4:=eq_true h4
          have fQ:=Kd.XC a5.out (((kA l0 a3).f2):Int) ((kA l0 a3).f4)
          rw[← i8.out]at fQ
          have HQ43:=am fQ
          clear fQ
          refine vC (n:=13) (S:=fun w'=>w'.cell? (aH.add ((a3).toNat*6))=some (.int .i64 ((kA l0 a3).f0))∧w'.cell? ⟨(aH.add ((a3).toNat*6)).block,(aH.add ((a3).toNat*6)).off+1,none⟩=some (.int .i64 ((kA l0 a3).f1))∧w'.cell? ⟨(aH.add ((a3).toNat*6)).block,(aH.add ((a3).toNat*6)).off+2,none⟩=some (.int .i64 ((kA l0 a3).f2))∧w'.cell? ⟨(aH.add ((a3).toNat*6)).block,(aH.add ((a3).toNat*6)).off+3,none⟩=some (.int .i64 ((kA l0 a3).f3))∧w'.cell? ⟨(aH.add ((a3).toNat*6)).block,(aH.add ((a3).toNat*6)).off+4,none⟩=some (.int .i64 ((kA l0 a3).f4))∧w'.cell? ⟨(aH.add ((a3).toNat*6)).block,(aH.add ((a3).toNat*6)).off+5,none⟩=some (.int .i64 ((kA l0 a3).f5))∧w'.cell? (aH.add ((a3).toNat*6))=some (.int .i64 ((kA l0 a3).f0))∧w'.cell? ⟨(aH.add ((a3).toNat*6)).block,(aH.add ((a3).toNat*6)).off+1,none⟩=some (.int .i64 ((kA l0 a3).f1))∧w'.cell? ⟨(aH.add ((a3).toNat*6)).block,(aH.add ((a3).toNat*6)).off+2,none⟩=some (.int .i64 ((kA l0 a3).f2))∧w'.cell? ⟨(aH.add ((a3).toNat*6)).block,(aH.add ((a3).toNat*6)).off+3,none⟩=some (.int .i64 ((kA l0 a3).f3))∧w'.cell? ⟨(aH.add ((a3).toNat*6)).block,(aH.add ((a3).toNat*6)).off+4,none⟩=some (.int .i64 ((kA l0 a3).f4))∧w'.cell? ⟨(aH.add ((a3).toNat*6)).block,(aH.add ((a3).toNat*6)).off+5,none⟩=some (.int .i64 ((kA l0 a3).f5))) (ds:=[12]) d5g (by kernel_rfl) rfl rfl ⟨(kC HB.out h1),(kC HB.out h0),(kC HB.out g_),(kC HB.out gZ),(kC HB.out gY),(kC HB.out gX),(kC HB.out gV),(kC HB.out gU),(kC HB.out gR),(kC HB.out gQ),(kC HB.out gP),(kC HB.out gO)⟩ (fun hHeld=>?_);refine uR a4d a3v (fun HT_ HW_=>?_)
          generalize wc.drew=w42 at a2 a4 a5 HB GG40 HQ43 hf40_0 e4 dI dH dG dF dE dD dC dB dA d9 d8 d7 hE hHeld ⊢
          refine pT (i:=0) (N:=some 72) d5c ?_
          refine pT (i:=1) (N:=some 73) d4y ?_
          refine pT (i:=2) (N:=some 74) d4u ?_
          refine pT (i:=3) (N:=some 75) d4q ?_
          refine pT (i:=4) (N:=some 76) d4m ?_
          refine pT (i:=6) (N:=some 78) d4i ?_
          refine pT (i:=7) (N:=some 79) d4e ?_
          refine pT (i:=8) (N:=some 80) d4a ?_
          refine pT (i:=9) (N:=some 81) d3u ?_
          refine qY (i:=5) (N:=some 77) (v:=?_) (a':=?_) c9y rfl rfl (pM HT_.out HW_.out (by kernel_rfl)) (fun _ _ _ h=>h) (Or.inl ⟨by rfl,?_⟩) hHeld ?_ ?_
          rotate_left
          ·rintro w' ⟨s0,s1,s2,s3,s4,s5,s6,s7,s8,s9,fA,f9⟩
           go_simp
           with_reducible rfl
          rotate_left
          ·exact pK
          refine qY (i:=10) (N:=some 82) (v:=?_) (a':=?_) c9u rfl rfl (pM HT_.out HW_.out (by kernel_rfl)) (fun _ _ _ h=>h) (Or.inl ⟨by rfl,?_⟩) hHeld ?_ ?_
          rotate_left
          ·rintro w' ⟨s0,s1,s2,s3,s4,s5,s6,s7,s8,s9,fA,f9⟩
           go_simp
           with_reducible rfl
          rotate_left
          ·exact pK
          refine pT (i:=11) (N:=some 83) c9q ?_
          refine d1f (i:=12) (N:=none) c9m rfl rfl (yR HT_.out (by kernel_rfl)) (by decide) (fun K hK=>?_)
          refine b0v (w1:=?_) (by rfl) rfl ?_ ?_
          rotate_left
          ·go_simp
           rfl
          refine hK.out _ _ ?_
          clear hK K
          refine a1s (a2u HT_.out (by kernel_rfl)) ?_
          try go_wp2
          go_roundg hA
          case measure=>have:=bE.out;have:=bD.out;have:=bK.out;have:=f8.out;omega
          case rel=>exact⟨j8,(wrap64 (a3+1)),rfl,H,⟨by have:=bE.out;have:=bD.out;have:=bK.out;have:=f8.out;omega⟩,⟨sR<|Kd.JC (Kd.JT (p:=⟨hG,(((kA l0 a3).f2):Int).toNat,none⟩) (Kd.YJ a2.out GG40.out (by decide)) (fun _ hk=>hk.2) (.int .i64 ((kA l0 a3).f4))) (fun _ hk=>hk.1)⟩,⟨sR<|Kd.JC (Kd.JT (p:=⟨hG,(((kA l0 a3).f2):Int).toNat,none⟩) (Kd.YJ a4.out GG40.out (by decide)) (fun _ hk=>hk.2) (.int .i64 ((kA l0 a3).f4))) (fun _ hk=>hk.1)⟩,⟨sR<|HQ43.out⟩,⟨bW⟩⟩
       generalize fV:([]:List Int)=j7 at H
       have i7:=am fV.symm;clear fV
       replace H:=am H
       go_wp2_with (((with_reducible refine pU (N:=84) rfl ?_);(try(refine wD (by rfl) ?_;dsimp only));refine Kd.YC (Kd.int .i64) _ 3 ?hg (N:=84) ?hd (xs:=([]:List Int)) (inner:=[]) (ok:=fun _=>True) (okp:=fun _=>True) ?hr ?hp (fun _ hk=>hk) trivial (Below.refl _ _) (Nat.le_refl _) (by simp) ?_;(case hd=>rfl);(case hg=>rfl);(case hr=>(go_simp;done));(case hp=>exact(Reps.none _ _));intro n2 w45 eT hb hg_ hnew_;clear hg_ hnew_;(rw[← i7.out]at eT);replace a2:=rB a2 hb;replace a4:=rB a4 hb;have iI:=am (Kd.JF (Kd.JN eT (Kd.JM (by exact sR<|a5.out))) (kG (by exact sW HB.out)));replace a5:=rE a5 eT hb;replace HB:=hB HB hb;clear hb eT))
       go_loopg [8,9] k3 (fun kq v8 v9 w' =>∃(d_:List Int) (eQ:Int),v9= .int .i64 eQ∧Aside0 (tZ kq l0 aI aJ b7 d_ eQ=some r)∧Aside0 (kq≤k3)∧Aside0 (Kd.R Kd.bool 4 w' w.heap.size (fun k_=>some k_≠(bF:Value).ownBlock) bN aI)∧Aside0 (Kd.R Kd.bool 4 w' w.heap.size (fun k_=>some k_≠(bN:Value).ownBlock) bF aJ)∧Aside0 (Kd.R (Kd.int .i64) 3 w' w.heap.size (fun k_=>some k_≠(v8:Value).ownBlock) u5 b7)∧Aside0 (Kd.R (Kd.int .i64) 3 w' w.heap.size (fun k_=>some k_≠(u5:Value).ownBlock) v8 d_)∧Aside0 (Below w.heap.size w w'))
       case atStart=>exact⟨j7,0,rfl,H,⟨Nat.le_refl _⟩,⟨sR<|a2.out⟩,⟨sR<|a4.out⟩,⟨sR<|Kd.JC a5.out (fun _ hk=>hk.2)⟩,⟨sR<|Kd.JC iI.out (fun _ hk=>hk.2)⟩,⟨sW HB.out⟩⟩
       case round=>as_aux_lemma =>
        clear H
        clear eV
        obtain⟨d_,eQ,rfl,HA,cM,a2,a4,a5,a6,HB⟩:=hrel
        cases gk with
        | zero=>cases HA.out
        | succ k4 =>
         obtain⟨H⟩:=HA
         simp only[tZ]at H
         replace H:=iD H;rcases H with⟨f_,H⟩|⟨f_,H⟩
         ·replace H:=iP H;obtain⟨iW,H⟩:=H
          have iC:=am iW
          clear iW
          generalize fU:d_++[0]=i_ at H
          have i6:=am fU.symm;clear fU
          replace H:=am H
          go_wp2_with (((with_reducible refine kZ (b:= .append) (xs:= #[.tmp 91,.tmp 92]) rfl ?_);(try(refine wD (by rfl) ?_;dsimp only));at_builtin;refine Kd.JQ (Kd.int .i64) (w0:=w) w.heap.size rfl (.tmp 91) (.tmp 92) 25 3 (.int .i64 0) 8 rfl Tryz.underlying25 a4h rfl (by decide) oM u8 d_ 0 [.int .i64 0] (fun k_=>some k_≠(u5:Value).ownBlock) (fun _=>False) rfl rfl ?aP (fun _ hk=>hk.elim) ?aF ?aO ?aB ?aS ?aL ?_;(case aP=>exact rfl);(case aB=>exact(by exact sW HB.out));(case aF=>exact(fun k_ hk=>Kd.JV (Kd.JM (by exact sR<|a5.out)) k_ hk));(case aO=>exact(by exact sR<|a6.out));(case aS=>exact(kG (by exact sW HB.out)));(case aL=>have:=iC.out;omega);intro n1 w49 ho hb hg hat;rw[← i6.out]at ho;replace a2:=oV a2 a6 hg;replace a4:=oV a4 a6 hg;replace a5:=am (Kd.JW (ok:=(fun _=>True)) (by exact sR<|Kd.JC a5.out (fun _ hk=>⟨trivial,hk⟩)) hg hat);replace HB:=am hb;have iH:=am ho;clear a6;clear ho hb hg hat))
          go_roundg k4
          case measure=>have:=bE.out;have:=bD.out;have:=bK.out;have:=cM.out;omega
          case rel=>exact⟨i_,(wrap64 (eQ+1)),rfl,H,⟨by have:=bE.out;have:=bD.out;have:=bK.out;have:=cM.out;omega⟩,⟨sR<|a2.out⟩,⟨sR<|a4.out⟩,⟨sR<|Kd.JC a5.out (fun _ hk=>hk.2)⟩,⟨sR<|iH.out⟩,⟨sW HB.out⟩⟩
         replace H:=am H
         go_wp2
         go_loopg [10] k4 (fun kq lN w' =>∃(bM:List Int) (a0:Int),lN= .int .i64 a0∧Aside0 (sV kq l0 aI aJ b7 bM a0=some r)∧Aside0 (kq≤k4)∧Aside0 (Kd.R Kd.bool 4 w' w.heap.size (fun k_=>some k_≠(bF:Value).ownBlock) bN aI)∧Aside0 (Kd.R Kd.bool 4 w' w.heap.size (fun k_=>some k_≠(bN:Value).ownBlock) bF aJ)∧Aside0 (Kd.R (Kd.int .i64) 3 w' w.heap.size (fun k_=>some k_≠(u8:Value).ownBlock) u5 b7)∧Aside0 (Kd.R (Kd.int .i64) 3 w' w.heap.size (fun k_=>some k_≠(u5:Value).ownBlock) u8 bM)∧Aside0 (Below w.heap.size w w'))
         case atStart=>exact⟨d_,0,rfl,H,⟨Nat.le_refl _⟩,⟨sR<|a2.out⟩,⟨sR<|a4.out⟩,⟨sR<|a5.out⟩,⟨sR<|a6.out⟩,⟨sW HB.out⟩⟩
         case round=>as_aux_lemma =>
          clear H
          clear f_
          obtain⟨bM,a0,rfl,HA,cV,a2,a4,a5,a6,HB⟩:=hrel
          cases gk with
          | zero=>cases HA.out
          | succ k5 =>
           obtain⟨H⟩:=HA
           simp only[sV]at H
           replace H:=iD H;rcases H with⟨fZ,H⟩|⟨fZ,H⟩
           rotate_left
           ·replace H:=am H
            go_wp2
            go_loopg [13] k5 (fun kq lL w' =>∃(aE:Int),lL= .int .i64 aE∧Aside0 (rW kq l0 aI aJ bM aE=some r)∧Aside0 (kq≤k5)∧Aside0 (Kd.R Kd.bool 4 w' w.heap.size (fun k_=>some k_≠(bF:Value).ownBlock) bN aI)∧Aside0 (Kd.R Kd.bool 4 w' w.heap.size (fun k_=>some k_≠(bN:Value).ownBlock) bF aJ)∧Aside0 (Kd.R (Kd.int .i64) 3 w' w.heap.size (fun _=>True) u8 bM)∧Aside0 (Below w.heap.size w w'))
            case atStart=>exact⟨0,rfl,H,⟨Nat.le_refl _⟩,⟨sR<|a2.out⟩,⟨sR<|a4.out⟩,⟨sR<|Kd.JC a6.out (fun _ hk=>trivial)⟩,⟨sW HB.out⟩⟩
            case round=>as_aux_lemma =>
             clear H
             clear fZ
             obtain⟨aE,rfl,HA,iY,a2,a4,a6,HB⟩:=hrel
             cases gk with
             | zero=>cases HA.out
             | succ k6 =>
              obtain⟨H⟩:=HA
              simp only[rW]at H
              replace H:=iD H;rcases H with⟨hM,H⟩|⟨hM,H⟩
              rotate_left
              ·obtain rfl:=oI H
               go_wp2
               go_ret
               exact⟨rfl,sW HB.out⟩
              replace H:=iN H;obtain⟨m7,H⟩:=H
              replace H:=iN H;obtain⟨m6,H⟩:=H
              generalize hbq100:wH false aI aE=mP at H
              have cJ:=am hbq100.symm;clear hbq100
              replace H:=iB H;rcases H with⟨rfl,H⟩|⟨rfl,H⟩
              rotate_left
              ·replace H:=am H
               obtain⟨mT,lY,rfl⟩:=Kd.JB a2.out
               have bH:0≤(aE:Int):=oD (by assumption)
               have bG:aE<(aI.length:Int):=oD (by assumption)
               obtain⟨eW,dV,bA⟩:=Kd.JJ (Kd.JA a2.out).2.2 aE bH bG
               (try rw[← cJ.out]at bA)
               cases dV
               replace bH:=eq_true bH
               replace bG:=eq_true bG
               exact b8c
              replace H:=iN H;obtain⟨lQ,H⟩:=H
              generalize hbq103:wH false aJ aE=mO at H
              have cT:=am hbq103.symm;clear hbq103
              replace H:=iB H;rcases H with⟨rfl,H⟩|⟨rfl,H⟩
              rotate_left
              ·replace H:=am H
               obtain⟨mV,l_,rfl⟩:=Kd.JB a2.out
               have bH:0≤(aE:Int):=oD (by assumption)
               have bG:aE<(aI.length:Int):=oD (by assumption)
               obtain⟨eW,dV,bA⟩:=Kd.JJ (Kd.JA a2.out).2.2 aE bH bG
               (try rw[← cJ.out]at bA)
               (try rw[← cT.out]at bA)
               cases dV
               replace bH:=eq_true bH
               replace bG:=eq_true bG
               obtain⟨mU,lZ,rfl⟩:=Kd.JB a4.out
               have cG:0≤(aE:Int):=oD (by assumption)
               have cC:aE<(aJ.length:Int):=oD (by assumption)
               obtain⟨g1,e8,bI⟩:=Kd.JJ (Kd.JA a4.out).2.2 aE cG cC
               (try rw[← cJ.out]at bI)
               (try rw[← cT.out]at bI)
               cases e8
               replace cG:=eq_true cG
               replace cC:=eq_true cC
               exact b8c
              replace H:=iN H;obtain⟨lP,H⟩:=H
              by_cases e6:(rd bM aE)>1
              ·rw[if_pos e6]at H
               have hJ:decide (1<(rd bM aE))=true:=decide_eq_true e6
               clear e6
               obtain rfl:=oI H
               obtain⟨n0,m5,rfl⟩:=Kd.JB a2.out
               have bH:0≤(aE:Int):=oD (by assumption)
               have bG:aE<(aI.length:Int):=oD (by assumption)
               obtain⟨eW,dV,bA⟩:=Kd.JJ (Kd.JA a2.out).2.2 aE bH bG
               (try rw[← cJ.out]at bA)
               (try rw[← cT.out]at bA)
               cases dV
               replace bH:=eq_true bH
               replace bG:=eq_true bG
               obtain⟨m_,m4,rfl⟩:=Kd.JB a4.out
               have cG:0≤(aE:Int):=oD (by assumption)
               have cC:aE<(aJ.length:Int):=oD (by assumption)
               obtain⟨g1,e8,bI⟩:=Kd.JJ (Kd.JA a4.out).2.2 aE cG cC
               (try rw[← cJ.out]at bI)
               (try rw[← cT.out]at bI)
               cases e8
               replace cG:=eq_true cG
               replace cC:=eq_true cC
               obtain⟨mZ,m3,rfl⟩:=Kd.JB a6.out
               obtain⟨jL,jG,hW,rfl,g6⟩:=ix (Kd.JD (Kd.JA a6.out).2.2 aE)
               go_wp2
               go_ret
               exact⟨rfl,sW HB.out⟩
              rw[if_neg e6]at H
              have hJ:decide (1<(rd bM aE))=false:=decide_eq_false e6
              clear e6
              replace H:=am H
              obtain⟨mY,m2,rfl⟩:=Kd.JB a2.out
              have bH:0≤(aE:Int):=oD (by assumption)
              have bG:aE<(aI.length:Int):=oD (by assumption)
              obtain⟨eW,dV,bA⟩:=Kd.JJ (Kd.JA a2.out).2.2 aE bH bG
              (try rw[← cJ.out]at bA)
              (try rw[← cT.out]at bA)
              cases dV
              replace bH:=eq_true bH
              replace bG:=eq_true bG
              obtain⟨mX,m1,rfl⟩:=Kd.JB a4.out
              have cG:0≤(aE:Int):=oD (by assumption)
              have cC:aE<(aJ.length:Int):=oD (by assumption)
              obtain⟨g1,e8,bI⟩:=Kd.JJ (Kd.JA a4.out).2.2 aE cG cC
              (try rw[← cJ.out]at bI)
              (try rw[← cT.out]at bI)
              cases e8
              replace cG:=eq_true cG
              replace cC:=eq_true cC
              obtain⟨mW,m0,rfl⟩:=Kd.JB a6.out
              obtain⟨jL,jG,hW,rfl,g6⟩:=ix (Kd.JD (Kd.JA a6.out).2.2 aE)
              exact b8c
           replace H:=iN H;obtain⟨mH,H⟩:=H
           replace H:=iN H;obtain⟨mG,H⟩:=H
           generalize hbq53:wH false aI a0=o0 at H
           have dJ:=am hbq53.symm;clear hbq53
           replace H:=iB H;rcases H with⟨rfl,H⟩|⟨rfl,H⟩
           rotate_left
           ·replace H:=am H
            obtain⟨o4,nF,rfl⟩:=Kd.JB a2.out
            have dS:0≤(a0:Int):=oD (by assumption)
            have dN:a0<(aI.length:Int):=oD (by assumption)
            obtain⟨dZ,fN,e3⟩:=Kd.JJ (Kd.JA a2.out).2.2 a0 dS dN
            (try rw[← dJ.out]at e3)
            cases fN
            replace dS:=eq_true dS
            replace dN:=eq_true dN
            go_wp2
            go_roundg k5
            case measure=>have:=bE.out;have:=bD.out;have:=bK.out;have:=cM.out;have:=cV.out;omega
            case rel=>exact⟨bM,(wrap64 (a0+1)),rfl,H,⟨by have:=bE.out;have:=bD.out;have:=bK.out;have:=cM.out;have:=cV.out;omega⟩,⟨sR<|a2.out⟩,⟨sR<|a4.out⟩,⟨sR<|a5.out⟩,⟨sR<|a6.out⟩,⟨sW HB.out⟩⟩
           have fR:=am H;clear H
           obtain⟨oJ,eU,rfl⟩:=Kd.JB a2.out
           have dS:0≤(a0:Int):=oD (by assumption)
           have dN:a0<(aI.length:Int):=oD (by assumption)
           obtain⟨dZ,fN,e3⟩:=Kd.JJ (Kd.JA a2.out).2.2 a0 dS dN
           (try rw[← dJ.out]at e3)
           cases fN
           replace dS:=eq_true dS
           replace dN:=eq_true dN
           go_upto_region 25 with(fail)
           go_cut [141] (fun jB wc =>∃(kq:Nat) (e1:Bool),jB= .bool e1∧Aside0 (qS kq l0 aI aJ b7 bM a0 e1=some r)∧Aside0 (kq≤k5)∧Aside0 (Kd.R Kd.bool 4 wc w.heap.size (fun k_=>some k_≠(bF:Value).ownBlock) (.slice (some dZ) aI.length eU) aI)∧Aside0 (Kd.R Kd.bool 4 wc w.heap.size (fun k_=>some k_≠((.slice (some dZ) aI.length eU):Value).ownBlock) bF aJ)∧Aside0 (Kd.R (Kd.int .i64) 3 wc w.heap.size (fun k_=>some k_≠(u8:Value).ownBlock) u5 b7)∧Aside0 (Kd.R (Kd.int .i64) 3 wc w.heap.size (fun k_=>some k_≠(u5:Value).ownBlock) u8 bM)∧Aside0 (Below w.heap.size w wc))
           case first=>as_aux_lemma =>
            have H:=fR.out
            clear fR
            replace H:=iE H;rcases H with⟨hT,hS,H⟩|⟨hT,hS,H⟩
            rotate_left
            ·replace H:=iN H;obtain⟨mC,H⟩:=H
             generalize hbq74:wH false aJ a0=nZ at H
             have g2:=am hbq74.symm;clear hbq74
             replace H:=iB H;rcases H with⟨rfl,H⟩|⟨rfl,H⟩
             rotate_left
             ·replace H:=am H
              try go_wp2
              replace a2:=am (Kd.JR a2.out)
              replace a4:=am (Kd.JR a4.out)
              replace a5:=am (Kd.JR a5.out)
              replace a6:=am (Kd.JR a6.out)
              replace HB:=am (kQ HB.out)
              have b9:0≤(a0:Int):=oD (by assumption)
              have b8:a0<(l0.length:Int):=oD (by assumption)
              obtain⟨a1,cU,aD,aC,aA,a9,a8,a7⟩:=pE b6.out a0 b9 b8
              have b0:=a7
              have b1:=a8
              have b2:=a9
              have b3:=aA
              have b4:=aC
              have b5:=aD
              cases cU
              replace aD:=kC HB.out aD
              replace aC:=kC HB.out aC
              replace aA:=kC HB.out aA
              replace a9:=kC HB.out a9
              replace a8:=kC HB.out a8
              replace a7:=kC HB.out a7
              replace b9:=eq_true b9
              replace b8:=eq_true b8
              obtain⟨o8,nK,jS⟩:=Kd.JB a4.out
              (subst jS)
              have dP:0≤(a0:Int):=oD (by assumption)
              have dL:a0<(aJ.length:Int):=oD (by assumption)
              obtain⟨eY,fL,bB⟩:=Kd.JJ (Kd.JA a4.out).2.2 a0 dP dL
              (try rw[← dJ.out]at bB)
              (try rw[← g2.out]at bB)
              cases fL
              replace dP:=eq_true dP
              replace dL:=eq_true dL
              refine vC (n:=37) (S:=fun w'=>w'.cell? (a1.add ((a0).toNat*6))=some (.int .i64 ((kA l0 a0).f0))∧w'.cell? ⟨(a1.add ((a0).toNat*6)).block,(a1.add ((a0).toNat*6)).off+1,none⟩=some (.int .i64 ((kA l0 a0).f1))∧w'.cell? ⟨(a1.add ((a0).toNat*6)).block,(a1.add ((a0).toNat*6)).off+2,none⟩=some (.int .i64 ((kA l0 a0).f2))∧w'.cell? ⟨(a1.add ((a0).toNat*6)).block,(a1.add ((a0).toNat*6)).off+3,none⟩=some (.int .i64 ((kA l0 a0).f3))∧w'.cell? ⟨(a1.add ((a0).toNat*6)).block,(a1.add ((a0).toNat*6)).off+4,none⟩=some (.int .i64 ((kA l0 a0).f4))∧w'.cell? ⟨(a1.add ((a0).toNat*6)).block,(a1.add ((a0).toNat*6)).off+5,none⟩=some (.int .i64 ((kA l0 a0).f5))∧w'.cell? (eY.add (a0).toNat)=some (.bool false)) (ds:=[]) a7n (by kernel_rfl) rfl rfl ⟨(kC HB.out b5),(kC HB.out b4),(kC HB.out b3),(kC HB.out b2),(kC HB.out b1),(kC HB.out b0),bB⟩ (fun hHeld=>?_);refine uR uY uE (fun HT_ HW_=>?_)
              generalize wr.drew=w79 at a2 a4 a5 a6 HB aD aC aA a9 a8 a7 bB hHeld ⊢
              refine pT (i:=0) (N:=some 105) a7m ?_
              refine pT (i:=1) (N:=some 106) a7l ?_
              refine pT (i:=2) (N:=some 107) a7k ?_
              refine pT (i:=3) (N:=some 108) a7j ?_
              refine qY (i:=4) (N:=some 109) (v:=?_) (a':=?_) a7i rfl rfl (pM HT_.out HW_.out (by kernel_rfl)) (fun _ _ _ h=>h) (Or.inl ⟨by rfl,?_⟩) hHeld ?_ ?_
              rotate_left
              ·rintro w' ⟨s0,s1,s2,s3,s4,s5,s6⟩
               go_simp
               with_reducible rfl
              rotate_left
              ·exact pK
              refine pT (i:=5) (N:=some 110) a7h ?_
              refine pT (i:=6) (N:=some 111) a7g ?_
              refine qO (i:=7) (N:=some 112) (v:=undef) (a':=?_) a7f rfl rfl (qZ HT_.out (by kernel_rfl)) (fun _ _ _ h=>h) (Or.inr ⟨by rfl,rfl⟩) ?_ ?_
              rotate_left
              ·exact pK
              refine qO (i:=8) (N:=some 113) (v:=undef) (a':=?_) a7e rfl rfl (qZ HT_.out (by kernel_rfl)) (fun _ _ _ h=>h) (Or.inr ⟨by rfl,rfl⟩) ?_ ?_
              rotate_left
              ·exact pK
              refine qO (i:=9) (N:=some 114) (v:=undef) (a':=?_) a7d rfl rfl (qZ HT_.out (by kernel_rfl)) (fun _ _ _ h=>h) (Or.inr ⟨by rfl,rfl⟩) ?_ ?_
              rotate_left
              ·exact pK
              refine qO (i:=10) (N:=some 115) (v:=undef) (a':=?_) a7c rfl rfl (qZ HT_.out (by kernel_rfl)) (fun _ _ _ h=>h) (Or.inr ⟨by rfl,rfl⟩) ?_ ?_
              rotate_left
              ·exact pK
              refine qO (i:=11) (N:=some 116) (v:=undef) (a':=?_) a7b rfl rfl (qZ HT_.out (by kernel_rfl)) (fun _ _ _ h=>h) (Or.inr ⟨by rfl,rfl⟩) ?_ ?_
              rotate_left
              ·exact pK
              refine qO (i:=12) (N:=some 117) (v:=undef) (a':=?_) b8p rfl rfl (qZ HT_.out (by kernel_rfl)) (fun _ _ _ h=>h) (Or.inr ⟨by rfl,rfl⟩) ?_ ?_
              rotate_left
              ·exact pK
              refine qO (i:=13) (N:=some 118) (v:=undef) (a':=?_) b8o rfl rfl (qZ HT_.out (by kernel_rfl)) (fun _ _ _ h=>h) (Or.inr ⟨by rfl,rfl⟩) ?_ ?_
              rotate_left
              ·exact pK
              refine qO (i:=14) (N:=some 119) (v:=undef) (a':=?_) b8n rfl rfl (qZ HT_.out (by kernel_rfl)) (fun _ _ _ h=>h) (Or.inr ⟨by rfl,rfl⟩) ?_ ?_
              rotate_left
              ·exact pK
              refine qO (i:=15) (N:=some 120) (v:=undef) (a':=?_) b8m rfl rfl (qZ HT_.out (by kernel_rfl)) (fun _ _ _ h=>h) (Or.inr ⟨by rfl,rfl⟩) ?_ ?_
              rotate_left
              ·exact pK
              refine qO (i:=16) (N:=some 121) (v:=undef) (a':=?_) b8l rfl rfl (qZ HT_.out (by kernel_rfl)) (fun _ _ _ h=>h) (Or.inr ⟨by rfl,rfl⟩) ?_ ?_
              rotate_left
              ·exact pK
              refine qO (i:=17) (N:=some 122) (v:=undef) (a':=?_) b8k rfl rfl (qZ HT_.out (by kernel_rfl)) (fun _ _ _ h=>h) (Or.inr ⟨by rfl,rfl⟩) ?_ ?_
              rotate_left
              ·exact pK
              refine qO (i:=18) (N:=some 123) (v:=undef) (a':=?_) a7a rfl rfl (qZ HT_.out (by kernel_rfl)) (fun _ _ _ h=>h) (Or.inr ⟨by rfl,rfl⟩) ?_ ?_
              rotate_left
              ·exact pK
              refine qO (i:=19) (N:=some 124) (v:=undef) (a':=?_) a6z rfl rfl (qZ HT_.out (by kernel_rfl)) (fun _ _ _ h=>h) (Or.inr ⟨by rfl,rfl⟩) ?_ ?_
              rotate_left
              ·exact pK
              refine qO (i:=20) (N:=some 125) (v:=undef) (a':=?_) a6y rfl rfl (qZ HT_.out (by kernel_rfl)) (fun _ _ _ h=>h) (Or.inr ⟨by rfl,rfl⟩) ?_ ?_
              rotate_left
              ·exact pK
              refine pT (i:=21) (N:=some 126) a6x ?_
              refine pT (i:=22) (N:=some 127) a6w ?_
              refine pT (i:=23) (N:=some 128) a6v ?_
              refine pT (i:=24) (N:=some 129) a6u ?_
              refine pT (i:=25) (N:=some 130) a6t ?_
              refine qY (i:=26) (N:=some 131) (v:=?_) (a':=?_) a6s rfl rfl (pM HT_.out HW_.out (by kernel_rfl)) (fun _ _ _ h=>h) (Or.inl ⟨by rfl,?_⟩) hHeld ?_ ?_
              rotate_left
              ·rintro w' ⟨s0,s1,s2,s3,s4,s5,s6⟩
               go_simp
               with_reducible rfl
              rotate_left
              ·exact pK
              exact c5s
             replace H:=oA H;obtain⟨jC,lS,H⟩:=H
             replace H:=am H
             try go_wp2
             replace a2:=am (Kd.JR a2.out)
             replace a4:=am (Kd.JR a4.out)
             replace a5:=am (Kd.JR a5.out)
             replace a6:=am (Kd.JR a6.out)
             replace HB:=am (kQ HB.out)
             have b9:0≤(a0:Int):=oD (by assumption)
             have b8:a0<(l0.length:Int):=oD (by assumption)
             obtain⟨a1,cU,aD,aC,aA,a9,a8,a7⟩:=pE b6.out a0 b9 b8
             have b0:=a7
             have b1:=a8
             have b2:=a9
             have b3:=aA
             have b4:=aC
             have b5:=aD
             cases cU
             replace aD:=kC HB.out aD
             replace aC:=kC HB.out aC
             replace aA:=kC HB.out aA
             replace a9:=kC HB.out a9
             replace a8:=kC HB.out a8
             replace a7:=kC HB.out a7
             replace b9:=eq_true b9
             replace b8:=eq_true b8
             obtain⟨o9,nL,jT⟩:=Kd.JB a4.out
             (subst jT)
             have dP:0≤(a0:Int):=oD (by assumption)
             have dL:a0<(aJ.length:Int):=oD (by assumption)
             obtain⟨eY,fL,bB⟩:=Kd.JJ (Kd.JA a4.out).2.2 a0 dP dL
             (try rw[← dJ.out]at bB)
             (try rw[← g2.out]at bB)
             cases fL
             replace dP:=eq_true dP
             replace dL:=eq_true dL
             have fG:0≤(a0:Int):=oD (by assumption)
             have fC:a0<(l0.length:Int):=oD (by assumption)
             obtain⟨hZ,l6,d0,c_,cZ,cY,cX,cW⟩:=pE b6.out a0 fG fC
             have eD:=cW
             have eE:=cX
             have eF:=cY
             have eG:=cZ
             have eH:=c_
             have eI:=d0
             obtain rfl:a1=hZ:=(by injection l6)
             replace d0:=kC HB.out d0
             replace c_:=kC HB.out c_
             replace cZ:=kC HB.out cZ
             replace cY:=kC HB.out cY
             replace cX:=kC HB.out cX
             replace cW:=kC HB.out cW
             replace fG:=eq_true fG
             replace fC:=eq_true fC
             refine vC (n:=37) (S:=fun w'=>w'.cell? (a1.add ((a0).toNat*6))=some (.int .i64 ((kA l0 a0).f0))∧w'.cell? ⟨(a1.add ((a0).toNat*6)).block,(a1.add ((a0).toNat*6)).off+1,none⟩=some (.int .i64 ((kA l0 a0).f1))∧w'.cell? ⟨(a1.add ((a0).toNat*6)).block,(a1.add ((a0).toNat*6)).off+2,none⟩=some (.int .i64 ((kA l0 a0).f2))∧w'.cell? ⟨(a1.add ((a0).toNat*6)).block,(a1.add ((a0).toNat*6)).off+3,none⟩=some (.int .i64 ((kA l0 a0).f3))∧w'.cell? ⟨(a1.add ((a0).toNat*6)).block,(a1.add ((a0).toNat*6)).off+4,none⟩=some (.int .i64 ((kA l0 a0).f4))∧w'.cell? ⟨(a1.add ((a0).toNat*6)).block,(a1.add ((a0).toNat*6)).off+5,none⟩=some (.int .i64 ((kA l0 a0).f5))∧w'.cell? (eY.add (a0).toNat)=some (.bool true)∧w'.cell? (a1.add ((a0).toNat*6))=some (.int .i64 ((kA l0 a0).f0))∧w'.cell? ⟨(a1.add ((a0).toNat*6)).block,(a1.add ((a0).toNat*6)).off+1,none⟩=some (.int .i64 ((kA l0 a0).f1))∧w'.cell? ⟨(a1.add ((a0).toNat*6)).block,(a1.add ((a0).toNat*6)).off+2,none⟩=some (.int .i64 ((kA l0 a0).f2))∧w'.cell? ⟨(a1.add ((a0).toNat*6)).block,(a1.add ((a0).toNat*6)).off+3,none⟩=some (.int .i64 ((kA l0 a0).f3))∧w'.cell? ⟨(a1.add ((a0).toNat*6)).block,(a1.add ((a0).toNat*6)).off+4,none⟩=some (.int .i64 ((kA l0 a0).f4))∧w'.cell? ⟨(a1.add ((a0).toNat*6)).block,(a1.add ((a0).toNat*6)).off+5,none⟩=some (.int .i64 ((kA l0 a0).f5))) (ds:=[]) a7n (by kernel_rfl) rfl rfl ⟨(kC HB.out b5),(kC HB.out b4),(kC HB.out b3),(kC HB.out b2),(kC HB.out b1),(kC HB.out b0),bB,(kC HB.out eI),(kC HB.out eH),(kC HB.out eG),(kC HB.out eF),(kC HB.out eE),(kC HB.out eD)⟩ (fun hHeld=>?_);refine uR uY uE (fun HT_ HW_=>?_)
             generalize wr.drew=w77 at a2 a4 a5 a6 HB aD aC aA a9 a8 a7 bB d0 c_ cZ cY cX cW hHeld ⊢
             refine pT (i:=0) (N:=some 105) a7m ?_
             refine pT (i:=1) (N:=some 106) a7l ?_
             refine pT (i:=2) (N:=some 107) a7k ?_
             refine pT (i:=3) (N:=some 108) a7j ?_
             refine qY (i:=4) (N:=some 109) (v:=?_) (a':=?_) a7i rfl rfl (pM HT_.out HW_.out (by kernel_rfl)) (fun _ _ _ h=>h) (Or.inl ⟨by rfl,?_⟩) hHeld ?_ ?_
             rotate_left
             ·exact b7w
             rotate_left
             ·exact pK
             refine pT (i:=5) (N:=some 110) a7h ?_
             refine pT (i:=6) (N:=some 111) a7g ?_
             refine qO (i:=7) (N:=some 112) (v:=undef) (a':=?_) a7f rfl rfl (qZ HT_.out (by kernel_rfl)) (fun _ _ _ h=>h) (Or.inr ⟨by rfl,rfl⟩) ?_ ?_
             rotate_left
             ·exact pK
             refine qO (i:=8) (N:=some 113) (v:=undef) (a':=?_) a7e rfl rfl (qZ HT_.out (by kernel_rfl)) (fun _ _ _ h=>h) (Or.inr ⟨by rfl,rfl⟩) ?_ ?_
             rotate_left
             ·exact pK
             refine qO (i:=9) (N:=some 114) (v:=undef) (a':=?_) a7d rfl rfl (qZ HT_.out (by kernel_rfl)) (fun _ _ _ h=>h) (Or.inr ⟨by rfl,rfl⟩) ?_ ?_
             rotate_left
             ·exact pK
             refine qO (i:=10) (N:=some 115) (v:=undef) (a':=?_) a7c rfl rfl (qZ HT_.out (by kernel_rfl)) (fun _ _ _ h=>h) (Or.inr ⟨by rfl,rfl⟩) ?_ ?_
             rotate_left
             ·exact pK
             refine qO (i:=11) (N:=some 116) (v:=undef) (a':=?_) a7b rfl rfl (qZ HT_.out (by kernel_rfl)) (fun _ _ _ h=>h) (Or.inr ⟨by rfl,rfl⟩) ?_ ?_
             rotate_left
             ·exact pK
             refine qO (i:=12) (N:=some 117) (v:=undef) (a':=?_) b8p rfl rfl (qZ HT_.out (by kernel_rfl)) (fun _ _ _ h=>h) (Or.inr ⟨by rfl,rfl⟩) ?_ ?_
             rotate_left
             ·exact pK
             refine qO (i:=13) (N:=some 118) (v:=undef) (a':=?_) b8o rfl rfl (qZ HT_.out (by kernel_rfl)) (fun _ _ _ h=>h) (Or.inr ⟨by rfl,rfl⟩) ?_ ?_
             rotate_left
             ·exact pK
             refine qO (i:=14) (N:=some 119) (v:=undef) (a':=?_) b8n rfl rfl (qZ HT_.out (by kernel_rfl)) (fun _ _ _ h=>h) (Or.inr ⟨by rfl,rfl⟩) ?_ ?_
             rotate_left
             ·exact pK
             refine qO (i:=15) (N:=some 120) (v:=undef) (a':=?_) b8m rfl rfl (qZ HT_.out (by kernel_rfl)) (fun _ _ _ h=>h) (Or.inr ⟨by rfl,rfl⟩) ?_ ?_
             rotate_left
             ·exact pK
             refine qO (i:=16) (N:=some 121) (v:=undef) (a':=?_) b8l rfl rfl (qZ HT_.out (by kernel_rfl)) (fun _ _ _ h=>h) (Or.inr ⟨by rfl,rfl⟩) ?_ ?_
             rotate_left
             ·exact pK
             refine qO (i:=17) (N:=some 122) (v:=undef) (a':=?_) b8k rfl rfl (qZ HT_.out (by kernel_rfl)) (fun _ _ _ h=>h) (Or.inr ⟨by rfl,rfl⟩) ?_ ?_
             rotate_left
             ·exact pK
             refine qO (i:=18) (N:=some 123) (v:=undef) (a':=?_) a7a rfl rfl (qZ HT_.out (by kernel_rfl)) (fun _ _ _ h=>h) (Or.inr ⟨by rfl,rfl⟩) ?_ ?_
             rotate_left
             ·exact pK
             refine qO (i:=19) (N:=some 124) (v:=undef) (a':=?_) a6z rfl rfl (qZ HT_.out (by kernel_rfl)) (fun _ _ _ h=>h) (Or.inr ⟨by rfl,rfl⟩) ?_ ?_
             rotate_left
             ·exact pK
             refine qO (i:=20) (N:=some 125) (v:=undef) (a':=?_) a6y rfl rfl (qZ HT_.out (by kernel_rfl)) (fun _ _ _ h=>h) (Or.inr ⟨by rfl,rfl⟩) ?_ ?_
             rotate_left
             ·exact pK
             refine pT (i:=21) (N:=some 126) a6x ?_
             refine pT (i:=22) (N:=some 127) a6w ?_
             refine pT (i:=23) (N:=some 128) a6v ?_
             refine pT (i:=24) (N:=some 129) a6u ?_
             refine pT (i:=25) (N:=some 130) a6t ?_
             refine qY (i:=26) (N:=some 131) (v:=?_) (a':=?_) a6s rfl rfl (pM HT_.out HW_.out (by kernel_rfl)) (fun _ _ _ h=>h) (Or.inl ⟨by rfl,?_⟩) hHeld ?_ ?_
             rotate_left
             ·exact b7w
             rotate_left
             ·exact pK
             refine pT (i:=27) (N:=some 132) b0r ?_
             refine pT (i:=28) (N:=some 133) b0q ?_
             refine pT (i:=29) (N:=some 134) b0p ?_
             refine pT (i:=30) (N:=some 135) b0o ?_
             refine pT (i:=31) (N:=some 136) b0n ?_
             refine qY (i:=32) (N:=some 137) (v:=?_) (a':=?_) b0m rfl rfl (pM HT_.out HW_.out (by kernel_rfl)) (fun _ _ _ h=>h) (Or.inl ⟨by rfl,?_⟩) hHeld ?_ ?_
             rotate_left
             ·exact b7w
             rotate_left
             ·exact pK
             refine a1t (i:=33) (N:=some 138) b0l rfl rfl (yR HT_.out (by kernel_rfl)) (by decide) (fun K hK=>?_)
             refine a1g Tryz.func109 (by kernel_rfl) rfl #[.int .i64 ((kA l0 a0).f0)] (by rfl) rfl rfl tm ?_
             with_reducible refine(KNi lS.out).mono ?_
             rintro e w' ⟨rfl,⟨nd,rfl⟩⟩
             refine⟨_,rfl,?_⟩
             refine hK.out _ _ ⟨(kC HB.out b5),(kC HB.out b4),(kC HB.out b3),(kC HB.out b2),(kC HB.out b1),(kC HB.out b0),hHeld.2.2.2.2.2.2.1,(kC HB.out eI),(kC HB.out eH),(kC HB.out eG),(kC HB.out eF),(kC HB.out eE),(kC HB.out eD)⟩ (fun hHeld=>?_)
             clear hK K
             refine vA (a':=?_) ?_ ?_
             rotate_left
             ·show Act.put _ (some 138) _=_
              exact pK
             refine pT (i:=34) (N:=some 139) b0k ?_
             refine pT (i:=35) (N:=some 140) b0j ?_
             refine pT (i:=36) (N:=some 141) b0i ?_
             refine a1s (a2u HT_.out (by kernel_rfl)) ?_
             try go_wp2
             go_meet
             case rel=>exact⟨_,(!jC),rfl,H,⟨by have:=bE.out;have:=bD.out;have:=bK.out;have:=cM.out;have:=cV.out;omega⟩,⟨sR<|a2.out⟩,⟨sR<|a4.out⟩,⟨sR<|a5.out⟩,⟨sR<|a6.out⟩,⟨sW HB.out⟩⟩
            replace H:=iN H;obtain⟨mF,H⟩:=H
            replace H:=iN H;obtain⟨mE,H⟩:=H
            replace H:=iE H;rcases H with⟨hR,hQ,H⟩|⟨hR,hQ,H⟩
            rotate_left
            ·replace H:=am H
             try go_wp2
             replace a2:=am (Kd.JR a2.out)
             replace a4:=am (Kd.JR a4.out)
             replace a5:=am (Kd.JR a5.out)
             replace a6:=am (Kd.JR a6.out)
             replace HB:=am (kQ HB.out)
             have b9:0≤(a0:Int):=oD (by assumption)
             have b8:a0<(l0.length:Int):=oD (by assumption)
             obtain⟨a1,cU,aD,aC,aA,a9,a8,a7⟩:=pE b6.out a0 b9 b8
             have b0:=a7
             have b1:=a8
             have b2:=a9
             have b3:=aA
             have b4:=aC
             have b5:=aD
             cases cU
             replace aD:=kC HB.out aD
             replace aC:=kC HB.out aC
             replace aA:=kC HB.out aA
             replace a9:=kC HB.out a9
             replace a8:=kC HB.out a8
             replace a7:=kC HB.out a7
             replace b9:=eq_true b9
             replace b8:=eq_true b8
             have cI:0≤(a0:Int):=oD (by assumption)
             have cF:a0<(l0.length:Int):=oD (by assumption)
             obtain⟨dY,eA,aZ,aY,aX,aW,aV,aU⟩:=pE b6.out a0 cI cF
             have bU:=aU
             have bV:=aV
             have bZ:=aW
             have b_:=aX
             have c1:=aY
             have cB:=aZ
             obtain rfl:a1=dY:=(by injection eA)
             replace aZ:=kC HB.out aZ
             replace aY:=kC HB.out aY
             replace aX:=kC HB.out aX
             replace aW:=kC HB.out aW
             replace aV:=kC HB.out aV
             replace aU:=kC HB.out aU
             replace cI:=eq_true cI
             replace cF:=eq_true cF
             obtain⟨oC,nM,jU⟩:=Kd.JB a5.out
             (subst jU)
             obtain⟨h8,h5,dX,rfl,bJ⟩:=ix (Kd.JD (Kd.JA a5.out).2.2 ((kA l0 a0).f2))
             have cH:0≤(a0:Int):=oD (by assumption)
             have cE:a0<(l0.length:Int):=oD (by assumption)
             obtain⟨dW,e9,aT,aR,aQ,aN,aM,aK⟩:=pE b6.out a0 cH cE
             have bO:=aK
             have bP:=aM
             have bQ:=aN
             have bR:=aQ
             have bS:=aR
             have bT:=aT
             obtain rfl:a1=dW:=(by injection e9)
             replace aT:=kC HB.out aT
             replace aR:=kC HB.out aR
             replace aQ:=kC HB.out aQ
             replace aN:=kC HB.out aN
             replace aM:=kC HB.out aM
             replace aK:=kC HB.out aK
             replace cH:=eq_true cH
             replace cE:=eq_true cE
             refine vC (n:=37) (S:=fun w'=>w'.cell? (a1.add ((a0).toNat*6))=some (.int .i64 ((kA l0 a0).f0))∧w'.cell? ⟨(a1.add ((a0).toNat*6)).block,(a1.add ((a0).toNat*6)).off+1,none⟩=some (.int .i64 ((kA l0 a0).f1))∧w'.cell? ⟨(a1.add ((a0).toNat*6)).block,(a1.add ((a0).toNat*6)).off+2,none⟩=some (.int .i64 ((kA l0 a0).f2))∧w'.cell? ⟨(a1.add ((a0).toNat*6)).block,(a1.add ((a0).toNat*6)).off+3,none⟩=some (.int .i64 ((kA l0 a0).f3))∧w'.cell? ⟨(a1.add ((a0).toNat*6)).block,(a1.add ((a0).toNat*6)).off+4,none⟩=some (.int .i64 ((kA l0 a0).f4))∧w'.cell? ⟨(a1.add ((a0).toNat*6)).block,(a1.add ((a0).toNat*6)).off+5,none⟩=some (.int .i64 ((kA l0 a0).f5))∧w'.cell? (a1.add ((a0).toNat*6))=some (.int .i64 ((kA l0 a0).f0))∧w'.cell? ⟨(a1.add ((a0).toNat*6)).block,(a1.add ((a0).toNat*6)).off+1,none⟩=some (.int .i64 ((kA l0 a0).f1))∧w'.cell? ⟨(a1.add ((a0).toNat*6)).block,(a1.add ((a0).toNat*6)).off+2,none⟩=some (.int .i64 ((kA l0 a0).f2))∧w'.cell? ⟨(a1.add ((a0).toNat*6)).block,(a1.add ((a0).toNat*6)).off+3,none⟩=some (.int .i64 ((kA l0 a0).f3))∧w'.cell? ⟨(a1.add ((a0).toNat*6)).block,(a1.add ((a0).toNat*6)).off+4,none⟩=some (.int .i64 ((kA l0 a0).f4))∧w'.cell? ⟨(a1.add ((a0).toNat*6)).block,(a1.add ((a0).toNat*6)).off+5,none⟩=some (.int .i64 ((kA l0 a0).f5))∧w'.cell? (dX.add (((kA l0 a0).f2)).toNat)=some (.int .i64 (rd b7 ((kA l0 a0).f2)))∧w'.cell? (a1.add ((a0).toNat*6))=some (.int .i64 ((kA l0 a0).f0))∧w'.cell? ⟨(a1.add ((a0).toNat*6)).block,(a1.add ((a0).toNat*6)).off+1,none⟩=some (.int .i64 ((kA l0 a0).f1))∧w'.cell? ⟨(a1.add ((a0).toNat*6)).block,(a1.add ((a0).toNat*6)).off+2,none⟩=some (.int .i64 ((kA l0 a0).f2))∧w'.cell? ⟨(a1.add ((a0).toNat*6)).block,(a1.add ((a0).toNat*6)).off+3,none⟩=some (.int .i64 ((kA l0 a0).f3))∧w'.cell? ⟨(a1.add ((a0).toNat*6)).block,(a1.add ((a0).toNat*6)).off+4,none⟩=some (.int .i64 ((kA l0 a0).f4))∧w'.cell? ⟨(a1.add ((a0).toNat*6)).block,(a1.add ((a0).toNat*6)).off+5,none⟩=some (.int .i64 ((kA l0 a0).f5))) (ds:=[]) a7n (by kernel_rfl) rfl rfl ⟨(kC HB.out b5),(kC HB.out b4),(kC HB.out b3),(kC HB.out b2),(kC HB.out b1),(kC HB.out b0),(kC HB.out cB),(kC HB.out c1),(kC HB.out b_),(kC HB.out bZ),(kC HB.out bV),(kC HB.out bU),bJ,(kC HB.out bT),(kC HB.out bS),(kC HB.out bR),(kC HB.out bQ),(kC HB.out bP),(kC HB.out bO)⟩ (fun hHeld=>?_);refine uR uY uE (fun HT_ HW_=>?_)
             generalize wr.drew=w71 at a2 a4 a5 a6 HB aD aC aA a9 a8 a7 aZ aY aX aW aV aU bJ aT aR aQ aN aM aK hHeld ⊢
             refine pT (i:=0) (N:=some 105) a7m ?_
             refine pT (i:=1) (N:=some 106) a7l ?_
             refine pT (i:=2) (N:=some 107) a7k ?_
             refine pT (i:=3) (N:=some 108) a7j ?_
             refine qY (i:=4) (N:=some 109) (v:=?_) (a':=?_) a7i rfl rfl (pM HT_.out HW_.out (by kernel_rfl)) (fun _ _ _ h=>h) (Or.inl ⟨by rfl,?_⟩) hHeld ?_ ?_
             rotate_left
             ·exact b5g
             rotate_left
             ·exact pK
             refine pT (i:=5) (N:=some 110) a7h ?_
             refine pT (i:=6) (N:=some 111) a7g ?_
             refine pT (i:=7) (N:=some 112) a7f ?_
             refine pT (i:=8) (N:=some 113) a7e ?_
             refine pT (i:=9) (N:=some 114) a7d ?_
             refine pT (i:=10) (N:=some 115) a7c ?_
             refine pT (i:=11) (N:=some 116) a7b ?_
             refine pT (i:=15) (N:=some 120) b4a ?_
             refine pT (i:=16) (N:=some 121) b3z ?_
             refine pT (i:=17) (N:=some 122) b3y ?_
             refine pT (i:=18) (N:=some 123) b3x ?_
             refine qY (i:=12) (N:=some 117) (v:=?_) (a':=?_) b3w rfl rfl (pM HT_.out HW_.out (by kernel_rfl)) (fun _ _ _ h=>h) (Or.inl ⟨by rfl,?_⟩) hHeld ?_ ?_
             rotate_left
             ·exact b5g
             rotate_left
             ·exact pK
             refine pT (i:=13) (N:=some 118) b3v ?_
             refine qY (i:=14) (N:=some 119) (v:=?_) (a':=?_) a7a rfl rfl (pM HT_.out HW_.out (by kernel_rfl)) (fun _ _ _ h=>h) (Or.inl ⟨by rfl,?_⟩) hHeld ?_ ?_
             rotate_left
             ·exact b5g
             rotate_left
             ·exact pK
             refine qY (i:=19) (N:=some 124) (v:=?_) (a':=?_) a6z rfl rfl (pM HT_.out HW_.out (by kernel_rfl)) (fun _ _ _ h=>h) (Or.inl ⟨by rfl,?_⟩) hHeld ?_ ?_
             rotate_left
             ·exact b5g
             rotate_left
             ·exact pK
             refine pT (i:=20) (N:=some 125) a6y ?_
             refine pT (i:=21) (N:=some 126) a6x ?_
             refine pT (i:=22) (N:=some 127) a6w ?_
             refine qO (i:=23) (N:=some 128) (v:=undef) (a':=?_) a6v rfl rfl (qZ HT_.out (by kernel_rfl)) (fun _ _ _ h=>h) (Or.inr ⟨by rfl,rfl⟩) ?_ ?_
             rotate_left
             ·exact pK
             refine qO (i:=24) (N:=some 129) (v:=undef) (a':=?_) a6u rfl rfl (qZ HT_.out (by kernel_rfl)) (fun _ _ _ h=>h) (Or.inr ⟨by rfl,rfl⟩) ?_ ?_
             rotate_left
             ·exact pK
             refine qO (i:=25) (N:=some 130) (v:=undef) (a':=?_) a6t rfl rfl (qZ HT_.out (by kernel_rfl)) (fun _ _ _ h=>h) (Or.inr ⟨by rfl,rfl⟩) ?_ ?_
             rotate_left
             ·exact pK
             refine qO (i:=26) (N:=some 131) (v:=undef) (a':=?_) a6s rfl rfl (qZ HT_.out (by kernel_rfl)) (fun _ _ _ h=>h) (Or.inr ⟨by rfl,rfl⟩) ?_ ?_
             rotate_left
             ·exact pK
             refine qO (i:=27) (N:=some 132) (v:=undef) (a':=?_) b0r rfl rfl (qZ HT_.out (by kernel_rfl)) (fun _ _ _ h=>h) (Or.inr ⟨by rfl,rfl⟩) ?_ ?_
             rotate_left
             ·exact pK
             refine qO (i:=28) (N:=some 133) (v:=undef) (a':=?_) b0q rfl rfl (qZ HT_.out (by kernel_rfl)) (fun _ _ _ h=>h) (Or.inr ⟨by rfl,rfl⟩) ?_ ?_
             rotate_left
             ·exact pK
             refine qO (i:=29) (N:=some 134) (v:=undef) (a':=?_) b0p rfl rfl (qZ HT_.out (by kernel_rfl)) (fun _ _ _ h=>h) (Or.inr ⟨by rfl,rfl⟩) ?_ ?_
             rotate_left
             ·exact pK
             refine qO (i:=30) (N:=some 135) (v:=undef) (a':=?_) b0o rfl rfl (qZ HT_.out (by kernel_rfl)) (fun _ _ _ h=>h) (Or.inr ⟨by rfl,rfl⟩) ?_ ?_
             rotate_left
             ·exact pK
             refine qO (i:=31) (N:=some 136) (v:=undef) (a':=?_) b0n rfl rfl (qZ HT_.out (by kernel_rfl)) (fun _ _ _ h=>h) (Or.inr ⟨by rfl,rfl⟩) ?_ ?_
             rotate_left
             ·exact pK
             refine qO (i:=32) (N:=some 137) (v:=undef) (a':=?_) b0m rfl rfl (qZ HT_.out (by kernel_rfl)) (fun _ _ _ h=>h) (Or.inr ⟨by rfl,rfl⟩) ?_ ?_
             rotate_left
             ·exact pK
             refine qO (i:=33) (N:=some 138) (v:=undef) (a':=?_) b0l rfl rfl (qZ HT_.out (by kernel_rfl)) (fun _ _ _ h=>h) (Or.inr ⟨by rfl,rfl⟩) ?_ ?_
             rotate_left
             ·exact pK
             refine qO (i:=34) (N:=some 139) (v:=undef) (a':=?_) b0k rfl rfl (qZ HT_.out (by kernel_rfl)) (fun _ _ _ h=>h) (Or.inr ⟨by rfl,rfl⟩) ?_ ?_
             rotate_left
             ·exact pK
             refine qO (i:=35) (N:=some 140) (v:=undef) (a':=?_) b0j rfl rfl (qZ HT_.out (by kernel_rfl)) (fun _ _ _ h=>h) (Or.inr ⟨by rfl,rfl⟩) ?_ ?_
             rotate_left
             ·exact pK
             refine pT (i:=36) (N:=some 141) b0i ?_
             refine a1s (a2u HT_.out (by kernel_rfl)) ?_
             try go_wp2
             go_meet
             case rel=>exact⟨_,true,rfl,H,⟨by have:=bE.out;have:=bD.out;have:=bK.out;have:=cM.out;have:=cV.out;omega⟩,⟨sR<|a2.out⟩,⟨sR<|a4.out⟩,⟨sR<|a5.out⟩,⟨sR<|a6.out⟩,⟨sW HB.out⟩⟩
            replace H:=iN H;obtain⟨mD,H⟩:=H
            generalize hbq62:wH false aJ a0=n_ at H
            have g3:=am hbq62.symm;clear hbq62
            replace H:=iB H;rcases H with⟨rfl,H⟩|⟨rfl,H⟩
            rotate_left
            ·replace H:=am H
             try go_wp2
             replace a2:=am (Kd.JR a2.out)
             replace a4:=am (Kd.JR a4.out)
             replace a5:=am (Kd.JR a5.out)
             replace a6:=am (Kd.JR a6.out)
             replace HB:=am (kQ HB.out)
             have b9:0≤(a0:Int):=oD (by assumption)
             have b8:a0<(l0.length:Int):=oD (by assumption)
             obtain⟨a1,cU,aD,aC,aA,a9,a8,a7⟩:=pE b6.out a0 b9 b8
             have b0:=a7
             have b1:=a8
             have b2:=a9
             have b3:=aA
             have b4:=aC
             have b5:=aD
             cases cU
             replace aD:=kC HB.out aD
             replace aC:=kC HB.out aC
             replace aA:=kC HB.out aA
             replace a9:=kC HB.out a9
             replace a8:=kC HB.out a8
             replace a7:=kC HB.out a7
             replace b9:=eq_true b9
             replace b8:=eq_true b8
             have cI:0≤(a0:Int):=oD (by assumption)
             have cF:a0<(l0.length:Int):=oD (by assumption)
             obtain⟨dY,eA,aZ,aY,aX,aW,aV,aU⟩:=pE b6.out a0 cI cF
             have bU:=aU
             have bV:=aV
             have bZ:=aW
             have b_:=aX
             have c1:=aY
             have cB:=aZ
             obtain rfl:a1=dY:=(by injection eA)
             replace aZ:=kC HB.out aZ
             replace aY:=kC HB.out aY
             replace aX:=kC HB.out aX
             replace aW:=kC HB.out aW
             replace aV:=kC HB.out aV
             replace aU:=kC HB.out aU
             replace cI:=eq_true cI
             replace cF:=eq_true cF
             obtain⟨oF,nO,jW⟩:=Kd.JB a5.out
             (subst jW)
             obtain⟨h8,h5,dX,rfl,bJ⟩:=ix (Kd.JD (Kd.JA a5.out).2.2 ((kA l0 a0).f2))
             have cH:0≤(a0:Int):=oD (by assumption)
             have cE:a0<(l0.length:Int):=oD (by assumption)
             obtain⟨dW,e9,aT,aR,aQ,aN,aM,aK⟩:=pE b6.out a0 cH cE
             have bO:=aK
             have bP:=aM
             have bQ:=aN
             have bR:=aQ
             have bS:=aR
             have bT:=aT
             obtain rfl:a1=dW:=(by injection e9)
             replace aT:=kC HB.out aT
             replace aR:=kC HB.out aR
             replace aQ:=kC HB.out aQ
             replace aN:=kC HB.out aN
             replace aM:=kC HB.out aM
             replace aK:=kC HB.out aK
             replace cH:=eq_true cH
             replace cE:=eq_true cE
             obtain⟨oE,nN,jV⟩:=Kd.JB a4.out
             (subst jV)
             have dQ:0≤(a0:Int):=oD (by assumption)
             have dM:a0<(aJ.length:Int):=oD (by assumption)
             obtain⟨eZ,fM,bC⟩:=Kd.JJ (Kd.JA a4.out).2.2 a0 dQ dM
             (try rw[← dJ.out]at bC)
             (try rw[← g3.out]at bC)
             cases fM
             replace dQ:=eq_true dQ
             replace dM:=eq_true dM
             refine vC (n:=37) (S:=fun w'=>w'.cell? (a1.add ((a0).toNat*6))=some (.int .i64 ((kA l0 a0).f0))∧w'.cell? ⟨(a1.add ((a0).toNat*6)).block,(a1.add ((a0).toNat*6)).off+1,none⟩=some (.int .i64 ((kA l0 a0).f1))∧w'.cell? ⟨(a1.add ((a0).toNat*6)).block,(a1.add ((a0).toNat*6)).off+2,none⟩=some (.int .i64 ((kA l0 a0).f2))∧w'.cell? ⟨(a1.add ((a0).toNat*6)).block,(a1.add ((a0).toNat*6)).off+3,none⟩=some (.int .i64 ((kA l0 a0).f3))∧w'.cell? ⟨(a1.add ((a0).toNat*6)).block,(a1.add ((a0).toNat*6)).off+4,none⟩=some (.int .i64 ((kA l0 a0).f4))∧w'.cell? ⟨(a1.add ((a0).toNat*6)).block,(a1.add ((a0).toNat*6)).off+5,none⟩=some (.int .i64 ((kA l0 a0).f5))∧w'.cell? (a1.add ((a0).toNat*6))=some (.int .i64 ((kA l0 a0).f0))∧w'.cell? ⟨(a1.add ((a0).toNat*6)).block,(a1.add ((a0).toNat*6)).off+1,none⟩=some (.int .i64 ((kA l0 a0).f1))∧w'.cell? ⟨(a1.add ((a0).toNat*6)).block,(a1.add ((a0).toNat*6)).off+2,none⟩=some (.int .i64 ((kA l0 a0).f2))∧w'.cell? ⟨(a1.add ((a0).toNat*6)).block,(a1.add ((a0).toNat*6)).off+3,none⟩=some (.int .i64 ((kA l0 a0).f3))∧w'.cell? ⟨(a1.add ((a0).toNat*6)).block,(a1.add ((a0).toNat*6)).off+4,none⟩=some (.int .i64 ((kA l0 a0).f4))∧w'.cell? ⟨(a1.add ((a0).toNat*6)).block,(a1.add ((a0).toNat*6)).off+5,none⟩=some (.int .i64 ((kA l0 a0).f5))∧w'.cell? (dX.add (((kA l0 a0).f2)).toNat)=some (.int .i64 (rd b7 ((kA l0 a0).f2)))∧w'.cell? (a1.add ((a0).toNat*6))=some (.int .i64 ((kA l0 a0).f0))∧w'.cell? ⟨(a1.add ((a0).toNat*6)).block,(a1.add ((a0).toNat*6)).off+1,none⟩=some (.int .i64 ((kA l0 a0).f1))∧w'.cell? ⟨(a1.add ((a0).toNat*6)).block,(a1.add ((a0).toNat*6)).off+2,none⟩=some (.int .i64 ((kA l0 a0).f2))∧w'.cell? ⟨(a1.add ((a0).toNat*6)).block,(a1.add ((a0).toNat*6)).off+3,none⟩=some (.int .i64 ((kA l0 a0).f3))∧w'.cell? ⟨(a1.add ((a0).toNat*6)).block,(a1.add ((a0).toNat*6)).off+4,none⟩=some (.int .i64 ((kA l0 a0).f4))∧w'.cell? ⟨(a1.add ((a0).toNat*6)).block,(a1.add ((a0).toNat*6)).off+5,none⟩=some (.int .i64 ((kA l0 a0).f5))∧w'.cell? (eZ.add (a0).toNat)=some (.bool false)) (ds:=[]) a7n (by kernel_rfl) rfl rfl ⟨(kC HB.out b5),(kC HB.out b4),(kC HB.out b3),(kC HB.out b2),(kC HB.out b1),(kC HB.out b0),(kC HB.out cB),(kC HB.out c1),(kC HB.out b_),(kC HB.out bZ),(kC HB.out bV),(kC HB.out bU),bJ,(kC HB.out bT),(kC HB.out bS),(kC HB.out bR),(kC HB.out bQ),(kC HB.out bP),(kC HB.out bO),bC⟩ (fun hHeld=>?_);refine uR uY uE (fun HT_ HW_=>?_)
             generalize wr.drew=w68 at a2 a4 a5 a6 HB aD aC aA a9 a8 a7 aZ aY aX aW aV aU bJ aT aR aQ aN aM aK bC hHeld ⊢
             refine pT (i:=0) (N:=some 105) a7m ?_
             refine pT (i:=1) (N:=some 106) a7l ?_
             refine pT (i:=2) (N:=some 107) a7k ?_
             refine pT (i:=3) (N:=some 108) a7j ?_
             refine qY (i:=4) (N:=some 109) (v:=?_) (a':=?_) a7i rfl rfl (pM HT_.out HW_.out (by kernel_rfl)) (fun _ _ _ h=>h) (Or.inl ⟨by rfl,?_⟩) hHeld ?_ ?_
             rotate_left
             ·exact b1u
             rotate_left
             ·exact pK
             refine pT (i:=5) (N:=some 110) a7h ?_
             refine pT (i:=6) (N:=some 111) a7g ?_
             refine pT (i:=7) (N:=some 112) a7f ?_
             refine pT (i:=8) (N:=some 113) a7e ?_
             refine pT (i:=9) (N:=some 114) a7d ?_
             refine pT (i:=10) (N:=some 115) a7c ?_
             refine pT (i:=11) (N:=some 116) a7b ?_
             refine pT (i:=15) (N:=some 120) b4a ?_
             refine pT (i:=16) (N:=some 121) b3z ?_
             refine pT (i:=17) (N:=some 122) b3y ?_
             refine pT (i:=18) (N:=some 123) b3x ?_
             refine qY (i:=12) (N:=some 117) (v:=?_) (a':=?_) b3w rfl rfl (pM HT_.out HW_.out (by kernel_rfl)) (fun _ _ _ h=>h) (Or.inl ⟨by rfl,?_⟩) hHeld ?_ ?_
             rotate_left
             ·exact b1u
             rotate_left
             ·exact pK
             refine pT (i:=13) (N:=some 118) b3v ?_
             refine qY (i:=14) (N:=some 119) (v:=?_) (a':=?_) a7a rfl rfl (pM HT_.out HW_.out (by kernel_rfl)) (fun _ _ _ h=>h) (Or.inl ⟨by rfl,?_⟩) hHeld ?_ ?_
             rotate_left
             ·exact b1u
             rotate_left
             ·exact pK
             refine qY (i:=19) (N:=some 124) (v:=?_) (a':=?_) a6z rfl rfl (pM HT_.out HW_.out (by kernel_rfl)) (fun _ _ _ h=>h) (Or.inl ⟨by rfl,?_⟩) hHeld ?_ ?_
             rotate_left
             ·exact b1u
             rotate_left
             ·exact pK
             refine pT (i:=20) (N:=some 125) a6y ?_
             refine pT (i:=21) (N:=some 126) a6x ?_
             refine pT (i:=22) (N:=some 127) a6w ?_
             refine pT (i:=23) (N:=some 128) a6v ?_
             refine pT (i:=24) (N:=some 129) a6u ?_
             refine pT (i:=25) (N:=some 130) a6t ?_
             refine qY (i:=26) (N:=some 131) (v:=?_) (a':=?_) a6s rfl rfl (pM HT_.out HW_.out (by kernel_rfl)) (fun _ _ _ h=>h) (Or.inl ⟨by rfl,?_⟩) hHeld ?_ ?_
             rotate_left
             ·exact b1u
             rotate_left
             ·exact pK
             exact c5s
            replace H:=oA H;obtain⟨jD,lT,H⟩:=H
            replace H:=am H
            try go_wp2
            replace a2:=am (Kd.JR a2.out)
            replace a4:=am (Kd.JR a4.out)
            replace a5:=am (Kd.JR a5.out)
            replace a6:=am (Kd.JR a6.out)
            replace HB:=am (kQ HB.out)
            have b9:0≤(a0:Int):=oD (by assumption)
            have b8:a0<(l0.length:Int):=oD (by assumption)
            obtain⟨a1,cU,aD,aC,aA,a9,a8,a7⟩:=pE b6.out a0 b9 b8
            have b0:=a7
            have b1:=a8
            have b2:=a9
            have b3:=aA
            have b4:=aC
            have b5:=aD
            cases cU
            replace aD:=kC HB.out aD
            replace aC:=kC HB.out aC
            replace aA:=kC HB.out aA
            replace a9:=kC HB.out a9
            replace a8:=kC HB.out a8
            replace a7:=kC HB.out a7
            replace b9:=eq_true b9
            replace b8:=eq_true b8
            have cI:0≤(a0:Int):=oD (by assumption)
            have cF:a0<(l0.length:Int):=oD (by assumption)
            obtain⟨dY,eA,aZ,aY,aX,aW,aV,aU⟩:=pE b6.out a0 cI cF
            have bU:=aU
            have bV:=aV
            have bZ:=aW
            have b_:=aX
            have c1:=aY
            have cB:=aZ
            obtain rfl:a1=dY:=(by injection eA)
            replace aZ:=kC HB.out aZ
            replace aY:=kC HB.out aY
            replace aX:=kC HB.out aX
            replace aW:=kC HB.out aW
            replace aV:=kC HB.out aV
            replace aU:=kC HB.out aU
            replace cI:=eq_true cI
            replace cF:=eq_true cF
            obtain⟨oH,nQ,jY⟩:=Kd.JB a5.out
            (subst jY)
            obtain⟨h8,h5,dX,rfl,bJ⟩:=ix (Kd.JD (Kd.JA a5.out).2.2 ((kA l0 a0).f2))
            have cH:0≤(a0:Int):=oD (by assumption)
            have cE:a0<(l0.length:Int):=oD (by assumption)
            obtain⟨dW,e9,aT,aR,aQ,aN,aM,aK⟩:=pE b6.out a0 cH cE
            have bO:=aK
            have bP:=aM
            have bQ:=aN
            have bR:=aQ
            have bS:=aR
            have bT:=aT
            obtain rfl:a1=dW:=(by injection e9)
            replace aT:=kC HB.out aT
            replace aR:=kC HB.out aR
            replace aQ:=kC HB.out aQ
            replace aN:=kC HB.out aN
            replace aM:=kC HB.out aM
            replace aK:=kC HB.out aK
            replace cH:=eq_true cH
            replace cE:=eq_true cE
            obtain⟨oG,nP,jX⟩:=Kd.JB a4.out
            (subst jX)
            have dQ:0≤(a0:Int):=oD (by assumption)
            have dM:a0<(aJ.length:Int):=oD (by assumption)
            obtain⟨eZ,fM,bC⟩:=Kd.JJ (Kd.JA a4.out).2.2 a0 dQ dM
            (try rw[← dJ.out]at bC)
            (try rw[← g3.out]at bC)
            cases fM
            replace dQ:=eq_true dQ
            replace dM:=eq_true dM
            have fH:0≤(a0:Int):=oD (by assumption)
            have fD:a0<(l0.length:Int):=oD (by assumption)
            obtain⟨h_,l7,d6,d5,d4,d3,d2,d1⟩:=pE b6.out a0 fH fD
            have eJ:=d1
            have eK:=d2
            have eL:=d3
            have eM:=d4
            have eN:=d5
            have eO:=d6
            obtain rfl:a1=h_:=(by injection l7)
            replace d6:=kC HB.out d6
            replace d5:=kC HB.out d5
            replace d4:=kC HB.out d4
            replace d3:=kC HB.out d3
            replace d2:=kC HB.out d2
            replace d1:=kC HB.out d1
            replace fH:=eq_true fH
            replace fD:=eq_true fD
            refine vC (n:=37) (S:=fun w'=>w'.cell? (a1.add ((a0).toNat*6))=some (.int .i64 ((kA l0 a0).f0))∧w'.cell? ⟨(a1.add ((a0).toNat*6)).block,(a1.add ((a0).toNat*6)).off+1,none⟩=some (.int .i64 ((kA l0 a0).f1))∧w'.cell? ⟨(a1.add ((a0).toNat*6)).block,(a1.add ((a0).toNat*6)).off+2,none⟩=some (.int .i64 ((kA l0 a0).f2))∧w'.cell? ⟨(a1.add ((a0).toNat*6)).block,(a1.add ((a0).toNat*6)).off+3,none⟩=some (.int .i64 ((kA l0 a0).f3))∧w'.cell? ⟨(a1.add ((a0).toNat*6)).block,(a1.add ((a0).toNat*6)).off+4,none⟩=some (.int .i64 ((kA l0 a0).f4))∧w'.cell? ⟨(a1.add ((a0).toNat*6)).block,(a1.add ((a0).toNat*6)).off+5,none⟩=some (.int .i64 ((kA l0 a0).f5))∧w'.cell? (a1.add ((a0).toNat*6))=some (.int .i64 ((kA l0 a0).f0))∧w'.cell? ⟨(a1.add ((a0).toNat*6)).block,(a1.add ((a0).toNat*6)).off+1,none⟩=some (.int .i64 ((kA l0 a0).f1))∧w'.cell? ⟨(a1.add ((a0).toNat*6)).block,(a1.add ((a0).toNat*6)).off+2,none⟩=some (.int .i64 ((kA l0 a0).f2))∧w'.cell? ⟨(a1.add ((a0).toNat*6)).block,(a1.add ((a0).toNat*6)).off+3,none⟩=some (.int .i64 ((kA l0 a0).f3))∧w'.cell? ⟨(a1.add ((a0).toNat*6)).block,(a1.add ((a0).toNat*6)).off+4,none⟩=some (.int .i64 ((kA l0 a0).f4))∧w'.cell? ⟨(a1.add ((a0).toNat*6)).block,(a1.add ((a0).toNat*6)).off+5,none⟩=some (.int .i64 ((kA l0 a0).f5))∧w'.cell? (dX.add (((kA l0 a0).f2)).toNat)=some (.int .i64 (rd b7 ((kA l0 a0).f2)))∧w'.cell? (a1.add ((a0).toNat*6))=some (.int .i64 ((kA l0 a0).f0))∧w'.cell? ⟨(a1.add ((a0).toNat*6)).block,(a1.add ((a0).toNat*6)).off+1,none⟩=some (.int .i64 ((kA l0 a0).f1))∧w'.cell? ⟨(a1.add ((a0).toNat*6)).block,(a1.add ((a0).toNat*6)).off+2,none⟩=some (.int .i64 ((kA l0 a0).f2))∧w'.cell? ⟨(a1.add ((a0).toNat*6)).block,(a1.add ((a0).toNat*6)).off+3,none⟩=some (.int .i64 ((kA l0 a0).f3))∧w'.cell? ⟨(a1.add ((a0).toNat*6)).block,(a1.add ((a0).toNat*6)).off+4,none⟩=some (.int .i64 ((kA l0 a0).f4))∧w'.cell? ⟨(a1.add ((a0).toNat*6)).block,(a1.add ((a0).toNat*6)).off+5,none⟩=some (.int .i64 ((kA l0 a0).f5))∧w'.cell? (eZ.add (a0).toNat)=some (.bool true)∧w'.cell? (a1.add ((a0).toNat*6))=some (.int .i64 ((kA l0 a0).f0))∧w'.cell? ⟨(a1.add ((a0).toNat*6)).block,(a1.add ((a0).toNat*6)).off+1,none⟩=some (.int .i64 ((kA l0 a0).f1))∧w'.cell? ⟨(a1.add ((a0).toNat*6)).block,(a1.add ((a0).toNat*6)).off+2,none⟩=some (.int .i64 ((kA l0 a0).f2))∧w'.cell? ⟨(a1.add ((a0).toNat*6)).block,(a1.add ((a0).toNat*6)).off+3,none⟩=some (.int .i64 ((kA l0 a0).f3))∧w'.cell? ⟨(a1.add ((a0).toNat*6)).block,(a1.add ((a0).toNat*6)).off+4,none⟩=some (.int .i64 ((kA l0 a0).f4))∧w'.cell? ⟨(a1.add ((a0).toNat*6)).block,(a1.add ((a0).toNat*6)).off+5,none⟩=some (.int .i64 ((kA l0 a0).f5))) (ds:=[]) a7n (by kernel_rfl) rfl rfl ⟨(kC HB.out b5),(kC HB.out b4),(kC HB.out b3),(kC HB.out b2),(kC HB.out b1),(kC HB.out b0),(kC HB.out cB),(kC HB.out c1),(kC HB.out b_),(kC HB.out bZ),(kC HB.out bV),(kC HB.out bU),bJ,(kC HB.out bT),(kC HB.out bS),(kC HB.out bR),(kC HB.out bQ),(kC HB.out bP),(kC HB.out bO),bC,(kC HB.out eO),(kC HB.out eN),(kC HB.out eM),(kC HB.out eL),(kC HB.out eK),(kC HB.out eJ)⟩ (fun hHeld=>?_);refine uR uY uE (fun HT_ HW_=>?_)
            generalize wr.drew=w65 at a2 a4 a5 a6 HB aD aC aA a9 a8 a7 aZ aY aX aW aV aU bJ aT aR aQ aN aM aK bC d6 d5 d4 d3 d2 d1 hHeld ⊢
            refine pT (i:=0) (N:=some 105) a7m ?_
            refine pT (i:=1) (N:=some 106) a7l ?_
            refine pT (i:=2) (N:=some 107) a7k ?_
            refine pT (i:=3) (N:=some 108) a7j ?_
            refine qY (i:=4) (N:=some 109) (v:=?_) (a':=?_) a7i rfl rfl (pM HT_.out HW_.out (by kernel_rfl)) (fun _ _ _ h=>h) (Or.inl ⟨by rfl,?_⟩) hHeld ?_ ?_
            rotate_left
            ·exact a9l
            rotate_left
            ·exact pK
            refine pT (i:=5) (N:=some 110) a7h ?_
            refine pT (i:=6) (N:=some 111) a7g ?_
            refine pT (i:=7) (N:=some 112) a7f ?_
            refine pT (i:=8) (N:=some 113) a7e ?_
            refine pT (i:=9) (N:=some 114) a7d ?_
            refine pT (i:=10) (N:=some 115) a7c ?_
            refine pT (i:=11) (N:=some 116) a7b ?_
            refine pT (i:=15) (N:=some 120) b4a ?_
            refine pT (i:=16) (N:=some 121) b3z ?_
            refine pT (i:=17) (N:=some 122) b3y ?_
            refine pT (i:=18) (N:=some 123) b3x ?_
            refine qY (i:=12) (N:=some 117) (v:=?_) (a':=?_) b3w rfl rfl (pM HT_.out HW_.out (by kernel_rfl)) (fun _ _ _ h=>h) (Or.inl ⟨by rfl,?_⟩) hHeld ?_ ?_
            rotate_left
            ·exact a9l
            rotate_left
            ·exact pK
            refine pT (i:=13) (N:=some 118) b3v ?_
            refine qY (i:=14) (N:=some 119) (v:=?_) (a':=?_) a7a rfl rfl (pM HT_.out HW_.out (by kernel_rfl)) (fun _ _ _ h=>h) (Or.inl ⟨by rfl,?_⟩) hHeld ?_ ?_
            rotate_left
            ·exact a9l
            rotate_left
            ·exact pK
            refine qY (i:=19) (N:=some 124) (v:=?_) (a':=?_) a6z rfl rfl (pM HT_.out HW_.out (by kernel_rfl)) (fun _ _ _ h=>h) (Or.inl ⟨by rfl,?_⟩) hHeld ?_ ?_
            rotate_left
            ·exact a9l
            rotate_left
            ·exact pK
            refine pT (i:=20) (N:=some 125) a6y ?_
            refine pT (i:=21) (N:=some 126) a6x ?_
            refine pT (i:=22) (N:=some 127) a6w ?_
            refine pT (i:=23) (N:=some 128) a6v ?_
            refine pT (i:=24) (N:=some 129) a6u ?_
            refine pT (i:=25) (N:=some 130) a6t ?_
            refine qY (i:=26) (N:=some 131) (v:=?_) (a':=?_) a6s rfl rfl (pM HT_.out HW_.out (by kernel_rfl)) (fun _ _ _ h=>h) (Or.inl ⟨by rfl,?_⟩) hHeld ?_ ?_
            rotate_left
            ·exact a9l
            rotate_left
            ·exact pK
            refine pT (i:=27) (N:=some 132) b0r ?_
            refine pT (i:=28) (N:=some 133) b0q ?_
            refine pT (i:=29) (N:=some 134) b0p ?_
            refine pT (i:=30) (N:=some 135) b0o ?_
            refine pT (i:=31) (N:=some 136) b0n ?_
            refine qY (i:=32) (N:=some 137) (v:=?_) (a':=?_) b0m rfl rfl (pM HT_.out HW_.out (by kernel_rfl)) (fun _ _ _ h=>h) (Or.inl ⟨by rfl,?_⟩) hHeld ?_ ?_
            rotate_left
            ·exact a9l
            rotate_left
            ·exact pK
            refine a1t (i:=33) (N:=some 138) b0l rfl rfl (yR HT_.out (by kernel_rfl)) (by decide) (fun K hK=>?_)
            refine a1g Tryz.func109 (by kernel_rfl) rfl #[.int .i64 ((kA l0 a0).f0)] (by rfl) rfl rfl tm ?_
            with_reducible refine(KNi lT.out).mono ?_
            rintro e w' ⟨rfl,⟨nd,rfl⟩⟩
            refine⟨_,rfl,?_⟩
            refine hK.out _ _ ⟨(kC HB.out b5),(kC HB.out b4),(kC HB.out b3),(kC HB.out b2),(kC HB.out b1),(kC HB.out b0),(kC HB.out cB),(kC HB.out c1),(kC HB.out b_),(kC HB.out bZ),(kC HB.out bV),(kC HB.out bU),hHeld.2.2.2.2.2.2.2.2.2.2.2.2.1,(kC HB.out bT),(kC HB.out bS),(kC HB.out bR),(kC HB.out bQ),(kC HB.out bP),(kC HB.out bO),hHeld.2.2.2.2.2.2.2.2.2.2.2.2.2.2.2.2.2.2.2.1,(kC HB.out eO),(kC HB.out eN),(kC HB.out eM),(kC HB.out eL),(kC HB.out eK),(kC HB.out eJ)⟩ (fun hHeld=>?_)
            clear hK K
            refine vA (a':=?_) ?_ ?_
            rotate_left
            ·show Act.put _ (some 138) _=_
             exact pK
            refine pT (i:=34) (N:=some 139) b0k ?_
            refine pT (i:=35) (N:=some 140) b0j ?_
            refine pT (i:=36) (N:=some 141) b0i ?_
            refine a1s (a2u HT_.out (by kernel_rfl)) ?_
            try go_wp2
            go_meet
            case rel=>exact⟨_,(!jD),rfl,H,⟨by have:=bE.out;have:=bD.out;have:=bK.out;have:=cM.out;have:=cV.out;omega⟩,⟨sR<|a2.out⟩,⟨sR<|a4.out⟩,⟨sR<|a5.out⟩,⟨sR<|a6.out⟩,⟨sW HB.out⟩⟩
           case rest=>as_aux_lemma =>
            clear fR
            obtain⟨kq,e1,rfl,HA,f7,a2,a4,a5,a6,HB⟩:=hcut
            cases kq with
            | zero=>cases HA.out
            | succ h9 =>
             obtain⟨H⟩:=HA
             simp only[qS]at H
             replace H:=iB H;rcases H with⟨rfl,H⟩|⟨rfl,H⟩
             ·obtain rfl:=oI H
              go_wp2
              go_ret
              exact⟨rfl,sW HB.out⟩
             replace H:=iN H;obtain⟨hP,H⟩:=H
             replace H:=iN H;obtain⟨hO,H⟩:=H
             replace H:=oA H;obtain⟨a_,lR,H⟩:=H
             replace H:=am H
             obtain⟨jM,jH,mR,rfl,gH,gE,gA,g9,g8,g7⟩:=ix (pE (Kd.JE b6.out HB.out) a0)
             go_wp2_with (((with_reducible refine gW ?_);refine gF 45 (some 146) rfl ?_;refine gT Tryz.func45 (JRi lR.out) ?_;rintro fB w85 ⟨cK,hb⟩;replace a2:=rB a2 hb;replace a4:=rB a4 hb;have iG:=am (Kd.JF (Kd.JN (Kd.JN cK (Kd.JM (by exact sR<|a5.out))) (Kd.JM (by exact sR<|a6.out))) (kG (by exact sW HB.out)));replace a5:=rE a5 cK hb;replace a6:=rE a6 cK hb;replace HB:=hB HB hb;(try clear hb);(try clear cK)))
             go_loopg [12] h9 (fun kq lM w' =>∃(bL:List Int) (aG:Int),lM= .int .i64 aG∧Aside0 (tY kq l0 aI aJ b7 bL a0 a_ aG=some r)∧Aside0 (kq≤h9)∧Aside0 (Kd.R Kd.bool 4 w' w.heap.size (fun k_=>some k_≠(bF:Value).ownBlock) (.slice (some dZ) aI.length eU) aI)∧Aside0 (Kd.R Kd.bool 4 w' w.heap.size (fun k_=>some k_≠((.slice (some dZ) aI.length eU):Value).ownBlock) bF aJ)∧Aside0 (Kd.R (Kd.int .i64) 3 w' w.heap.size (fun k_=>some k_≠(u8:Value).ownBlock∧some k_≠(fB:Value).ownBlock) u5 b7)∧Aside0 (Kd.R (Kd.int .i64) 3 w' w.heap.size (fun k_=>some k_≠(u5:Value).ownBlock∧some k_≠(fB:Value).ownBlock) u8 bL)∧Aside0 (Kd.R (Kd.int .i64) 3 w' w.heap.size (fun k_=>some k_≠(u5:Value).ownBlock∧some k_≠(u8:Value).ownBlock) fB a_)∧Aside0 (Below w.heap.size w w'))
             case atStart=>exact⟨bM,0,rfl,H,⟨Nat.le_refl _⟩,⟨sR<|a2.out⟩,⟨sR<|a4.out⟩,⟨sR<|a5.out⟩,⟨sR<|a6.out⟩,⟨sR<|Kd.JC iG.out (fun _ hk=>⟨hk.1.2,hk.2⟩)⟩,⟨sW HB.out⟩⟩
             case round=>as_aux_lemma =>
              clear H
              clear hP hO gH gE gA g9 g8 g7 jM jH
              obtain⟨bL,aG,rfl,HA,g5,a2,a4,a5,a6,cL,HB⟩:=hrel
              cases gk with
              | zero=>cases HA.out
              | succ k7 =>
               obtain⟨H⟩:=HA
               simp only[tY]at H
               replace H:=iD H;rcases H with⟨hN,H⟩|⟨hN,H⟩
               rotate_left
               ·replace H:=am H
                obtain⟨o5,nG,rfl⟩:=Kd.JB cL.out
                go_wp2
                go_roundg k7
                case measure=>have:=bE.out;have:=bD.out;have:=bK.out;have:=cM.out;have:=cV.out;have:=f7.out;have:=g5.out;omega
                case rel=>exact⟨bL,(wrap64 (a0+1)),rfl,H,⟨by have:=bE.out;have:=bD.out;have:=bK.out;have:=cM.out;have:=cV.out;have:=f7.out;have:=g5.out;omega⟩,⟨sR<|a2.out⟩,⟨sR<|a4.out⟩,⟨sR<|Kd.JC a5.out (fun _ hk=>hk.1)⟩,⟨sR<|Kd.JC a6.out (fun _ hk=>hk.1)⟩,⟨sW HB.out⟩⟩
               replace H:=iN H;obtain⟨mB,H⟩:=H
               replace H:=iN H;obtain⟨m9,H⟩:=H
               replace H:=iN H;obtain⟨m8,H⟩:=H
               generalize fT:bL.set ((rd a_ aG):Int).toNat (wrap64 ((rd bL (rd a_ aG))+1))=iZ at H
               have i5:=am fT.symm;clear fT
               replace H:=am H
               obtain⟨o7,nI,rfl⟩:=Kd.JB cL.out
               try go_wp2
               replace a2:=am (Kd.JR a2.out)
               replace a4:=am (Kd.JR a4.out)
               replace a5:=am (Kd.JR a5.out)
               replace a6:=am (Kd.JR a6.out)
               replace cL:=am (Kd.JR cL.out)
               replace HB:=am (kQ HB.out)
               obtain⟨nD,n9,eX,rfl,eC⟩:=ix (Kd.JD (Kd.JA cL.out).2.2 aG)
               obtain⟨nC,n8,hY,j_,eB⟩:=ix (Kd.JD (Kd.JA cL.out).2.2 aG)
               obtain rfl:eX=hY:=(by injection j_)
               obtain⟨o6,nH,jQ⟩:=Kd.JB a6.out
               (subst jQ)
               obtain⟨nB,n7,mQ,rfl,e2⟩:=ix (Kd.JD (Kd.JA a6.out).2.2 (rd a_ aG))
               have h6:0≤((rd a_ aG):Int):=oD (by assumption)
               have h3:((rd a_ aG):Int)<((bL.length:Int):Int):=oD (by assumption)
               obtain⟨dU,nJ,jR,hH,gl90,cl90,HG90⟩:=Kd.JZ a6.out oM
               (cases jR)
               have o2:=am hH
               have GG90:=am HG90
               clear hH gl90 HG90
               (simp only[pW]at e2)
               obtain⟨hD,hf90_0⟩:=Kd.JH 0 a6.out ((rd a_ aG):Int) h6 h3
               replace h6:=eq_true h6
               replace h3:=eq_true h3
               have fP:=Kd.XC a6.out ((rd a_ aG):Int) (wrap64 ((rd bL (rd a_ aG))+1))
               rw[← i5.out]at fP
               have HQ94:=am fP
               clear fP
               refine vC (n:=15) (S:=fun w'=>w'.cell? (eX.add (aG).toNat)=some (.int .i64 (rd a_ aG))∧w'.cell? (eX.add (aG).toNat)=some (.int .i64 (rd a_ aG))∧w'.cell? ⟨dU,((rd a_ aG)).toNat,none⟩=some (.int .i64 (rd bL (rd a_ aG)))) (ds:=[14]) c8r (by kernel_rfl) rfl rfl ⟨eC,eB,e2⟩ (fun hHeld=>?_);refine uR a4c a3u (fun HT_ HW_=>?_)
               generalize wr.drew=w92 at a2 a4 a5 a6 cL HB GG90 HQ94 hf90_0 eC eB e2 hD hHeld ⊢
               refine pT (i:=0) (N:=some 153) c8q ?_
               refine pT (i:=1) (N:=some 154) c8p ?_
               refine pT (i:=2) (N:=some 155) c8o ?_
               refine pT (i:=3) (N:=some 156) c8n ?_
               refine pT (i:=5) (N:=some 158) c8m ?_
               refine pT (i:=6) (N:=some 159) c8l ?_
               refine pT (i:=7) (N:=some 160) c8k ?_
               refine pT (i:=8) (N:=some 161) c8j ?_
               refine qY (i:=4) (N:=some 157) (v:=?_) (a':=?_) c8i rfl rfl (pM HT_.out HW_.out (by kernel_rfl)) (fun _ _ _ h=>h) (Or.inl ⟨by rfl,?_⟩) hHeld ?_ ?_
               rotate_left
               ·rintro w' ⟨s0,s1,s2⟩
                go_simp
                with_reducible rfl
               rotate_left
               ·exact pK
               refine qY (i:=9) (N:=some 162) (v:=?_) (a':=?_) c8h rfl rfl (pM HT_.out HW_.out (by kernel_rfl)) (fun _ _ _ h=>h) (Or.inl ⟨by rfl,?_⟩) hHeld ?_ ?_
               rotate_left
               ·rintro w' ⟨s0,s1,s2⟩
                go_simp
                with_reducible rfl
               rotate_left
               ·exact pK
               refine pT (i:=10) (N:=some 163) c8g ?_
               refine qY (i:=11) (N:=some 164) (v:=?_) (a':=?_) c8f rfl rfl (pM HT_.out HW_.out (by kernel_rfl)) (fun _ _ _ h=>h) (Or.inl ⟨by rfl,?_⟩) hHeld ?_ ?_
               rotate_left
               ·rintro w' ⟨s0,s1,s2⟩
                go_simp
                with_reducible rfl
               rotate_left
               ·exact pK
               refine pT (i:=12) (N:=some 165) c8e ?_
               refine pT (i:=13) (N:=some 166) c8d ?_
               refine d1f (i:=14) (N:=none) c8c rfl rfl (yR HT_.out (by kernel_rfl)) (by decide) (fun K hK=>?_)
               refine b0v (w1:=?_) (by rfl) rfl ?_ ?_
               rotate_left
               ·go_simp
                rfl
               refine hK.out _ _ ?_
               clear hK K
               refine a1s (a2u HT_.out (by kernel_rfl)) ?_
               try go_wp2
               go_roundg k7
               case measure=>have:=bE.out;have:=bD.out;have:=bK.out;have:=cM.out;have:=cV.out;have:=f7.out;have:=g5.out;omega
               case rel=>exact⟨iZ,(wrap64 (aG+1)),rfl,H,⟨by have:=bE.out;have:=bD.out;have:=bK.out;have:=cM.out;have:=cV.out;have:=f7.out;have:=g5.out;omega⟩,⟨sR<|Kd.JC (Kd.JT (p:=⟨dU,((rd a_ aG):Int).toNat,none⟩) (Kd.YJ a2.out GG90.out (by decide)) (fun _ hk=>hk.2) (.int .i64 (wrap64 ((rd bL (rd a_ aG))+1)))) (fun _ hk=>hk.1)⟩,⟨sR<|Kd.JC (Kd.JT (p:=⟨dU,((rd a_ aG):Int).toNat,none⟩) (Kd.YJ a4.out GG90.out (by decide)) (fun _ hk=>hk.2) (.int .i64 (wrap64 ((rd bL (rd a_ aG))+1)))) (fun _ hk=>hk.1)⟩,⟨sR<|Kd.JC (Kd.JT (p:=⟨dU,((rd a_ aG):Int).toNat,none⟩) (Kd.JC a5.out (fun k_ hk=>(⟨hk,fun e_=>hk.1 (by rw[e_];rfl)⟩:_∧k_≠dU))) (fun _ hk=>hk.2) (.int .i64 (wrap64 ((rd bL (rd a_ aG))+1)))) (fun _ hk=>⟨hk.1.1,hk.1.2⟩)⟩,⟨sR<|HQ94.out⟩,⟨sR<|Kd.JC (Kd.JT (p:=⟨dU,((rd a_ aG):Int).toNat,none⟩) (Kd.JC cL.out (fun k_ hk=>(⟨hk,fun e_=>hk.2 (by rw[e_];rfl)⟩:_∧k_≠dU))) (fun _ hk=>hk.2) (.int .i64 (wrap64 ((rd bL (rd a_ aG))+1)))) (fun _ hk=>⟨hk.1.1,hk.1.2⟩)⟩,⟨bW⟩⟩
end Go.Proofs.YtkpipmojkhikaaaGreat.PAll
