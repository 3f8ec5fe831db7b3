/- Answers from some number of rounds on: how they go through binds, tests and rounds. -/
import Derived.Test.YtkpipmojkhikaaaGreatBase
set_option linter.unusedVariables false
namespace Go.Proofs.YtkpipmojkhikaaaGreat.Base
open Go.RowKit Go.A_
theorem pZ{α:Type}{r:α}:Ev (fun _=>some r) r:=⟨0,fun _ _=>rfl⟩
theorem yF{α:Type}{r s:α}(h:r=s):Ev (fun _=>some r) s:=⟨0,fun _ _=>by rw[h]⟩
theorem kP{α β:Type}{g:Nat→Option α}{f:Nat→α→Option β}{a:α}{r:β}(h:Ev g a)(k:Ev (fun n=>f n a) r):Ev (fun n=>(g n).bind (f n)) r:=Ev.bind h k
theorem qA{α β:Type}{c:Option α}{f:Nat→α→Option β}{a:α}{r:β}(h:c=some a)(k:Ev (fun n=>f n a) r):Ev (fun n=>c.bind (f n)) r:=by
 subst h;exact k
theorem kD{α:Type}{c:Prop}[Decidable c]{A B:Nat→Option α}{r:α}(h:c)(k:Ev A r):Ev (fun n=>if c then A n else B n) r:=by
 simpa [h]using k
theorem kN{α:Type}{c:Prop}[Decidable c]{A B:Nat→Option α}{r:α}(h :¬c)(k:Ev B r):Ev (fun n=>if c then A n else B n) r:=by
 simpa [h]using k
theorem kS{α:Type}{g:Nat→Option α}{r:α}(k:Ev (fun n=>g (n+1)) r):Ev g r:=Ev.step (fun _=>rfl) k
theorem a1h{α:Type}{g:Nat→Option α}{r:α}(K:Nat)(h :∀k,K≤k→g k=some r):Ev g r:=⟨K,h⟩
theorem d9m{α:Type}{c:Option α}{r:α}(h:c=some r):Ev (fun _=>c) r:=⟨0,fun _ _=>h⟩
theorem oM{P:Prop}(h:P:=by omega):P:=h
theorem wS(i:Nat)(h:i<4611686018427387904:=by omega):wrap64 ((i:Int)+1)=((i+1:Nat):Int):=by
 rw[kU (by omega) (by omega)];omega
end Go.Proofs.YtkpipmojkhikaaaGreat.Base
