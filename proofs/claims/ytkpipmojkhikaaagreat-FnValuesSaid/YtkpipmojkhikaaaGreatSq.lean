/- Short words for what a printed walk says again and again: the cells of a block of its own, what stands in the old world, one step of a region. -/
import Derived.Test.YtkpipmojkhikaaaGreatWWords
set_option linter.unusedVariables false
namespace Go.D_
open Go Go.RowKit Go.A_ Go.B_ Go.C_
section
variable {w:World} {g:Nat} {T:TypeId} {x0 x1 x2 x3 x4 x5:Value}
theorem cz1(h:w.heap[g]? = some (.cells #[x0] T (0,0))):w.cell? ⟨g,0,none⟩=some x0:=(kE h 0).trans rfl
theorem cz2(h:w.heap[g]? = some (.cells #[x0,x1] T (0,0))):w.cell? ⟨g,0,none⟩=some x0∧w.cell? ⟨g,1,none⟩=some x1:=⟨(kE h 0).trans rfl,(kE h 1).trans rfl⟩
theorem cz3(h:w.heap[g]? = some (.cells #[x0,x1,x2] T (0,0))):w.cell? ⟨g,0,none⟩=some x0∧w.cell? ⟨g,1,none⟩=some x1∧w.cell? ⟨g,2,none⟩=some x2:=⟨(kE h 0).trans rfl,(kE h 1).trans rfl,(kE h 2).trans rfl⟩
theorem cz4(h:w.heap[g]? = some (.cells #[x0,x1,x2,x3] T (0,0))):w.cell? ⟨g,0,none⟩=some x0∧w.cell? ⟨g,1,none⟩=some x1∧w.cell? ⟨g,2,none⟩=some x2∧w.cell? ⟨g,3,none⟩=some x3:=⟨(kE h 0).trans rfl,(kE h 1).trans rfl,(kE h 2).trans rfl,(kE h 3).trans rfl⟩
theorem cz5(h:w.heap[g]? = some (.cells #[x0,x1,x2,x3,x4] T (0,0))):w.cell? ⟨g,0,none⟩=some x0∧w.cell? ⟨g,1,none⟩=some x1∧w.cell? ⟨g,2,none⟩=some x2∧w.cell? ⟨g,3,none⟩=some x3∧w.cell? ⟨g,4,none⟩=some x4:=⟨(kE h 0).trans rfl,(kE h 1).trans rfl,(kE h 2).trans rfl,(kE h 3).trans rfl,(kE h 4).trans rfl⟩
theorem cz6(h:w.heap[g]? = some (.cells #[x0,x1,x2,x3,x4,x5] T (0,0))):w.cell? ⟨g,0,none⟩=some x0∧w.cell? ⟨g,1,none⟩=some x1∧w.cell? ⟨g,2,none⟩=some x2∧w.cell? ⟨g,3,none⟩=some x3∧w.cell? ⟨g,4,none⟩=some x4∧w.cell? ⟨g,5,none⟩=some x5:=⟨(kE h 0).trans rfl,(kE h 1).trans rfl,(kE h 2).trans rfl,(kE h 3).trans rfl,(kE h 4).trans rfl,(kE h 5).trans rfl⟩
theorem fz2(h:w.heap[g]? = some (.cells #[x0,x1] T (0,0))):w.frozen? ⟨g,0,none⟩=false∧w.frozen? ⟨g,1,none⟩=false:=⟨kF h 0,kF h 1⟩
theorem fz3(h:w.heap[g]? = some (.cells #[x0,x1,x2] T (0,0))):w.frozen? ⟨g,0,none⟩=false∧w.frozen? ⟨g,1,none⟩=false∧w.frozen? ⟨g,2,none⟩=false:=⟨kF h 0,kF h 1,kF h 2⟩
theorem fz4(h:w.heap[g]? = some (.cells #[x0,x1,x2,x3] T (0,0))):w.frozen? ⟨g,0,none⟩=false∧w.frozen? ⟨g,1,none⟩=false∧w.frozen? ⟨g,2,none⟩=false∧w.frozen? ⟨g,3,none⟩=false:=⟨kF h 0,kF h 1,kF h 2,kF h 3⟩
theorem fz5(h:w.heap[g]? = some (.cells #[x0,x1,x2,x3,x4] T (0,0))):w.frozen? ⟨g,0,none⟩=false∧w.frozen? ⟨g,1,none⟩=false∧w.frozen? ⟨g,2,none⟩=false∧w.frozen? ⟨g,3,none⟩=false∧w.frozen? ⟨g,4,none⟩=false:=⟨kF h 0,kF h 1,kF h 2,kF h 3,kF h 4⟩
theorem fz6(h:w.heap[g]? = some (.cells #[x0,x1,x2,x3,x4,x5] T (0,0))):w.frozen? ⟨g,0,none⟩=false∧w.frozen? ⟨g,1,none⟩=false∧w.frozen? ⟨g,2,none⟩=false∧w.frozen? ⟨g,3,none⟩=false∧w.frozen? ⟨g,4,none⟩=false∧w.frozen? ⟨g,5,none⟩=false:=⟨kF h 0,kF h 1,kF h 2,kF h 3,kF h 4,kF h 5⟩
theorem dq1{α:Type}{a:α}{m n:Nat}:a=a∧∃k,(w.drewN m).drewN n=w.drewN k:=⟨rfl,_,World.drewN_drewN _ _ _⟩
theorem dq2{α:Type}{a:α}{m n k:Nat}:a=a∧∃j,(w.drewN (m+n)).drewN k=w.drewN (m+j):=⟨rfl,_,Eq.trans (World.drewN_drewN _ _ _) (congrArg (World.drewN _) (Nat.add_assoc _ _ _))⟩
end
theorem sB{w w':World}{g:Nat}{o:Obj}(k:w.heap[g]? = some o)(h:Below w.heap.size w w':=by repeat(with_reducible first|exact Below.refl _ _|apply kO|apply kM|apply kQ)):w'.heap[g]? = some o:=kJ k h
theorem sW{w0 w w':World}(k:Below w0.heap.size w0 w)(h:Below w.heap.size w w':=by repeat(with_reducible first|exact Below.refl _ _|apply kO|apply kM|apply kQ)):Below w0.heap.size w0 w':=k.trans (h.mono k.size)
theorem sR{α:Type}{d:Kd α}{e:Nat}{w w':World}{base:Nat}{ok:Nat→Prop}{v:Value}{xs:List α}(k:d.R e w base ok v xs)(h:Below w.heap.size w w':=by repeat(with_reducible first|exact Below.refl _ _|apply kO|apply kM|apply kQ)):d.R e w' base ok v xs:=Kd.JK k h
theorem sC{α:Type}{d:Kd α}{w w':World}{A:Option Addr}{n:Nat}{xs:List α}(k:d.C w A n xs)(h:Below w.heap.size w w':=by repeat(with_reducible first|exact Below.refl _ _|apply kO|apply kM|apply kQ)):d.C w' A n xs:=Kd.JE k h
theorem sS{α:Type}{d:Kd α}{e:Nat}{w w':World}{base:Nat}{ok:Nat→Prop}{v:Value}{xs:List α}(k:Kd.S d e w base ok v xs)(h:Below w.heap.size w w':=by repeat(with_reducible first|exact Below.refl _ _|apply kO|apply kM|apply kQ)):Kd.S d e w' base ok v xs:=Kd.XN k h
theorem am{p:Prop}(h:p):Aside0 p:=⟨h⟩
theorem bW{P:Prop}(h:P:=by repeat(first|(with_reducible first|exact HB.out|apply kO|apply kM|apply kQ|refine kR ?_ (Aside0.out (by assumption)))|exact HB.out)):P:=h
theorem tm{P:Prop}(h:P:=by(try simp only[List.map_toArray,List.map_cons,List.map_nil]);rfl):P:=h
theorem pS{P:Program}{ops:Array Oper}{Q:Exit→Act→World→Prop}{md:Region.Mode}{S:World→Prop}{ds:List Nat}{i:Nat}{N:Option Tmp}{oi:Oper}{v:Value}{fuel:Nat}{l:Array Bool}{a:Act}{w:World}(l':Array Bool){a':Act}(h:kX P md ops Q S ds fuel l' a' w)(hi:ops[i]? = some oi:=by rfl)(hN:oi.dst=N:=by rfl)(hc:d2j md ops l l' i=true:=by kernel_rfl)(hQ :∀c a w,Q (.panic c) (a.put oi.dst v) w→Q (.panic c) a w:=by exact fun _ _ _ h=>h)(hy:Yields P ops oi v a:=by refine Or.inl ⟨by rfl,?_⟩;intro w';go_simp;with_reducible rfl)(ha:a.put N v=a':=by simp only[Act.put,List.setIfInBounds_toArray,List.set_cons_zero,List.set_cons_succ,vB,a3w];rfl):kX P md ops Q S ds (fuel+1) l a w:=qO l' hi hN hc hQ hy ha h
theorem pT{P:Program}{ops:Array Oper}{Q:Exit→Act→World→Prop}{md:Region.Mode}{S:World→Prop}{ds:List Nat}{i:Nat}{N:Option Tmp}{oi:Oper}{v:Value}{fuel:Nat}{l:Array Bool}{a:Act}{w:World}(l':Array Bool){a':Act}(h:kX P md ops Q S ds fuel l' a' w)(hi:ops[i]? = some oi:=by rfl)(hN:oi.dst=N:=by rfl)(hc:d2j md ops l l' i=true:=by exact qZ HT_.out (by kernel_rfl))(hQ :∀c a w,Q (.panic c) (a.put oi.dst v) w→Q (.panic c) a w:=by exact fun _ _ _ h=>h)(hy:Yields P ops oi v a:=by refine Or.inl ⟨by rfl,?_⟩;intro w';go_simp;with_reducible rfl)(ha:a.put N v=a':=by simp only[Act.put,List.setIfInBounds_toArray,List.set_cons_zero,List.set_cons_succ,vB,a3w];rfl):kX P md ops Q S ds (fuel+1) l a w:=qO l' hi hN hc hQ hy ha h
theorem aP{P:Prop}(h:P:=by simp only[Act.put,List.setIfInBounds_toArray,List.set_cons_zero,List.set_cons_succ,vB,a3w];rfl):P:=h
theorem tn0:((0:Int)).toNat=0:=rfl
theorem oB{α β:Type}{x:Option α}{f:α→Option β}{b:β}(h:x.bind f=some b) :∃a,x=some a∧f a=some b:=Option.bind_eq_some_iff.mp h
theorem oI{α:Type}{a b:α}(h:some a=some b):a=b:=Option.some.inj h
theorem oD{p:Prop}[Decidable p](h:decide p=true):p:=of_decide_eq_true h
section
variable {α:Type} {p q E:Prop} [Decidable p] [Decidable q] {u v:Option α} {r:α}
theorem iN(h:(if p then u else none)=some r):decide p=true∧u=some r:=by
 by_cases c:p
 ·rw[if_pos c]at h;exact⟨decide_eq_true c,h⟩
 ·rw[if_neg c]at h;cases h
theorem iP(h:(if p then u else none)=some r):p∧u=some r:=⟨of_decide_eq_true (iN h).1,(iN h).2⟩
theorem iT(h:(if p then u else none)=some r):p=True∧u=some r:=⟨eq_true (iP h).1,(iP h).2⟩
theorem iTD(h:(if p then u else none)=some r):p=True∧decide p=true∧u=some r:=⟨eq_true (iP h).1,iN h⟩
theorem iD(h:(if p then u else v)=some r):(decide p=true∧u=some r)∨(decide p=false∧v=some r):=by
 by_cases c:p
 ·rw[if_pos c]at h;exact .inl ⟨decide_eq_true c,h⟩
 ·rw[if_neg c]at h;exact .inr ⟨decide_eq_false c,h⟩
theorem iE{β:Type}[BEq β][LawfulBEq β]{a b:β}[Decidable (a=b)](h:(if a=b then u else v)=some r):((a==b)=true∧(a !=b)=false∧u=some r)∨((a==b)=false∧(a !=b)=true∧v=some r):=by
 by_cases c:a=b
 ·rw[if_pos c]at h;exact .inl ⟨beq_iff_eq.mpr c,bne_eq_false_iff_eq.mpr c,h⟩
 ·rw[if_neg c]at h;exact .inr ⟨beq_eq_false_iff_ne.mpr c,bne_iff_ne.mpr c,h⟩
theorem iNE{β:Type}[BEq β][LawfulBEq β]{a b:β}[Decidable (a=b)](h:(if a=b then u else none)=some r):(a==b)=true∧(a !=b)=false∧u=some r:=by
 rcases iE h with h|⟨_,_,h⟩
 ·exact h
 ·cases h
theorem iB{b:Bool}(h:(if b=true then u else v)=some r):(b=true∧u=some r)∨(b=false∧v=some r):=by
 cases b with
 | true=>exact .inl ⟨rfl,h⟩
 | false=>exact .inr ⟨rfl,h⟩
theorem iNB{b:Bool}(h:(if b=true then u else none)=some r):b=true∧u=some r:=by
 rcases iB h with h|⟨_,h⟩
 ·exact h
 ·cases h
theorem oA{β:Type}{x:Option α}{f:α→Option β}{b:β}(h:x.bind f=some b) :∃a,Aside0 (x=some a)∧f a=some b:=by
 obtain⟨a,h1,h2⟩:=Option.bind_eq_some_iff.mp h
 exact⟨a,⟨h1⟩,h2⟩
theorem ix(f:p→q→E)(h0:decide p=true:=by assumption)(h1:decide q=true:=by assumption):(p=True)∧(q=True)∧E:=⟨eq_true (of_decide_eq_true h0),eq_true (of_decide_eq_true h1),f (of_decide_eq_true h0) (of_decide_eq_true h1)⟩
end
theorem cD{P:Program}{f:FuncId}{as:Array Value}{w:World}{v:Value}{Q:Ending→World→Prop}(h:Calls P f as w fun e w'=>e= .returned v∧Drawn0 w w')(k :∀nd,Q (.returned v) (w.drewN nd)):Calls P f as w Q:=h.mono (by rintro e w' ⟨rfl,⟨nd,rfl⟩⟩;exact k nd)
theorem dq{P:Prop}(h:P:=by first|exact dq1|exact dq2):P:=h
section
variable {P:Program} {ops:Array Oper} {Q:Exit→Act→World→Prop} {rest:List Oper} {o:Oper} {a:Act} {W:World}
theorem gC(f:FuncId)(N:Option Tmp){fn:Func}(hf:P.funcs[f]? = some fn)(args:Array Value){as:Array Operand}{ts:Array TypeId}(h:Calls P f args W fun e w' =>∃v,e= .returned v∧wpList P ops Q rest (a.put N v) w')
  (hop : o.op = .call { callee := .value (.func f), args := as, argTypes := ts } := by with_reducible rfl) (hd : o.dst = N := by rfl) (hg : o.guard = none := by rfl) (hname : (fn.name == "runtime.NumGoroutine") = false := by kernel_rfl) (hb : fn.body.isSome = true := by rfl)
  (hargs:as.map a.eval=args:=by(try simp only[List.map_toArray,List.map_cons,List.map_nil]);rfl):wpList P ops Q (o::rest) a W:=b3g N hd hg hf hname hb args hop hargs h
theorem lE{α:Type}(d:Kd α)(e:Nat)(N:Tmp)(h :∀v1 w1,d.R e w1 W.heap.size (fun _=>True) v1 []→Below W.heap.size W w1→wpList P ops Q rest (a.put o.dst v1) w1)(hd:o.dst=some N:=by with_reducible rfl)(hg:o.guard=none:=by rfl)
  (hr:(execOp a.eval o).run P W= .ok (.value (.slice (some ⟨W.heap.size,0,none⟩) ([]:List α).length ([]:List α).length)) (W.alloc (.cells ([]:List Value).toArray e)):=by go_simp;done):wpList P ops Q (o::rest) a W :=
 Kd.YC d (w0:=W) W.heap.size e hg hd (inner:=[]) (okp:=fun _=>True) hr (Reps.none _ _) (fun _ h=>h) trivial (Below.refl _ _) (Nat.le_refl _) (by simp) (fun v1 w1 h1 h2 _ _=>h v1 w1 h1 h2)
theorem bX(N:Tmp)(t:TypeId)(cs:Array Value)(h :∀g,g=W.heap.size→∀w1,w1.heap[g]? = some (.cells cs t (0,0))→Below W.heap.size W w1→wpList P ops Q rest (a.put o.dst (.pointer (some ⟨g,0,none⟩))) w1)(hd:o.dst=some N:=by with_reducible rfl)(hg:o.guard=none:=by rfl)
  (hr:(execOp a.eval o).run P W= .ok (.value (.pointer (some ⟨W.heap.size,0,none⟩))) (W.alloc (.cells cs t (0,0))):=by go_simp;done):wpList P ops Q (o::rest) a W:=wG hg hd hr h
theorem bY(N:Tmp)(t:TypeId)(cs:Array Value)(h :∀g,g=W.heap.size→∀w1,w1.heap[g]? = some (.cells cs t (0,0))→Below W.heap.size W w1→wpList P ops Q rest (a.put o.dst (.pointer (some ⟨g,0,none⟩))) w1)(hd:o.dst=some N:=by with_reducible rfl)(hg:o.guard=none:=by rfl)
  (hr:(execOp a.eval o).run P W= .ok (.value (.pointer (some ⟨W.heap.size,0,none⟩))) (W.alloc (.cells cs t (0,0))):=by first|(go_simp;done)|(go_simp;rfl)):wpList P ops Q (o::rest) a W:=wG hg hd hr h
end
section
variable {α β:Type} {d:Kd α} {d':Kd β} {e e' base g:Nat} {w w' w'' w0:World} {ok ok':Nat→Prop} {u v:Value} {xs:List α} {ys:List β} {ob:Obj}
theorem rB(k:Aside0 (d.R e w base ok v xs))(hb:Below w'.heap.size w' w'')(h:Below w.heap.size w w':=by repeat(with_reducible first|exact Below.refl _ _|apply kO|apply kM|apply kQ)):Aside0 (d.R e w'' base ok v xs):=⟨Kd.JK (Kd.JK k.out h) hb⟩
theorem hB(k:Aside0 (Below w0.heap.size w0 w))(hb:Below w'.heap.size w' w'')(h:Below w.heap.size w w':=by repeat(with_reducible first|exact Below.refl _ _|apply kO|apply kM|apply kQ)):Aside0 (Below w0.heap.size w0 w''):=⟨(k.out.trans (h.mono k.out.size)).trans (hb.mono (k.out.trans (h.mono k.out.size)).size)⟩
theorem gB(k:Aside0 (w.heap[g]? = some ob))(hb:Below w'.heap.size w' w'')(h:Below w.heap.size w w':=by repeat(with_reducible first|exact Below.refl _ _|apply kO|apply kM|apply kQ)):Aside0 (w''.heap[g]? = some ob):=⟨kJ (kJ k.out h) hb⟩
theorem rE(k:Aside0 (d.R e w base ok u xs))(ho:d'.R e' w'' w'.heap.size ok' v ys)(hb:Below w'.heap.size w' w'')(h:Below w.heap.size w w':=by repeat(with_reducible first|exact Below.refl _ _|apply kO|apply kM|apply kQ)):Aside0 (d.R e w'' base (fun k=>ok k∧some k≠v.ownBlock) u xs):=⟨Kd.JS (Kd.JK k.out h) (Kd.JX ho) hb⟩
theorem rL(ho:d.R e w'' w'.heap.size ok v xs)(k:Aside0 (Below w0.heap.size w0 w))(h:Below w.heap.size w w':=by repeat(with_reducible first|exact Below.refl _ _|apply kO|apply kM|apply kQ)):Aside0 (d.R e w'' w0.heap.size ok v xs):=⟨Kd.JF ho (k.out.trans (h.mono k.out.size)).size⟩
end
section
variable {w:World} {g:Nat} {T:TypeId} {x0 x1 x2 x3 x4 x5:Value}
theorem cf2(h:w.heap[g]? = some (.cells #[x0,x1] T (0,0))):(w.cell? ⟨g,0,none⟩=some x0∧w.cell? ⟨g,1,none⟩=some x1)∧w.frozen? ⟨g,0,none⟩=false∧w.frozen? ⟨g,1,none⟩=false:=⟨cz2 h,fz2 h⟩
theorem cf3(h:w.heap[g]? = some (.cells #[x0,x1,x2] T (0,0))):(w.cell? ⟨g,0,none⟩=some x0∧w.cell? ⟨g,1,none⟩=some x1∧w.cell? ⟨g,2,none⟩=some x2)∧w.frozen? ⟨g,0,none⟩=false∧w.frozen? ⟨g,1,none⟩=false∧w.frozen? ⟨g,2,none⟩=false:=⟨cz3 h,fz3 h⟩
theorem cf4(h:w.heap[g]? = some (.cells #[x0,x1,x2,x3] T (0,0))):(w.cell? ⟨g,0,none⟩=some x0∧w.cell? ⟨g,1,none⟩=some x1∧w.cell? ⟨g,2,none⟩=some x2∧w.cell? ⟨g,3,none⟩=some x3)∧w.frozen? ⟨g,0,none⟩=false∧w.frozen? ⟨g,1,none⟩=false∧w.frozen? ⟨g,2,none⟩=false∧w.frozen? ⟨g,3,none⟩=false:=⟨cz4 h,fz4 h⟩
theorem cf5(h:w.heap[g]? = some (.cells #[x0,x1,x2,x3,x4] T (0,0))):(w.cell? ⟨g,0,none⟩=some x0∧w.cell? ⟨g,1,none⟩=some x1∧w.cell? ⟨g,2,none⟩=some x2∧w.cell? ⟨g,3,none⟩=some x3∧w.cell? ⟨g,4,none⟩=some x4)∧w.frozen? ⟨g,0,none⟩=false∧w.frozen? ⟨g,1,none⟩=false∧w.frozen? ⟨g,2,none⟩=false∧w.frozen? ⟨g,3,none⟩=false∧w.frozen? ⟨g,4,none⟩=false:=⟨cz5 h,fz5 h⟩
theorem cf6(h:w.heap[g]? = some (.cells #[x0,x1,x2,x3,x4,x5] T (0,0))):(w.cell? ⟨g,0,none⟩=some x0∧w.cell? ⟨g,1,none⟩=some x1∧w.cell? ⟨g,2,none⟩=some x2∧w.cell? ⟨g,3,none⟩=some x3∧w.cell? ⟨g,4,none⟩=some x4∧w.cell? ⟨g,5,none⟩=some x5)∧w.frozen? ⟨g,0,none⟩=false∧w.frozen? ⟨g,1,none⟩=false∧w.frozen? ⟨g,2,none⟩=false∧w.frozen? ⟨g,3,none⟩=false∧w.frozen? ⟨g,4,none⟩=false∧w.frozen? ⟨g,5,none⟩=false:=⟨cz6 h,fz6 h⟩
end
section
variable {α β:Type} {d:Kd α} {d':Kd β} {e e' base base' g:Nat} {w w0 w1 w2 w3 W W2:World} {ok ok' S P:Nat→Prop} {u v:Value} {xs:List α} {ys:List β} {ob:Obj}
theorem rf(i:Nat){u:Value}(h:d.R e w base (fun k=>ok k∧k≠g) v xs):d.R e (w.setCell ⟨g,i,none⟩ u) base (fun k=>ok k∧k≠g) v xs:=Kd.JT h (fun _ hk=>hk.2) u
theorem rm(h:d.R e w base (fun k=>ok k∧k≠g) v xs):d.R e w base ok v xs:=Kd.JC h (fun _ h=>h.1)
theorem rp(h:Aside0 (d.R e w base (fun k=>ok k∧k≠g) v xs)):d.R e w base (fun k=>(ok k∧k≠g)∧k≠g) v xs:=Kd.JC h.out (fun _ hk=>⟨hk,hk.2⟩)
theorem rq(h:Aside0 (d.R e w base (fun k=>k≠g) v xs)):d.R e w base (fun k=>k≠g∧k≠g) v xs:=Kd.JC h.out (fun _ hk=>⟨hk,hk⟩)
theorem ry{cs:Array Value}{T:TypeId}(h:Aside0 (d.R e w base ok v xs))(k:Aside0 (w.heap[g]? = some (.cells cs T (0,0))))(hd :∀q,q∈e::d.E→q≠T:=by decide):d.R e w base (fun k=>ok k∧k≠g) v xs:=Kd.YJ h.out k.out hd
theorem gG{cs:Array Value}{T:TypeId}(k:Aside0 (w.heap[g]? = some (.cells cs T (0,0))))(hg:W.grownBy W2 v.ownBlock)(o:Aside0 (d.R e w base ok v xs))(h:Below w.heap.size w W:=by repeat(with_reducible first|exact Below.refl _ _|apply kO|apply kM|apply kQ))(hd:e≠T:=by decide):Aside0 (W2.heap[g]? = some (.cells cs T (0,0))):=⟨qT (kJ k.out h) hg (Kd.YM o.out k.out hd)⟩
theorem oV(k:Aside0 (d.R e w base ok u xs))(l:Aside0 (d'.R e' w1 base' ok' v ys))(hg:W.grownBy W2 v.ownBlock)(h:Below w.heap.size w W:=by repeat(with_reducible first|exact Below.refl _ _|apply kO|apply kM|apply kQ))(h1:Below w1.heap.size w1 W:=by repeat(with_reducible first|exact Below.refl _ _|apply kO|apply kM|apply kQ))(hd :∀q,q∈e::d.E→q≠e':=by decide):Aside0 (d.R e W2 base ok u xs):=⟨Kd.JI (Kd.JK k.out h) (Kd.JG (Kd.JK l.out h1)) hd hg⟩
theorem kK(k:Aside0 (Kept w w1 S))(hk:KeepBut W W2 g none)(h:Kept w W S:=by exact sK HK.out)(hs:S g:=by exact .inr rfl):Aside0 (Kept w W2 S):=⟨qW h hk (.inl hs)⟩
theorem tA(o:Aside0 (d.R e w1 base (fun k=>P k∨w.heap.size≤k) v xs))(hk:Kept W W2 (fun k=>some k=v.ownBlock∨k=g))(h:Kept w W (fun k=>P k∨k=g):=by exact sK HK.out):Aside0 (Kept w W2 (fun k=>P k∨k=g)):=⟨Kept.then_ h hk (fun k hs=>Or.elim hs (fun e=>Or.imp_left Or.inl (o.out.1 k e.symm)) (fun e=> .inl (.inr e)))⟩
theorem tB(o:Aside0 (d.R e w1 base (fun k=>P k∨w.heap.size≤k) v xs))(hk:Kept W W2 (fun k=>some k=v.ownBlock))(h:Kept w W (fun k=>P k∨k=g):=by exact sK HK.out):Aside0 (Kept w W2 (fun k=>P k∨k=g)):=⟨Kept.then_ h hk (fun k e=>Or.imp_left Or.inl (o.out.1 k e.symm))⟩
theorem mA(n:d'.R e' W2 base' (fun k=>some k=v.ownBlock∨W.heap.size≤k) u ys)(o:Aside0 (d.R e w1 base (fun k=>P k∨w.heap.size≤k) v xs))(h:w.heap.size≤W.heap.size:=by exact HK.out.1):Aside0 (d'.R e' W2 base' (fun k=>P k∨w.heap.size≤k) u ys):=⟨Kd.JC n (fun k hk=>Or.elim hk (fun e=>o.out.1 k e.symm) (fun h'=> .inr (Nat.le_trans h h')))⟩
theorem cA{n:Nat}{A:Option Addr}(c:Aside0 (∀W',Kept w W' (fun k=>P k∨k=g)→d'.C W' A n ys))(o:Aside0 (d.R e w1 base (fun k=>P k∨w.heap.size≤k) v xs))(h:Kept w W (fun k=>P k∨k=g):=by exact sK HK.out) :∀W',Kept W W' (fun k=>some k=v.ownBlock∨k=g)→d'.C W' A n ys:=Kd.YV c.out h (fun k hs=>Or.elim hs (fun e=>Or.imp_left Or.inl (o.out.1 k e.symm)) (fun e=> .inl (.inr e)))
theorem hX(hb:Below W.heap.size W W2)(h:Below w0.heap.size w0 W:=by exact bW):Aside0 (Below w0.heap.size w0 W2):=⟨zP h hb⟩
theorem gw(hg:g=W.heap.size)(h:Below w.heap.size w W:=by exact bW):Aside0 (w.heap.size≤g):=⟨by rw[hg];exact kG h⟩
theorem kT{g:Nat}{r:Option Nat}(hk:KeepBut W W2 g r)(h:KeepBut w W g r:=by exact kB):Aside0 (KeepBut w W2 g r):=⟨KeepBut.trans h hk (.inl rfl)⟩
theorem pn{T:TypeId}{x0 x1 x2 x3 x4 x5 y0 y1 y2 y3 y4 y5:Value}(h:w.heap[g]? = some (.cells #[x0,x1,x2,x3,x4,x5] T (0,0))):((((((w.setCell ⟨g,0,none⟩ y0).setCell ⟨g,1,none⟩ y1).setCell ⟨g,2,none⟩ y2).setCell ⟨g,3,none⟩ y3).setCell ⟨g,4,none⟩ y4).setCell ⟨g,5,none⟩ y5).heap[g]? = some (.cells #[y0,y1,y2,y3,y4,y5] T (0,0)):=pB (cs':= #[y0,y1,y2,y3,y4,y5]) (pB (cs':= #[y0,y1,y2,y3,y4,x5]) (pB (cs':= #[y0,y1,y2,y3,x4,x5]) (pB (cs':= #[y0,y1,y2,x3,x4,x5]) (pB (cs':= #[y0,y1,x2,x3,x4,x5]) (pB (cs':= #[y0,x1,x2,x3,x4,x5]) h 0 y0 rfl) 1 y1 rfl) 2 y2 rfl) 3 y3 rfl) 4 y4 rfl) 5 y5 rfl
end
theorem dR{P:Prop}(h:P:=by repeat(first|exact Drawn0.refl _|apply Drawn0.step)):P:=h
theorem oS{α β:Type}{x:α}{f:α→Option β}{b:β}(h:(some x).bind f=some b) :∃y,Aside0 (y=x)∧f y=some b:=⟨x,⟨rfl⟩,h⟩
section
variable {P:Program} {ops:Array Oper} {Q:Exit→Act→World→Prop} {rest:List Oper} {o:Oper} {a:Act} {W:World}
theorem gW(h:wpList P ops Q (o::rest) a W):wpList P ops Q (o::rest) a W:=h
theorem gF(f:FuncId)(N:Option Tmp){as:Array Operand}{ts:Array TypeId}(_ho:(o.op,o.dst)=(.call {callee:= .value (.func f),args:=as,argTypes:=ts},N))(h:wpList P ops Q (o::rest) a W):wpList P ops Q (o::rest) a W:=h
theorem gS{N:Option Tmp}{f:FuncId}{fn:Func}(hf:P.funcs[f]? = some fn){as:Array Operand}{ts:Array TypeId}{args:Array Value}{v:Value}{R:World→Prop}(h:Calls P f args W fun e w'=>e= .returned v∧R w')(k :∀w',R w'→wpList P ops Q rest (a.put N v) w')
  (hop : o.op = .call { callee := .value (.func f), args := as, argTypes := ts } := by with_reducible rfl) (hd : o.dst = N := by rfl) (hg : o.guard = none := by rfl) (hname : (fn.name == "runtime.NumGoroutine") = false := by kernel_rfl) (hb : fn.body.isSome = true := by rfl) (hargs : as.map a.eval = args := by (try simp only [List.map_toArray, List.map_cons, List.map_nil]); first | done | rfl | (simp only [List.length_drop, List.length_take]; rfl)) : wpList P ops Q (o :: rest) a W := b3g N hd hg hf hname hb args hop hargs (h.mono (fun e w' hr => ⟨v, hr.1, k w' hr.2⟩))
theorem gT{X:Type}{N:Option Tmp}{f:FuncId}{fn:Func}(hf:P.funcs[f]? = some fn){as:Array Operand}{ts:Array TypeId}{args:Array Value}{V:X→Value}{R:X→World→Prop}(h:Calls P f args W fun e w' =>∃x,e= .returned (V x)∧R x w')(k :∀x w',R x w'→wpList P ops Q rest (a.put N (V x)) w')
  (hop : o.op = .call { callee := .value (.func f), args := as, argTypes := ts } := by with_reducible rfl) (hd : o.dst = N := by rfl) (hg : o.guard = none := by rfl) (hname : (fn.name == "runtime.NumGoroutine") = false := by kernel_rfl) (hb : fn.body.isSome = true := by rfl) (hargs : as.map a.eval = args := by (try simp only [List.map_toArray, List.map_cons, List.map_nil]); first | done | rfl | (simp only [List.length_drop, List.length_take]; rfl)) : wpList P ops Q (o :: rest) a W := b3g N hd hg hf hname hb args hop hargs (h.mono (fun e w' hr => by obtain ⟨x, h1, h2⟩ := hr; exact ⟨V x, h1, k x w' h2⟩))
theorem gD(N:Option Tmp){f:FuncId}{fn:Func}(hf:P.funcs[f]? = some fn){as:Array Operand}{ts:Array TypeId}{args:Array Value}{v:Value}(hod:(o.op,o.dst)=(.call {callee:= .value (.func f),args:=as,argTypes:=ts},N))(h:Calls P f args W fun e w'=>e= .returned v∧Drawn0 W w')(k :∀nd,wpList P ops Q rest (a.put N v) (W.drewN nd))
  (hg : o.guard = none := by rfl) (hname : (fn.name == "runtime.NumGoroutine") = false := by kernel_rfl) (hb : fn.body.isSome = true := by rfl) (hargs : as.map a.eval = args := by (try simp only [List.map_toArray, List.map_cons, List.map_nil]); first | done | rfl | (simp only [List.length_drop, List.length_take]; rfl)) : wpList P ops Q (o :: rest) a W := b3g N (Prod.mk.inj hod).2 hg hf hname hb args (Prod.mk.inj hod).1 hargs (h.mono (fun e w' hr => by obtain ⟨rfl, ⟨nd, rfl⟩⟩ := hr; exact ⟨v, rfl, k nd⟩))
end
section
variable {p q E:Prop} [Decidable q]
theorem iy(f:p→q→E)(h0:p:=by omega)(h1:decide q=true:=by assumption):(p=True)∧(q=True)∧E:=⟨eq_true h0,eq_true (of_decide_eq_true h1),f h0 (of_decide_eq_true h1)⟩
end
theorem oQ{z:Int}{n m:Nat}(h:(z<(m:Int))=True)(e:z=(n:Int):=by rfl):(n<m)=True:=by
 have:=of_eq_true h;exact eq_true (by omega)
theorem oM{P:Prop}(h:P:=by omega):P:=h
end Go.D_
