import Derived.Test.YtkkjlpfomofiaaaGreatDoorXWords
import Derived.Test.YtkkjlpfomofiaaaGreatDoorXW
import Derived.WalkKit
import Derived.BigCall
namespace Go.Proofs.YtkkjlpfomofiaaaGreatDoor.Q
open Go Go.RowKit YtkkjlpfomofiaaaGreatDoorW.PrintWords YtkkjlpfomofiaaaGreatDoorW.PrintLast YtkkjlpfomofiaaaGreatDoorW.PrintMore
theorem a {p:Prop} (h:p):Aside0 p:=⟨h⟩
theorem bw {n:Nat} {u w w':World} (HB:Aside0 (Below n u w)) (h:Below n u w→Below n u w':=by intro h_;(repeat (first | (with_reducible first | exact h_ | apply aAr | apply aAn | apply aAw) | exact h_))):Below n u w':=h HB.out
theorem bw1 {n a:Nat} {u w w':World} (HB:Aside0 (Below n u w)) (A:Aside0 (n≤a)) (h:Below n u w→n≤a→Below n u w':=by intro h_ a_;(repeat (first | (with_reducible first | exact h_ | apply aAr | apply aAn | apply aAw | refine aAq ?_ a_) | exact h_))):Below n u w':=h HB.out A.out
theorem kr {A B:Prop} (H:Aside0 A) (h:A→B:=by intro h_;(with_reducible repeat (first | apply Kd.R_alloc | apply Kd.R_drewN | apply Kd.R_drew));exact h_):B:=h H.out
theorem bb {w0 w w1:World} {g:Nat} {o:Obj} (B:Aside0 (w0.heap[g]?=some o)) (hb:Below w.heap.size w w1) (h:w0.heap[g]?=some o→w.heap[g]?=some o:=by intro h_;(with_reducible repeat (first | refine aM3 ?_ _ | refine aNI ?_ | refine aM2 ?_ _));exact h_):w1.heap[g]?=some o:=aM4 (h B.out) hb
theorem dd {p:Prop} (h:p:=by first | exact ⟨rfl,_,World.drewN_drewN _ _ _⟩ | exact ⟨rfl,_,Eq.trans (World.drewN_drewN _ _ _) (congrArg (World.drewN _) (Nat.add_assoc _ _ _))⟩):p:=h
theorem od {p:Prop} [d:Decidable p] (h:decide p=true:=by first | (with_reducible assumption) | assumption):p:=of_decide_eq_true h
theorem en {p:Prop} (h:p:=by first | rfl | (simp [errW_none,errW_some]<;>rfl) | (simp [*,errW_none,errW_some]<;>rfl)):p:=h
theorem rs {p:Prop} (h:p:=by first | rfl | (simp;done) | (simp [*];done)):p:=h
theorem gs {n g m:Nat} (hg:g=m) (h:n≤m):n≤g:=hg ▸ h
section
variable {P:Program} {ops:Array Oper} {o:Oper} {rest:List Oper} {a:Act} {Q:Exit→Act→World→Prop} {W:World}
theorem gl (D:Tmp) {f:FuncId} {fn:Func} {as:Array Operand} {ts:Array TypeId} (hf:P.funcs[f]?=some fn) (args:Array Value) (hd:o.dst=some D) (hg:o.guard=none) (hb:fn.body.isSome=true)
  (hop:o.op=.call { callee:=.value (.func f),args:=as,argTypes:=ts }) (h:Calls P f args W fun e w'=>∃ v,e=.returned v∧wpList P ops Q rest (a.put (some D) v) w')
  (hname : (fn.name == "runtime.NumGoroutine") = false := by kernel_rfl)
  (hargs:as.map a.eval=args:=by (try simp only [List.map_toArray,List.map_cons,List.map_nil]);first | done | rfl | (simp only [List.length_drop,List.length_take];rfl)):wpList P ops Q (o::rest) a W:=aMA (some D) hd hg hf hname hb args hop hargs h
end
end Go.Proofs.YtkkjlpfomofiaaaGreatDoor.Q
