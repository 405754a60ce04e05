/- Steps that recur in the printed walks, under short names: each with its script as a default. -/
import Derived.Test.YtpokflilobkoaaaDoorXWords
import Derived.Test.YtpokflilobkoaaaDoorXW
import Derived.WalkKit
import Derived.BigCall
namespace Go.Proofs.YtpokflilobkoaaaDoor.Q
open Go Go.RowKit Go.Proofs.YtpokflilobkoaaaDoorW.PrintWords Go.Proofs.YtpokflilobkoaaaDoorW.PrintLast Go.Proofs.YtpokflilobkoaaaDoorW.PrintMore
theorem a {p : Prop} (h : p) : Aside0 p := ⟨h⟩
/-- What stood stays behind blocks, draws and stores into one's own. -/
theorem bw {n : Nat} {u w w' : World} (HB : Aside0 (Below n u w)) (h : Below n u w → Below n u w' := by intro h_; (repeat (first | (with_reducible first | exact h_ | apply below_alloc | apply pw_below_drewN | apply below_drew1) | exact h_))) : Below n u w' := h HB.out
theorem bw1 {n a : Nat} {u w w' : World} (HB : Aside0 (Below n u w)) (A : Aside0 (n ≤ a)) (h : Below n u w → n ≤ a → Below n u w' := by intro h_ a_; (repeat (first | (with_reducible first | exact h_ | apply below_alloc | apply pw_below_drewN | apply below_drew1 | refine below_set ?_ a_) | exact h_))) : Below n u w' := h HB.out A.out
theorem bw2 {n a b : Nat} {u w w' : World} (HB : Aside0 (Below n u w)) (A : Aside0 (n ≤ a)) (B : Aside0 (n ≤ b)) (h : Below n u w → n ≤ a → n ≤ b → Below n u w' := by intro h_ a_ b_; (repeat (first | (with_reducible first | exact h_ | apply below_alloc | apply pw_below_drewN | apply below_drew1 | refine below_set ?_ a_ | refine below_set ?_ b_) | exact h_))) : Below n u w' := h HB.out A.out B.out
theorem bw3 {n a b c : Nat} {u w w' : World} (HB : Aside0 (Below n u w)) (A : Aside0 (n ≤ a)) (B : Aside0 (n ≤ b)) (C : Aside0 (n ≤ c)) (h : Below n u w → n ≤ a → n ≤ b → n ≤ c → Below n u w' := by intro h_ a_ b_ c_; (repeat (first | (with_reducible first | exact h_ | apply below_alloc | apply pw_below_drewN | apply below_drew1 | refine below_set ?_ a_ | refine below_set ?_ b_ | refine below_set ?_ c_) | exact h_))) : Below n u w' := h HB.out A.out B.out C.out
theorem bw4 {n a b c d : Nat} {u w w' : World} (HB : Aside0 (Below n u w)) (A : Aside0 (n ≤ a)) (B : Aside0 (n ≤ b)) (C : Aside0 (n ≤ c)) (D : Aside0 (n ≤ d)) (h : Below n u w → n ≤ a → n ≤ b → n ≤ c → n ≤ d → Below n u w' := by intro h_ a_ b_ c_ d_; (repeat (first | (with_reducible first | exact h_ | apply below_alloc | apply pw_below_drewN | apply below_drew1 | refine below_set ?_ a_ | refine below_set ?_ b_ | refine below_set ?_ c_ | refine below_set ?_ d_) | exact h_))) : Below n u w' := h HB.out A.out B.out C.out D.out
theorem bw5 {n a b c d e : Nat} {u w w' : World} (HB : Aside0 (Below n u w)) (A : Aside0 (n ≤ a)) (B : Aside0 (n ≤ b)) (C : Aside0 (n ≤ c)) (D : Aside0 (n ≤ d)) (E : Aside0 (n ≤ e)) (h : Below n u w → n ≤ a → n ≤ b → n ≤ c → n ≤ d → n ≤ e → Below n u w' := by intro h_ a_ b_ c_ d_ e_; (repeat (first | (with_reducible first | exact h_ | apply below_alloc | apply pw_below_drewN | apply below_drew1 | refine below_set ?_ a_ | refine below_set ?_ b_ | refine below_set ?_ c_ | refine below_set ?_ d_ | refine below_set ?_ e_) | exact h_))) : Below n u w' := h HB.out A.out B.out C.out D.out E.out
theorem kr {A B : Prop} (H : Aside0 A) (h : A → B := by intro h_; (with_reducible repeat (first | apply Kd.R_alloc | apply Kd.R_drewN | apply Kd.R_drew)); exact h_) : B := h H.out
theorem kb {A B : Prop} (H : Aside0 A) (h : A → B := by intro h_; (with_reducible repeat (first | refine blk_drewN ?_ _ | refine blk_drew ?_ | refine blk_alloc ?_ _)); exact h_) : B := h H.out
theorem od {p : Prop} [d : Decidable p] (h : decide p = true := by first | (with_reducible assumption) | assumption) : p := of_decide_eq_true h
theorem en {p : Prop} (h : p := by first | rfl | (simp [errW_none, errW_some] <;> rfl) | (simp [*, errW_none, errW_some] <;> rfl)) : p := h
theorem rs {p : Prop} (h : p := by first | rfl | (simp; done) | (simp [*]; done)) : p := h
theorem gs {n g m : Nat} (hg : g = m) (h : n ≤ m) : n ≤ g := hg ▸ h
section
variable {P : Program} {ops : Array Oper} {o : Oper} {rest : List Oper} {a : Act} {Q : Exit → Act → World → Prop} {W : World}
theorem gl (D : Tmp) {f : FuncId} {fn : Func} {as : Array Operand} {ts : Array TypeId} (hf : P.funcs[f]? = some fn) (args : Array Value) (hd : o.dst = some D) (hg : o.guard = none) (hb : fn.body.isSome = true)
    (hop : o.op = .call { callee := .value (.func f), args := as, argTypes := ts }) (h : Calls P f args W fun e w' => ∃ v, e = .returned v ∧ wpList P ops Q rest (a.put (some D) v) w')
    (hname : (fn.name == "runtime.NumGoroutine") = false := by kernel_rfl)
    (hargs : as.map a.eval = args := by (try simp only [List.map_toArray, List.map_cons, List.map_nil]); first | done | rfl | (simp only [List.length_drop, List.length_take]; rfl)) : wpList P ops Q (o :: rest) a W := goesL_ (some D) hd hg hf hname hb args hop hargs h
theorem bx (N : Tmp) (cs : Array Value) (t : TypeId) (hd : o.dst = some N) (hg : o.guard = none)
    (h : ∀ g, g = W.heap.size → ∀ w1, w1.heap[g]? = some (.cells cs t (0, 0)) → Below W.heap.size W w1 → wpList P ops Q rest (a.put o.dst (.pointer (some ⟨g, 0, none⟩))) w1)
    (hrun : (execOp a.eval o).run P W = .ok (.value (.pointer (some ⟨W.heap.size, 0, none⟩))) (W.alloc (.cells cs t (0, 0))) := by first | (go_simp; done) | (go_simp; rfl)) : wpList P ops Q (o :: rest) a W := box_event hg hd hrun h
end
end Go.Proofs.YtpokflilobkoaaaDoor.Q
