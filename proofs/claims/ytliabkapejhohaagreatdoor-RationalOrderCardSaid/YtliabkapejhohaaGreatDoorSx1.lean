/- MERGED by merge.py: SxA SxB SxC SxD SxE SxF -/
import Derived.WalkKit
import Derived.Calls
import Derived.OrdersHeld
import Derived.Test.YtliabkapejhohaaGreatDoorXWords
import Derived.Laws.Sem
import Derived.Below
/- A symbolic run of structured code, part one: what symbols stand for; computations that touch no world. -/
namespace Go.Proofs.YtliabkapejhohaaGreatDoor.Sx
open Go

/-! ### computations that touch no world -/
/-- What a computation yields that only looks at the program. -/
def quiet {α : Type} (P : Program) : Sem α → Option α
  | .pure a => some a
  | .program k => quiet P (k P)
  | _ => none
theorem quiet_run {α : Type} {P : Program} (s : Sem α) : ∀ {a : α} (w : World), quiet P s = some a → s.run P w = .ok a w := by
  induction s with
  | pure b =>
    intro a w h
    obtain rfl := Option.some.inj h
    rfl
  | program k ih =>
    intro a w h
    show (k P).run P w = .ok a w
    exact ih P w h
  | _ => intro a w h; cases h
theorem quiet_bind {α β : Type} {P : Program} (s : Sem α) (f : α → Sem β) : ∀ {a : α}, quiet P s = some a → quiet P (s.bind f) = quiet P (f a) := by
  induction s with
  | pure b =>
    intro a h
    obtain rfl := Option.some.inj h
    rfl
  | program k ih =>
    intro a h
    show quiet P ((k P).bind f) = _
    exact ih P h
  | _ => intro a h; cases h
theorem quiet_bind_some {α β : Type} {P : Program} {s : Sem α} {f : α → Sem β} {a : α} {b : β} (h : quiet P s = some a) (g : quiet P (f a) = some b) : quiet P (s >>= f) = some b := by
  show quiet P (s.bind f) = some b
  rw [quiet_bind s f h, g]
theorem run_value {P : Program} {s : Sem Value} {v : Value} (w : World) (h : quiet P s = some v) : (do Pure.pure (Next.value (← s)) : Sem Next).run P w = .ok (.value v) w :=
  quiet_run _ w (quiet_bind_some h rfl)
theorem run_bind_ok {α β : Type} {P : Program} {s : Sem α} {f : α → Sem β} {w w' : World} {a : α} (h : s.run P w = .ok a w') : (s.bind f).run P w = (f a).run P w' := by
  have := Sem.run_bind' P s f w
  rw [h] at this
  exact this

/-! ### two lists side by side -/
def All2 {α β : Type} (R : α → β → Prop) : List α → List β → Prop
  | [], [] => True
  | a :: l, b :: m => R a b ∧ All2 R l m
  | _, _ => False
namespace All2
variable {α β : Type} {R R' : α → β → Prop}
theorem length : ∀ {l : List α} {m : List β}, All2 R l m → l.length = m.length
  | [], [], _ => rfl
  | _ :: _, _ :: _, h => by rw [List.length_cons, List.length_cons, length h.2]
  | [], _ :: _, h => h.elim
  | _ :: _, [], h => h.elim
theorem mono (hR : ∀ a b, R a b → R' a b) : ∀ {l : List α} {m : List β}, All2 R l m → All2 R' l m
  | [], [], _ => trivial
  | _ :: _, _ :: _, h => ⟨hR _ _ h.1, mono hR h.2⟩
  | [], _ :: _, h => h.elim
  | _ :: _, [], h => h.elim
theorem get : ∀ {l : List α} {m : List β} {i : Nat} {a : α}, All2 R l m → l[i]? = some a → ∃ b, m[i]? = some b ∧ R a b
  | x :: _, y :: _, 0, a, h, e => ⟨y, rfl, by rw [← (show x = a by simpa using e)]; exact h.1⟩
  | _ :: l, _ :: m, i + 1, a, h, e => by
    obtain ⟨b, hb, hr⟩ := get (i := i) h.2 (by simpa using e)
    exact ⟨b, by simpa using hb, hr⟩
  | [], [], _, _, _, e => by simp at e
  | [], _ :: _, _, _, h, _ => h.elim
  | _ :: _, [], _, _, h, _ => h.elim
theorem app : ∀ {l l' : List α} {m m' : List β}, All2 R l m → All2 R l' m' → All2 R (l ++ l') (m ++ m')
  | [], _, [], _, _, h => h
  | _ :: _, _, _ :: _, _, h, h' => ⟨h.1, app h.2 h'⟩
  | [], _, _ :: _, _, h, _ => h.elim
  | _ :: _, _, [], _, h, _ => h.elim
theorem set : ∀ {l : List α} {m : List β} {a : α} {b : β} (i : Nat), All2 R l m → R a b → All2 R (l.set i a) (m.set i b)
  | [], [], _, _, _, _, _ => trivial
  | _ :: _, _ :: _, _, _, 0, h, r => ⟨r, h.2⟩
  | _ :: _, _ :: _, _, _, i + 1, h, r => ⟨h.1, set i h.2 r⟩
  | [], _ :: _, _, _, _, h, _ => h.elim
  | _ :: _, [], _, _, _, h, _ => h.elim
theorem drop : ∀ {l : List α} {m : List β} (i : Nat), All2 R l m → All2 R (l.drop i) (m.drop i)
  | _, _, 0, h => h
  | [], [], _ + 1, h => h
  | _ :: _, _ :: _, i + 1, h => drop i h.2
  | [], _ :: _, _, h => h.elim
  | _ :: _, [], _, h => h.elim
theorem take : ∀ {l : List α} {m : List β} (i : Nat), All2 R l m → All2 R (l.take i) (m.take i)
  | _, _, 0, _ => trivial
  | [], [], _ + 1, h => h
  | _ :: _, _ :: _, i + 1, h => ⟨h.1, take i h.2⟩
  | [], _ :: _, _, h => h.elim
  | _ :: _, [], _, h => h.elim
theorem split : ∀ {l : List α} {m : List β} {l' : List α}, All2 R (l ++ l') m → ∃ m1 m2, m = m1 ++ m2 ∧ All2 R l m1 ∧ All2 R l' m2
  | [], m, _, h => ⟨[], m, rfl, trivial, h⟩
  | _ :: _, b :: m, _, h => by
    obtain ⟨m1, m2, rfl, h1, h2⟩ := split h.2
    exact ⟨b :: m1, m2, rfl, ⟨h.1, h1⟩, h2⟩
  | _ :: _, [], _, h => h.elim
theorem of_map {γ : Type} {f : γ → α} : ∀ {l : List γ} {m : List β}, All2 (fun c b => R (f c) b) l m → All2 R (l.map f) m
  | [], [], _ => trivial
  | _ :: _, _ :: _, h => ⟨h.1, of_map h.2⟩
  | [], _ :: _, h => h.elim
  | _ :: _, [], h => h.elim
end All2
theorem get_pre {α : Type} {l m : List α} {i : Nat} {a : α} (h : l <+: m) (e : l[i]? = some a) : m[i]? = some a := by
  obtain ⟨t, rfl⟩ := h
  rw [List.getElem?_append_left (List.getElem?_eq_some_iff.1 e).1]
  exact e

/-! ### what a value holds -/
/-- What may lie in one cell. -/
def cellB : Value → Bool
  | .agg _ | .tuple _ => false
  | _ => true
theorem cells_of {v : Value} (h : cellB v = true) : v.cells = #[v] := by
  cases v <;> first | rfl | cases h
/-- A plain value; or a slice of n elements, with their cells. -/
inductive D where
  | v (x : Value)
  | l (n : Nat) (ds : List D)
  deriving Inhabited
/-- Memory that stays as it is: block, offset. -/
abbrev Hp := Nat → Nat → Option Value
mutual
def D.at (H : Hp) : D → Value → Prop
  | .v x, y => y = x ∧ cellB x = true
  | .l n ds, y => ∃ a c, y = .slice a n c ∧ (ds = [] ∨ ∃ b o, a = some ⟨b, o, none⟩ ∧ D.ats H b o ds)
def D.ats (H : Hp) (b o : Nat) : List D → Prop
  | [] => True
  | d :: ds => (∃ x, H b o = some x ∧ D.at H d x) ∧ D.ats H b (o + 1) ds
end
def Hp.le (H H' : Hp) : Prop := ∀ b o x, H b o = some x → H' b o = some x
theorem Hp.le.refl (H : Hp) : Hp.le H H := fun _ _ _ h => h
theorem Hp.le.trans {A B C : Hp} (h : Hp.le A B) (g : Hp.le B C) : Hp.le A C := fun b o x e => g b o x (h b o x e)
mutual
theorem D.at_mono {H H' : Hp} (h : Hp.le H H') : ∀ (d : D) (y : Value), D.at H d y → D.at H' d y
  | .v _, _, e => e
  | .l n ds, y, e => by
    unfold D.at at e ⊢
    obtain ⟨a, c, e1, e2⟩ := e
    refine ⟨a, c, e1, ?_⟩
    rcases e2 with e2 | ⟨b, o, e2, e3⟩
    · exact .inl e2
    · exact .inr ⟨b, o, e2, D.ats_mono h ds b o e3⟩
theorem D.ats_mono {H H' : Hp} (h : Hp.le H H') : ∀ (ds : List D) (b o : Nat), D.ats H b o ds → D.ats H' b o ds
  | [], _, _, _ => by unfold D.ats; trivial
  | d :: ds, b, o, e => by
    unfold D.ats at e ⊢
    obtain ⟨⟨x, e1, e2⟩, e3⟩ := e
    exact ⟨⟨x, h _ _ _ e1, D.at_mono h d x e2⟩, D.ats_mono h ds b (o + 1) e3⟩
end
theorem D.at_cell {H : Hp} : ∀ {d : D} {y : Value}, D.at H d y → cellB y = true
  | .v _, _, e => by
    unfold D.at at e
    rw [e.1]
    exact e.2
  | .l _ _, _, e => by
    unfold D.at at e
    obtain ⟨a, c, e1, _⟩ := e
    rw [e1]
    rfl
theorem D.at_v {H : Hp} {x y : Value} : D.at H (.v x) y ↔ y = x ∧ cellB x = true := by unfold D.at; exact Iff.rfl

/-! ### symbols -/
/-- One cell. -/
inductive S where
  | var (i : Nat)
  | const (v : Value)
  | ptr (b o : Nat)
  | slice (b o len cap : Nat)
  | func (f : FuncId) (cap : List (Nat × Nat))
  deriving Inhabited
/-- A value of one cell, or of several. -/
inductive V1 (α : Type) where
  | one (s : α)
  | agg (ss : List α)
  deriving Inhabited
inductive V (α : Type) where
  | v1 (v : V1 α)
  | tup (vs : List (V1 α))
  | junk
  deriving Inhabited
/-- The values bound so far; where the blocks of one's own lie; what stays as it is. -/
structure Cx where
  env : List D
  ρ : List Nat
  H : Hp
def S.at (c : Cx) : S → Value → Prop
  | .var i, v => ∃ d, c.env[i]? = some d ∧ D.at c.H d v
  | .const x, v => v = x ∧ cellB v = true
  | .ptr b o, v => ∃ n, c.ρ[b]? = some n ∧ v = .pointer (some ⟨n, o, none⟩)
  | .slice b o l k, v => ∃ n, c.ρ[b]? = some n ∧ v = .slice (some ⟨n, o, none⟩) l k
  | .func f cap, v => ∃ vs : List Value, All2 (fun p x => ∃ n, c.ρ[p.1]? = some n ∧ x = Value.pointer (some ⟨n, p.2, none⟩)) cap vs ∧ v = .func (.func f) #[] vs.toArray
def V1.at {α : Type} (R : α → Value → Prop) : V1 α → Value → Prop
  | .one s, v => R s v
  | .agg ss, v => ∃ vs : List Value, All2 R ss vs ∧ v = .agg vs.toArray
def V.at {α : Type} (R : α → Value → Prop) : V α → Value → Prop
  | .v1 x, v => x.at R v
  | .tup xs, v => ∃ vs : List Value, All2 (V1.at R) xs vs ∧ v = .tuple vs.toArray
  | .junk, _ => True
structure Ext (c c' : Cx) : Prop where
  env : c.env <+: c'.env
  ρ : c.ρ <+: c'.ρ
  H : Hp.le c.H c'.H
theorem Ext.refl (c : Cx) : Ext c c := ⟨List.prefix_refl _, List.prefix_refl _, Hp.le.refl _⟩
theorem Ext.trans {a b c : Cx} (h : Ext a b) (g : Ext b c) : Ext a c := ⟨h.env.trans g.env, h.ρ.trans g.ρ, h.H.trans g.H⟩
theorem S.at_mono {c c' : Cx} (h : Ext c c') : ∀ (s : S) (v : Value), s.at c v → s.at c' v
  | .var _, _, ⟨d, e, g⟩ => ⟨d, get_pre h.env e, D.at_mono h.H _ _ g⟩
  | .const _, _, e => e
  | .ptr _ _, _, ⟨n, g, e⟩ => ⟨n, get_pre h.ρ g, e⟩
  | .slice _ _ _ _, _, ⟨n, g, e⟩ => ⟨n, get_pre h.ρ g, e⟩
  | .func _ _, _, ⟨vs, g, e⟩ => ⟨vs, g.mono fun _ _ ⟨n, g, e⟩ => ⟨n, get_pre h.ρ g, e⟩, e⟩
theorem V1.at_mono {α : Type} {R R' : α → Value → Prop} (h : ∀ a b, R a b → R' a b) : ∀ (s : V1 α) (v : Value), s.at R v → s.at R' v
  | .one s, v, e => h s v e
  | .agg _, _, ⟨vs, g, e⟩ => ⟨vs, g.mono h, e⟩
theorem V.at_mono {α : Type} {R R' : α → Value → Prop} (h : ∀ a b, R a b → R' a b) : ∀ (s : V α) (v : Value), s.at R v → s.at R' v
  | .v1 s, v, e => V1.at_mono h s v e
  | .tup _, _, ⟨vs, g, e⟩ => ⟨vs, g.mono (V1.at_mono h), e⟩
  | .junk, _, _ => trivial
theorem S.at_cell {c : Cx} : ∀ {s : S} {v : Value}, s.at c v → cellB v = true
  | .var _, _, ⟨_, _, g⟩ => D.at_cell g
  | .const _, _, h => h.2
  | .ptr _ _, _, ⟨_, _, e⟩ => by rw [e]; rfl
  | .slice _ _ _ _, _, ⟨_, _, e⟩ => by rw [e]; rfl
  | .func _ _, _, ⟨_, _, e⟩ => by rw [e]; rfl
/-- The cells of a value. -/
def V1.cells {α : Type} : V1 α → List α
  | .one s => [s]
  | .agg ss => ss
theorem V1.at_cells {c : Cx} : ∀ {x : V1 S} {v : Value}, x.at (S.at c) v → All2 (S.at c) x.cells v.cells.toList
  | .one s, v, h => by
    rw [cells_of (S.at_cell h)]
    exact ⟨h, trivial⟩
  | .agg ss, v, ⟨vs, h, e⟩ => by
    subst e
    exact h
theorem S.cells_cell {c : Cx} : ∀ {l : List S} {vs : List Value}, All2 (S.at c) l vs → ∀ v ∈ vs, cellB v = true
  | _ :: _, x :: vs, h, v, hv => by
    rcases List.mem_cons.1 hv with rfl | hv
    · exact S.at_cell h.1
    · exact S.cells_cell h.2 v hv
  | _, [], _, v, hv => by cases hv
  | [], _ :: _, h, _, _ => h.elim

/-! ### what a symbol without addresses of one's own comes to -/
def vals {α β : Type} (f : α → Option β) : List α → Option (List β)
  | [] => some []
  | a :: l => (f a).bind fun v => (vals f l).bind fun vs => some (v :: vs)
def S.val (env : List D) : S → Option D
  | .var i => env[i]?
  | .const v => some (.v v)
  | _ => none
def V1.val {α β : Type} (f : α → Option β) : V1 α → Option (V1 β)
  | .one s => (f s).bind fun d => some (.one d)
  | .agg ss => (vals f ss).bind fun ds => some (.agg ds)
theorem S.val_at {c : Cx} : ∀ {s : S} {v : Value} {d : D}, s.at c v → s.val c.env = some d → D.at c.H d v
  | .var _, _, _, ⟨d, h, g⟩, e => by rw [← Option.some.inj (h.symm.trans e)]; exact g
  | .const _, _, _, h, e => by rw [← Option.some.inj e]; exact D.at_v.2 ⟨h.1, h.1 ▸ h.2⟩
  | .ptr _ _, _, _, _, e => by cases e
  | .slice _ _ _ _, _, _, _, e => by cases e
  | .func _ _, _, _, _, e => by cases e
theorem vals_at {α β γ : Type} {f : α → Option β} {R : α → γ → Prop} {Q : β → γ → Prop} (hf : ∀ a v d, R a v → f a = some d → Q d v) : ∀ {l : List α} {m : List γ} {ds : List β}, All2 R l m → vals f l = some ds → All2 Q ds m
  | [], [], ds, _, e => by rw [← Option.some.inj e]; trivial
  | a :: l, v :: m, xs, h, e => by
    unfold vals at e
    obtain ⟨x, hx, e⟩ := Option.bind_eq_some_iff.1 e
    obtain ⟨ys, hy, e⟩ := Option.bind_eq_some_iff.1 e
    rw [← Option.some.inj e]
    exact ⟨hf a v x h.1 hx, vals_at hf h.2 hy⟩
  | [], _ :: _, _, h, _ => h.elim
  | _ :: _, [], _, h, _ => h.elim
theorem V1.val_at {c : Cx} : ∀ {x : V1 S} {v : Value} {y : V1 D}, x.at (S.at c) v → x.val (S.val c.env) = some y → y.at (D.at c.H) v
  | .one s, v, y, h, e => by
    obtain ⟨d, hd, e⟩ := Option.bind_eq_some_iff.1 e
    rw [← Option.some.inj e]
    exact S.val_at h hd
  | .agg ss, v, y, ⟨vs, h, ev⟩, e => by
    obtain ⟨ds, hd, e⟩ := Option.bind_eq_some_iff.1 e
    rw [← Option.some.inj e]
    exact ⟨vs, vals_at (R := S.at c) (fun _ _ _ => S.val_at) h hd, ev⟩
end Go.Proofs.YtliabkapejhohaaGreatDoor.Sx
/- A symbolic run of structured code, part two: the run itself, and the tree that it gives. -/
namespace Go.Proofs.YtliabkapejhohaaGreatDoor.Sx
open Go Go.Proofs.YtliabkapejhohaaGreatDoorW.PrintLast

/-! ### the tree -/
/-- An operation on values that hold no address. -/
inductive Pu where
  | bin (op : BinOp) (t : TypeId) (k : Bool)
  | un (op : UnOp)
  | conv (src dst : TypeId)
  | idx (t : TypeId)
  | slc (t : TypeId) (lo hi : Bool)
  | blt (b : Builtin) (t : TypeId)
  | llen
  deriving Inhabited
def eqOn (k : Bool) : Operand := if k then .const .nilIface else .tmp 0
def Pu.sem : Pu → List Value → Sem Value
  | .bin op t k, [a, b] => do eqGuard op t (eqOn k) (eqOn k) a b; binOp op t a b
  | .un op, [a] => Op.unary op a
  | .conv src dst, [a] => convert src dst a
  | .idx t, [a, i] => Instr.index t a i
  | .slc t true true, [a, i, j] => Instr.sliceAt t a (some i) (some j) none
  | .slc t true false, [a, i] => Instr.sliceAt t a (some i) none none
  | .slc t false true, [a, j] => Instr.sliceAt t a none (some j) none
  | .slc t false false, [a] => Instr.sliceAt t a none none none
  | .blt .len t, [a] => Builtin.len_ #[t] t #[a]
  | .blt .min t, [a, b] => Builtin.min_ #[t, t] t #[a, b]
  | .blt .max t, [a, b] => Builtin.max_ #[t, t] t #[a, b]
  | _, _ => stuck ""
def D.value : D → Option Value
  | .v x => some x
  | .l _ _ => none
def V1.value : V1 D → Option Value
  | .one d => d.value
  | .agg ds => (vals D.value ds).bind fun vs => some (.agg vs.toArray)
def Pu.plain (P : Program) (p : Pu) (xs : List (V1 D)) : Option D :=
  (vals V1.value xs).bind fun vs => (quiet P (p.sem vs)).bind fun v => if cellB v then some (.v v) else none
def Pu.run (P : Program) : Pu → List (V1 D) → Option D
  | .llen, [.one (.l n _)] => some (.v (.int .i64 n))
  | .llen, _ => none
  | p, xs => p.plain P xs

/-- Of how many cells a result is: one that is a cell, or an aggregate. -/
inductive H1 where
  | one
  | agg (n : Nat)
  deriving Inhabited
inductive H where
  | v1 (h : H1)
  | tup (hs : List H1)
  deriving Inhabited
def H1.sym (n : Nat) : H1 → V1 S
  | .one => .one (.var n)
  | .agg m => .agg ((List.range m).map fun i => .var (n + i))
def H1.size : H1 → Nat
  | .one => 1
  | .agg m => m
def syms : Nat → List H1 → List (V1 S)
  | _, [] => []
  | n, h :: l => h.sym n :: syms (n + h.size) l
def H.sym (n : Nat) : H → V S
  | .v1 h => .v1 (h.sym n)
  | .tup hs => .tup (syms n hs)
def sizes : List H1 → Nat
  | [] => 0
  | h :: l => h.size + sizes l
def H.size : H → Nat
  | .v1 h => h.size
  | .tup hs => sizes hs
def fits1 : H1 → V1 S → Bool
  | .one, .one _ => true
  | .agg n, .agg ss => ss.length == n
  | _, _ => false
def fitsL : List H1 → List (V1 S) → Bool
  | [], [] => true
  | h :: hs, v :: vs => fits1 h v && fitsL hs vs
  | _, _ => false
def fits : H → V S → Bool
  | .v1 h, .v1 v => fits1 h v
  | .tup hs, .tup vs => fitsL hs vs
  | _, _ => false
def flatL : List (V1 S) → List S
  | [] => []
  | v :: l => v.cells ++ flatL l
def flat : V S → List S
  | .v1 v => v.cells
  | .tup vs => flatL vs
  | .junk => []
/-- What a contract tells of a function's shape: its parameters', its result's. -/
structure Ct where
  ps : List H1
  h : H
  deriving Inhabited

inductive T where
  | ret (ss : List S)
  | pure (p : Pu) (xs : List (V1 S)) (k : T)
  | call (f : FuncId) (ss : List S) (n : Nat) (k : T)
  | ite (i : Nat) (t e : T)
  | isk (i : Nat) (j : Int) (t e : T)
  | fail
  | loop (d : Nat) (init : List S) (body : T)
  | again (d n : Nat) (ss : List S)
  deriving Inhabited
/-- What a tree comes to; 'C' tells what the called functions return, 'L' the loops that are open, 'R' what comes of another round. -/
def T.runB (P : Program) (C : FuncId → List D → Option (List D)) (R : List T → T → List D → Option (List D)) : List T → T → List D → Option (List D)
  | _, .ret ss, env => vals (S.val env) ss
  | L, .pure p xs k, env => (vals (V1.val (S.val env)) xs).bind fun vs => (p.run P vs).bind fun d => k.runB P C R L (env ++ [d])
  | L, .call f ss n k, env => (vals (S.val env) ss).bind fun ds => (C f ds).bind fun rs => if rs.length = n then k.runB P C R L (env ++ rs) else none
  | L, .ite i t e, env => match env[i]? with
    | some (.v (.bool true)) => t.runB P C R L env
    | some (.v (.bool false)) => e.runB P C R L env
    | _ => none
  | L, .isk i j t e, env => match env[i]? with
    | some (.v (.int _ n)) => if n = j then t.runB P C R L env else e.runB P C R L env
    | _ => none
  | _, .fail, _ => none
  | L, .loop d init body, env => (vals (S.val env) init).bind fun vs => body.runB P C R (L.take d ++ [body]) (env ++ vs)
  | L, .again d n ss, env => (vals (S.val env) ss).bind fun vs => match L[d]? with
    | some b => R (L.take (d + 1)) b (env.take n ++ vs)
    | none => none
def T.run (P : Program) (C : FuncId → List D → Option (List D)) : Nat → List T → T → List D → Option (List D)
  | 0 => T.runB P C fun _ _ _ => none
  | n + 1 => T.runB P C (T.run P C n)

/-! ### the state -/
structure Blk where
  cells : List S
  elem : TypeId
  deriving Inhabited
structure St where
  tmps : List (V S)
  blocks : List Blk
  known : List (Nat × Bool)
  ints : List (Nat × Int)
  nv : Nat
  deriving Inhabited
/-- How many loops are open; from which block on one may write. -/
structure Pm where
  dep : Nat
  lo : Nat
def ofValue : Value → Option (V S)
  | .agg cs => if cs.toList.all cellB then some (.v1 (.agg (cs.toList.map .const))) else none
  | .tuple vs => if vs.toList.all cellB then some (.tup (vs.toList.map fun v => .one (.const v))) else none
  | v => some (.v1 (.one (.const v)))
def St.get (st : St) : Operand → Option (V S)
  | .tmp t => st.tmps[t]?
  | .const v => ofValue v
  | .func f => some (.v1 (.one (.func f [])))
  | .global _ => none
def V.v1? : V S → Option (V1 S)
  | .v1 x => some x
  | _ => none
def St.get1 (st : St) (x : Operand) : Option (V1 S) := (st.get x).bind V.v1?
def St.put (st : St) (d : Option Tmp) (v : V S) : St :=
  match d with
  | some d => { st with tmps := st.tmps.set d v }
  | none => st
def St.new (st : St) (cells : List S) (elem : TypeId) : St := { st with blocks := st.blocks ++ [⟨cells, elem⟩] }
/-- A whole number that is known. -/
def St.int? (st : St) : V1 S → Option Int
  | .one (.const (.int _ n)) => some n
  | .one (.var i) => st.ints.lookup i
  | _ => none
/-- One cell at a place, or the cells of an aggregate. -/
def partOf (P : Program) (t : TypeId) (cells : List S) (o : Nat) : Option (V1 S) :=
  match quiet P (isAgg t), quiet P (sizeOf t) with
  | some true, some n => if o + n ≤ cells.length then some (.agg ((cells.drop o).take n)) else none
  | some false, _ => (cells[o]?).map .one
  | _, _ => none
def putAt {α : Type} (cells : List α) (o : Nat) : List α → List α
  | [] => cells
  | s :: l => putAt (cells.set o s) (o + 1) l
/-- Parts laid into an aggregate's cells ('fill'). -/
def laid (place : Nat → Option (Nat × Nat)) (cells : List S) : List (Nat × V1 S) → Option (List S)
  | [] => some cells
  | (i, v) :: l =>
    match place i with
    | none => none
    | some (off, size) => if v.cells.length ≠ size ∨ off + v.cells.length > cells.length then none else laid place (putAt cells off v.cells) l
def partsOf (st : St) : List (Nat × Operand) → Option (List (Nat × V1 S))
  | [] => some []
  | (i, x) :: l => (st.get1 x).bind fun v => (partsOf st l).bind fun r => some ((i, v) :: r)
def placesOf (P : Program) (t : TypeId) : Option (Nat → Option (Nat × Nat)) :=
  match quiet P (underlying t) with
  | some (.struct fields) => (quiet P (fields.mapM fun f => do Pure.pure (f.offset, ← sizeOf f.type))).map fun pl => (pl[·]?)
  | some (.array _ e) => (quiet P (sizeOf e)).map fun n i => some (i * n, n)
  | _ => none
def consts : List Value → Option (List S)
  | [] => some []
  | v :: l => if cellB v then (consts l).map (.const v :: ·) else none
def zerosOf (P : Program) (t : TypeId) : Option (List S) := (quiet P (zeroValue t)).bind fun z => consts z.cells.toList

/-! ### the run -/
inductive Ex where
  | normal
  | exit (id : Nat)
  | ret
  deriving Inhabited
def ptrOf : V1 S → Option (Nat × Nat)
  | .one (.ptr b o) => some (b, o)
  | _ => none
def ptrs (st : St) : List Operand → Option (List (Nat × Nat))
  | [] => some []
  | x :: l => (st.get1 x).bind fun v => (ptrOf v).bind fun p => (ptrs st l).bind fun ps => some (p :: ps)
def conD : S → Option D
  | .const v => some (.v v)
  | _ => none
def boundOf (st : St) (x : Option Operand) (d : Int) : Option Int :=
  match x with
  | none => some d
  | some x => (st.get1 x).bind st.int?
/-- A pure operation: folded where all is constant, else a node. -/
def doPure (P : Program) (p : Pu) (xs : List (V1 S)) (st : St) (k : V S → St → Option T) : Option T :=
  match vals (V1.val conD) xs with
  | some ds => match p.run P ds with
    | some (.v v) => k (.v1 (.one (.const v))) st
    | _ => none
  | none => (k (.v1 (.one (.var st.nv))) { st with nv := st.nv + 1 }).map fun t => .pure p xs t
/-- Go on by what a condition is. -/
def doCond (s : V S) (st : St) (k : Bool → St → Option T) : Option T :=
  match s with
  | .v1 (.one (.const (.bool b))) => k b st
  | .v1 (.one (.var i)) =>
    match st.known.lookup i with
    | some b => k b st
    | none => (k true { st with known := (i, true) :: st.known }).bind fun t => (k false { st with known := (i, false) :: st.known }).bind fun e => some (.ite i t e)
  | _ => none
/-- Go on by what a whole number is, from j on, of n. -/
def enumT (i : Nat) (st : St) (k : St → Option T) : Nat → Int → Option T
  | 0, _ => some .fail
  | n + 1, j => (k { st with ints := (i, j) :: st.ints }).bind fun t => (enumT i st k n (j + 1)).bind fun e => some (.isk i j t e)
/-- An index that is not known yet, into something of one's own. -/
def isIx (P : Program) (st : St) : Op → Option (Nat × Nat)
  | .indexAddr t x i | .index t x i =>
    match st.get1 i with
    | some (.one (.var j)) => if (st.ints.lookup j).isSome then none else
      match st.get1 x, quiet P (underlying t) with
      | some (.one (.ptr _ _)), some (.array n _) => some (j, n)
      | some (.agg _), some (.array n _) => some (j, n)
      | some (.one (.slice _ _ n _)), some (.slice _) => some (j, n)
      | _, _ => none
    | _ => none
  | _ => none
def withIx (P : Program) (op : Op) (st : St) (k : St → Option T) : Option T :=
  match isIx P st op with
  | some (j, n) => enumT j st k n 0
  | none => k st
abbrev Cs := FuncId → Option Ct
abbrev Cf := FuncId → List D → Option (List D)
abbrev Inl := FuncId → List (V S) → St → (V S → St → Option T) → Option T
def capV (l : List (Nat × Nat)) : List (V S) := l.map fun p => .v1 (.one (.ptr p.1 p.2))
/-- A function that is called as any. -/
def goesB (P : Program) (f : FuncId) : Bool :=
  match P.funcs[f]? with
  | some fn => fn.name != "runtime.NumGoroutine" && fn.body.isSome
  | none => false
def flatArgs : List H1 → List (V S) → Option (List S)
  | [], [] => some []
  | h :: hs, .v1 v :: vs => if fits1 h v then (flatArgs hs vs).map (v.cells ++ ·) else none
  | _, _ => none
def doCall (P : Program) (C : Cs) (inl : Inl) (f : FuncId) (cap : List (Nat × Nat)) (xs : List (V S)) (st : St) (k : V S → St → Option T) : Option T :=
  if goesB P f then
    match C f, cap with
    | some ct, [] => (flatArgs ct.ps xs).bind fun ss => (k (ct.h.sym st.nv) { st with nv := st.nv + ct.h.size }).map fun t => .call f ss ct.h.size t
    | _, _ => inl f (xs ++ capV cap) st k
  else none
/-- What an operation yields whatever the world, without a node. -/
def stillV (P : Program) (st : St) : Op → Option (V S)
  | .move x | .assign x => st.get x
  | .build t parts => (zerosOf P t).bind fun z => (placesOf P t).bind fun pl => (partsOf st parts.toList).bind fun ps => (laid pl z ps).map fun ss => .v1 (.agg ss)
  | .nilCheck x => (st.get1 x).bind fun v => match v with
    | .one (.ptr _ _) | .one (.func _ _) => some (.v1 v)
    | _ => none
  | .fieldAddr s x f => (st.get1 x).bind fun a => (ptrOf a).bind fun (b, o) =>
    match quiet P (underlying s) with
    | some (.struct fields) => (fields[f]?).bind fun fd => match quiet P (sizeOf fd.type) with
      | some (_ + 1) => some (.v1 (.one (.ptr b (o + fd.offset))))
      | _ => none
    | _ => none
  | .field s x f => (st.get1 x).bind fun v => match v, quiet P (underlying s) with
    | .agg ss, some (.struct fields) => (fields[f]?).bind fun fd => (partOf P fd.type ss fd.offset).map .v1
    | _, _ => none
  | .indexAddr t x i => (st.get1 x).bind fun v => (st.get1 i).bind fun i => (st.int? i).bind fun i => match quiet P (underlying t), v with
    | some (.array n e), .one (.ptr b o) => if 0 ≤ i ∧ i < n then (quiet P (sizeOf e)).map fun s => .v1 (.one (.ptr b (o + i.toNat * s))) else none
    | some (.slice e), .one (.slice b o n _) => if 0 ≤ i ∧ i < n then (quiet P (sizeOf e)).map fun s => .v1 (.one (.ptr b (o + i.toNat * s))) else none
    | _, _ => none
  | .index t x i => (st.get1 x).bind fun v => (st.get1 i).bind fun i => match quiet P (underlying t), v with
    | some (.array n e), .agg ss => (st.int? i).bind fun i => if 0 ≤ i ∧ i < n then (quiet P (sizeOf e)).bind fun s => (partOf P e ss (i.toNat * s)).map .v1 else none
    | _, _ => none
  | .extract x i => (st.get x).bind fun v => match v with
    | .tup vs => (vs[i]?).map .v1
    | _ => none
  | .makeFunc (.func f) first captured => if first.size = 0 then (ptrs st captured.toList).map fun l => .v1 (.one (.func f l)) else none
  | .slice t x lo hi none => (st.get1 x).bind fun v => match quiet P (underlying t), v with
    | some (.array n e), .one (.ptr b o) =>
      (boundOf st lo 0).bind fun l => (boundOf st hi n).bind fun h =>
      if 0 ≤ l ∧ l ≤ h ∧ h ≤ n ∧ l < n then (quiet P (sizeOf e)).map fun s => .v1 (.one (.slice b (o + l.toNat * s) (h - l).toNat (n - l.toNat))) else none
    | _, _ => none
  | .call { callee := .builtin .len, args, argTypes } => match args.toList, argTypes.toList with
    | [x], [t] => (st.get1 x).bind fun v => match v, quiet P (underlying t) with
      | .one (.slice _ _ n _), some (.slice _) => some (.v1 (.one (.const (.int .i64 n))))
      | _, some (.array n _) => some (.v1 (.one (.const (.int .i64 n))))
      | _, _ => none
    | _, _ => none
  | _ => none
def conB : Operand → Bool
  | .const _ => true
  | _ => false
def get1s (st : St) : List Operand → Option (List (V1 S))
  | [] => some []
  | x :: l => (st.get1 x).bind fun v => (get1s st l).bind fun vs => some (v :: vs)
def gets (st : St) : List Operand → Option (List (V S))
  | [] => some []
  | x :: l => (st.get x).bind fun v => (gets st l).bind fun vs => some (v :: vs)
/-- An operation on values without addresses, and what it is done on. -/
def pureOf (P : Program) (st : St) : Op → Option (Pu × List (V1 S))
  | .binOp op t x y _ => (st.get1 x).bind fun a => (st.get1 y).map fun b => (.bin op t (conB x || conB y), [a, b])
  | .unOp op _ x => (st.get1 x).map fun a => (.un op, [a])
  | .convert src dst x => match quiet P (underlying src), quiet P (underlying dst) with
    | some (.slice _), _ | _, some (.slice _) => none
    | _, _ => (st.get1 x).map fun a => (.conv src dst, [a])
  | .index t x i => (st.get1 x).bind fun v => (st.get1 i).map fun i => (.idx t, [v, i])
  | .slice t x lo hi none => (st.get1 x).bind fun v => (get1s st (lo.toList ++ hi.toList)).map fun bs => (.slc t lo.isSome hi.isSome, v :: bs)
  | .call { callee := .builtin .len, args, argTypes } => match args.toList, argTypes.toList with
    | [x], [t] => (st.get1 x).map fun v => match quiet P (underlying t) with
      | some (.slice _) => (.llen, [v])
      | _ => (.blt .len t, [v])
    | _, _ => none
  | .call { callee := .builtin .min, args, .. } => match args.toList with
    | [x, y] => (st.get1 x).bind fun a => (st.get1 y).map fun b => (.blt .min 0, [a, b])
    | _ => none
  | .call { callee := .builtin .max, args, .. } => match args.toList with
    | [x, y] => (st.get1 x).bind fun a => (st.get1 y).map fun b => (.blt .max 0, [a, b])
    | _ => none
  | _ => none
/-- An operation that yields the same in every world. -/
def doVal (P : Program) (o : Oper) (st : St) (k : V S → St → Option T) : Option T :=
  withIx P o.op st fun st =>
  match stillV P st o.op with
  | some v => k v st
  | none =>
    match pureOf P st o.op with
    | some (p, xs) => doPure P p xs st k
    | none =>
      match o.op with
      | .pick c a b => (st.get c).bind fun c => (st.get a).bind fun a => (st.get b).bind fun b => doCond c st fun t st => k (if t then a else b) st
      | _ => none
def loadV (P : Program) (st : St) : Op → Option (V1 S)
  | .load t x => (st.get1 x).bind fun a => (ptrOf a).bind fun (b, o) => (st.blocks[b]?).bind fun bl => partOf P t bl.cells o
  | _ => none
/-- Memory that an operation makes: of which elements, what it holds, and what leads there. -/
def makesV (P : Program) (st : St) : Op → Option (TypeId × List S × (Nat → S))
  | .alloc t => (zerosOf P t).map fun z => (t, z, fun b => .ptr b 0)
  | .box t x => (st.get1 x).map fun v => (t, v.cells, fun b => .ptr b 0)
  | .buildSlice t n parts =>
    match quiet P (underlying t) with
    | some (.slice e) => (quiet P (sizeOf e)).bind fun s => if n * s > 2 ^ 16 then none else
      (zerosOf P e).bind fun z => if z.isEmpty then none else (partsOf st parts.toList).bind fun ps => (laid (fun i => some (i * s, s)) ((List.range (n * s)).map fun i => z.getD (i % z.length) default) ps).map fun ss => (e, ss, fun b => .slice b 0 n n)
    | _ => none
  | _ => none
/-- A store into a block of one's own. -/
def storeV (P : Program) (pm : Pm) (st : St) : Op → Option St
  | .store t x y => (st.get1 x).bind fun a => (ptrOf a).bind fun (b, o) => (st.blocks[b]?).bind fun bl => (st.get1 y).bind fun v =>
    if pm.lo ≤ b ∧ quiet P (sizeOf t) = some v.cells.length ∧ o + v.cells.length ≤ bl.cells.length then some { st with blocks := st.blocks.set b { bl with cells := putAt bl.cells o v.cells } } else none
  | _ => none
inductive Kind where
  | val | load | makes | store | call
  deriving DecidableEq
def kindOf : Op → Kind
  | .load .. => .load
  | .alloc .. | .box .. | .buildSlice .. => .makes
  | .store .. => .store
  | .call { callee := .value _, .. } => .call
  | _ => .val
def doOp (P : Program) (C : Cs) (inl : Inl) (pm : Pm) (o : Oper) (st : St) (k : V S → St → Option T) : Option T :=
  match kindOf o.op with
  | .val => doVal P o st k
  | .load => (loadV P st o.op).bind fun v => k (.v1 v) st
  | .makes => (makesV P st o.op).bind fun (e, ss, mk) => k (.v1 (.one (mk st.blocks.length))) (st.new ss e)
  | .store => (storeV P pm st o.op).bind fun st => k (.tup []) st
  | .call => match o.op with
    | .call { callee := .value x, args, .. } => (st.get1 x).bind fun v => (gets st args.toList).bind fun xs => match v with
      | .one (.func f cap) => doCall P C inl f cap xs st k
      | _ => none
    | _ => none
/-- A guard: is the operation wanted? -/
def doGuard (ops : Array Oper) (o : Oper) (st : St) (k : Bool → St → Option T) : Option T :=
  match o.guard with
  | none => k true st
  | some (j, want) =>
    match ((ops[j]?).bind (·.dst)).bind (st.tmps[·]?) with
    | some (.v1 (.one s)) => doCond (.v1 (.one s)) st fun b st => k (b == want) st
    | some (.tup _) => k false st
    | _ => none
def undefV : V S := .tup []
def doOps (P : Program) (C : Cs) (inl : Inl) (pm : Pm) (ops : Array Oper) : List Nat → St → (St → Option T) → Option T
  | [], st, k => k st
  | i :: l, st, k =>
    match ops[i]? with
    | none => doOps P C inl pm ops l st k
    | some o => doGuard ops o st fun b st => if b then doOp P C inl pm o st fun v st => doOps P C inl pm ops l (st.put o.dst v) k else doOps P C inl pm ops l (st.put o.dst undefV) k
def resultOf (P : Program) (st : St) : ResultVar → Option (V1 S)
  | .tmp t => (st.tmps[t]?).bind V.v1?
  | .cell a t => (st.tmps[a]?).bind fun a => a.v1?.bind fun a => (ptrOf a).bind fun (b, o) => (st.blocks[b]?).bind fun bl => partOf P t bl.cells o
def resList (P : Program) (st : St) : List ResultVar → Option (List (V1 S))
  | [] => some []
  | r :: l => (resultOf P st r).bind fun v => (resList P st l).bind fun vs => some (v :: vs)
def resultsOf (P : Program) (fn : Func) (st : St) : Option (V S) :=
  (resList P st fn.results.toList).map fun | [v] => .v1 v | vs => .tup vs
def enters (fn : Func) (xs : List (V S)) (st : St) : St := { st with tmps := xs ++ List.replicate (fn.ntmps - xs.length) undefV }

/-! ### regions whose order is drawn -/
/-- The steps: what may be taken first, whatever the world ('any') or as long as nothing is written ('take'); what makes memory, which may come up at any time ('make'); what alone may come up apart from that ('only'). -/
inductive Stp where
  | any (i : Nat)
  | take (i : Nat)
  | make (i : Nat)
  | only (i : Nat)
  deriving Inhabited
def Stp.on : Stp → Nat
  | .any i | .take i | .make i | .only i => i
/-- What an operation waits for, looks at and writes, as the bits of numbers. -/
structure Ent where
  i : Nat
  a : Nat
  l : Nat
  d : Nat
  k : Kind
def mask : List Nat → Nat
  | [] => 0
  | i :: l => (1 <<< i) ||| mask l
def entOf (ops : Array Oper) (o : Oper) (i : Nat) : Ent := ⟨i, mask ((o.after.toList.filter (Region.binds .any)).map (·.on)), mask (o.looksAt ops), mask o.dst.toList, kindOf o.op⟩
/-- Go on with a number that is reckoned out. -/
def forceN {α : Type} (n : Nat) (k : Nat → α) : α :=
  match n with
  | 0 => k 0
  | n + 1 => k (n + 1)
def withTbl {α : Type} (ops : Array Oper) : List (Oper × Nat) → List Ent → (List Ent → α) → α
  | [], acc, k => k acc.reverse
  | (o, i) :: r, acc, k => forceN (entOf ops o i).a fun a => forceN (entOf ops o i).l fun l => forceN (entOf ops o i).d fun d => withTbl ops r (⟨i, a, l, d, kindOf o.op⟩ :: acc) k
def tblOf (ops : Array Oper) : List Ent := ops.toList.zipIdx.map fun (o, i) => entOf ops o i
/-- One of two waits for the other, or they touch nothing of one another. -/
def pairB (x y : Ent) : Bool := x.i == y.i || y.a.testBit x.i || x.a.testBit y.i || ((x.d &&& (y.l ||| y.d)) == 0 && (y.d &&& x.l) == 0)
/-- One that makes memory may come up early: nobody writes what it looks at, or where it puts its value. -/
def earlyP (x y : Ent) : Bool := (y.d &&& x.l) == 0 && (y.i == x.i || (x.d &&& y.d) == 0)
def Kind.light : Kind → Bool
  | .val | .load => true
  | _ => false
def Kind.isMake : Kind → Bool
  | .makes => true
  | _ => false
def Kind.isStore : Kind → Bool
  | .store => true
  | _ => false
def pairsB (tbl : List Ent) : Bool := tbl.all fun x => (!x.k.light || tbl.all (pairB x)) && (!x.k.isMake || tbl.all (earlyP x))
def makesOf (tbl : List Ent) : List Nat := (tbl.filter (·.k.isMake)).map (·.i)
def storesOf (tbl : List Ent) : List Nat := (tbl.filter (·.k.isStore)).map (·.i)
/-- All that it waits for is listed in q. -/
def waitB (q a : Nat) : Bool := (a &&& q) == a
/-- Whatever is not listed and makes no memory, and is not number i, still waits, even for something that makes none. -/
def restB (tbl : List Ent) (q mm i : Nat) : Bool := tbl.all fun y => y.i == i || q.testBit y.i || y.k.isMake || !waitB (q ||| mm) y.a
def stpB (ops : Array Oper) (tbl : List Ent) (mm : Nat) (ds : List Nat) (q : Nat) (s : Stp) : Bool :=
  match tbl.find? fun x => x.i == s.on with
  | none => false
  | some x => !q.testBit x.i && waitB q x.a && match s with
    | .any _ => (match x.k with | .val => true | _ => false)
    | .take i => (match x.k with | .load => true | _ => false) && ds.all fun d => !q.testBit d && Region.reachB .any ops i ops.size d
    | .make i => x.k.isMake && restB tbl q (mm ^^^ (1 <<< i)) ops.size
    | .only i => (match x.k with | .call | .val | .load => !ds.contains i | .store => (mm &&& q) == mm | .makes => false) && restB tbl q mm i
/-- The steps hold one by one, and all is listed in the end. -/
def stpsB (ops : Array Oper) (tbl : List Ent) (mm : Nat) (ds : List Nat) : Nat → List Stp → Bool
  | q, [] => tbl.all fun x => q.testBit x.i
  | q, s :: ss => stpB ops tbl mm ds q s && forceN (q ||| (1 <<< s.on)) fun q => stpsB ops tbl mm ds q ss
/-- The next step (a guess: 'stpsB' asks again): pure operations and loads first, then what acts, then what makes memory. -/
def nextStp (q : Nat) (tbl : List Ent) : Option Stp :=
  match tbl.find? fun x => x.k.light && !q.testBit x.i && waitB q x.a with
  | some x => match x.k with
    | .load => some (.take x.i)
    | _ => some (.any x.i)
  | none =>
    match tbl.find? fun x => !x.k.isMake && !q.testBit x.i && waitB q x.a with
    | some x => some (.only x.i)
    | none => (tbl.find? fun x => !q.testBit x.i && waitB q x.a).map fun x => .make x.i
def stepsGo (tbl : List Ent) : Nat → Nat → List Stp
  | 0, _ => []
  | n + 1, q => match nextStp q tbl with
    | some s => s :: forceN (q ||| (1 <<< s.on)) fun q => stepsGo tbl n q
    | none => []
/-- The block that an address leads into. -/
def blkOf (st : St) (x : Operand) : Option Nat := (st.get1 x).bind fun a => (ptrOf a).map (·.1)
/-- A load that is taken first reads one of the blocks 'rs'; a store writes none of them, unless it is one of 'ds'. -/
def keepB (rs ds : List Nat) (st : St) (s : Stp) (op : Op) : Bool :=
  match s, op with
  | .take _, .load _ x => match blkOf st x with
    | some b => rs.contains b
    | none => false
  | .only i, .store _ x _ => ds.contains i || match blkOf st x with
    | some b => !rs.contains b
    | none => false
  | _, _ => true
/-- A guard, where it is known. -/
def guardIs (ops : Array Oper) (o : Oper) (st : St) : Option Bool :=
  match o.guard with
  | none => some true
  | some (j, want) =>
    match ((ops[j]?).bind (·.dst)).bind (st.tmps[·]?) with
    | some (.v1 (.one (.const (.bool b)))) => some (b == want)
    | some (.v1 (.one (.var i))) => (st.known.lookup i).map (· == want)
    | some (.tup _) => some false
    | _ => none
/-- What makes memory and is not listed may come up now: nobody has met its value, and what it does is known. -/
def earlyB (P : Program) (ops : Array Oper) (tbl : List Ent) (mm : Nat) (q : Nat) (st : St) : Stp → Bool
  | .any _ | .take _ => true
  | .only _ | .make _ => tbl.all fun x => !x.k.isMake || q.testBit x.i || match ops[x.i]? with
    | some o => (match o.dst with
      | some d => (match st.tmps[d]? with | some .junk | none => true | _ => false)
      | none => true) &&
      (!waitB (q ||| mm) x.a || (guardIs ops o st == some false) || (makesV P st o.op).isSome)
    | none => false
def doDraw (P : Program) (C : Cs) (inl : Nat → Inl) (pm : Pm) (ops : Array Oper) (tbl : List Ent) (mm : Nat) (rs ds : List Nat) : Nat → List Stp → St → (St → Option T) → Option T
  | _, [], st, k => k st
  | q, s :: ss, st, k =>
    if earlyB P ops tbl mm q st s then
      match ops[s.on]? with
      | none => none
      | some o => doGuard ops o st fun b st => if b then (if keepB rs ds st s o.op then doOp P C (inl st.blocks.length) pm o st fun v st => doDraw P C inl pm ops tbl mm rs ds (q ||| (1 <<< s.on)) ss (st.put o.dst v) k else none) else doDraw P C inl pm ops tbl mm rs ds (q ||| (1 <<< s.on)) ss (st.put o.dst undefV) k
    else none
def junks (ops : Array Oper) (ms : List Nat) (st : St) : St := ms.foldl (fun st i => st.put ((ops[i]?).bind (·.dst)) .junk) st
/-- The blocks that a region's loads read, and its stores into them (a guess: 'keepB' asks again). -/
def scan (P : Program) : List Oper → St → St
  | [], st => st
  | o :: l, st => scan P l (match o.op with
    | .fieldAddr .. | .indexAddr .. | .move _ | .nilCheck _ => match stillV P st o.op with
      | some v => st.put o.dst v
      | none => st
    | _ => st)
def readsOf (ops : Array Oper) (st : St) (n : Nat) : List Nat := ops.toList.filterMap fun o => match o.op with
  | .load _ x => (blkOf st x).bind fun b => if b < n then some b else none
  | _ => none
def lastsOf (ops : Array Oper) (st : St) (rs sts : List Nat) : List Nat := sts.filter fun i => match ops[i]? with
  | some { op := .store _ x _, .. } => match blkOf st x with
    | some b => rs.contains b
    | none => true
  | _ => true
/-! ### loops -/
/-- The temporaries that code writes. -/
def dstsOf : Code → List Nat
  | .region _ ops _ => ops.toList.filterMap (·.dst)
  | .seq a b | .cond _ a b => dstsOf a ++ dstsOf b
  | .block _ b | .loop b => dstsOf b
  | _ => []
def cellEq : Value → Value → Bool
  | .bool a, .bool b => a == b
  | .int k a, .int l b => k == l && a == b
  | .string a, .string b => a.data == b.data
  | .pointer none, .pointer none => true
  | .nilFunc, .nilFunc => true
  | .nilIface, .nilIface => true
  | .slice none a b, .slice none c d => a == c && b == d
  | _, _ => false
def S.eqb : S → S → Bool
  | .var i, .var j => i == j
  | .const a, .const b => cellEq a b
  | .ptr a b, .ptr c d => a == c && b == d
  | .slice a b c d, .slice a' b' c' d' => a == a' && b == b' && c == c' && d == d'
  | .func f l, .func g m => f == g && l == m
  | _, _ => false
/-- A symbol that has a value without addresses. -/
def S.free : S → Bool
  | .var _ | .const _ => true
  | _ => false
/-- One cell at a loop's head: of those that have a value, the ones of the mask are bound anew. -/
def genS (s : S) : List Bool × List S × Nat → S × (List Bool × List S × Nat)
  | (m, acc, n) => if s.free then (match m with | true :: m => (.var n, (m, acc ++ [s], n + 1)) | false :: m => (s, (m, acc, n)) | [] => (.var n, ([], acc ++ [s], n + 1))) else (s, (m, acc, n))
def genL : List S → List Bool × List S × Nat → List S × (List Bool × List S × Nat)
  | [], g => ([], g)
  | s :: l, g => let (s, g) := genS s g; let (l, g) := genL l g; (s :: l, g)
def genV (b : Bool) (v : V S) (g : List Bool × List S × Nat) : V S × (List Bool × List S × Nat) :=
  if b then match v with
    | .v1 (.one s) => if s.free then (let (s, g) := genS s g; (.v1 (.one s), g)) else (.junk, g)
    | .v1 (.agg ss) => (let (ss, g) := genL ss g; (.v1 (.agg ss), g))
    | _ => (.junk, g)
  else (v, g)
def genT (W : List Nat) : Nat → List (V S) → List Bool × List S × Nat → List (V S) × (List Bool × List S × Nat)
  | _, [], g => ([], g)
  | t, v :: l, g => let (v, g) := genV (W.contains t) v g; let (l, g) := genT W (t + 1) l g; (v :: l, g)
def genB : List Blk → List Bool × List S × Nat → List Blk × (List Bool × List S × Nat)
  | [], g => ([], g)
  | b :: l, g => let (c, g) := genL b.cells g; let (l, g) := genB l g; ({ b with cells := c } :: l, g)
/-- The state at a loop's head, and what the new variables begin with. -/
def genSt (W : List Nat) (m : List Bool) (st : St) : St × List S :=
  let (t, g) := genT W 0 st.tmps (m, [], st.nv)
  let (b, g) := genB st.blocks g
  ({ st with tmps := t, blocks := b, nv := g.2.2 }, g.2.1)
/-- A symbol of n variables and nb blocks. -/
def S.closed (n nb : Nat) : S → Bool
  | .var i => i < n
  | .const _ => true
  | .ptr b _ => b < nb
  | .slice b _ _ _ => b < nb
  | .func _ l => l.all fun p => p.1 < nb
/-- Behind a round: what the variables are, n the first of them; all else is as at the head. -/
def backS (n nb : Nat) (p s : S) (acc : List S) : Option (List S) :=
  if p.closed n nb then (if p.eqb s then some acc else none) else
  match p with
  | .var j => if j = n + acc.length ∧ s.free then some (acc ++ [s]) else none
  | _ => none
def backL (n nb : Nat) : List S → List S → List S → Option (List S)
  | [], [], acc => some acc
  | p :: ps, s :: ss, acc => (backS n nb p s acc).bind fun acc => backL n nb ps ss acc
  | _, _, _ => none
def back1 (n nb : Nat) : V1 S → V1 S → List S → Option (List S)
  | .one p, .one s, acc => backS n nb p s acc
  | .agg ps, .agg ss, acc => backL n nb ps ss acc
  | _, _, _ => none
def backVs (n nb : Nat) : List (V1 S) → List (V1 S) → List S → Option (List S)
  | [], [], acc => some acc
  | p :: ps, s :: ss, acc => (back1 n nb p s acc).bind fun acc => backVs n nb ps ss acc
  | _, _, _ => none
def backV (n nb : Nat) : V S → V S → List S → Option (List S)
  | .junk, _, acc => some acc
  | .v1 p, .v1 s, acc => back1 n nb p s acc
  | .tup ps, .tup ss, acc => backVs n nb ps ss acc
  | _, _, _ => none
def backT (n nb : Nat) : List (V S) → List (V S) → List S → Option (List S)
  | [], [], acc => some acc
  | p :: ps, s :: ss, acc => (backV n nb p s acc).bind fun acc => backT n nb ps ss acc
  | _, _, _ => none
def backB (n nb : Nat) : List Blk → List Blk → List S → Option (List S)
  | [], _, acc => some acc
  | p :: ps, s :: ss, acc => if p.elem = s.elem then (backL n nb p.cells s.cells acc).bind fun acc => backB n nb ps ss acc else none
  | _, _, _ => none
def backSt (n nb : Nat) (p s : St) : Option (List S) := (backT n nb p.tmps s.tmps []).bind fun acc => (backB n nb p.blocks s.blocks acc).bind fun acc => if n + acc.length = p.nv then some acc else none
/-- Which of the loop's variables some round changes. -/
def orB : List Bool → List Bool → List Bool
  | a :: l, b :: m => (a || b) :: orB l m
  | l, _ => l
def T.turns (d n : Nat) : T → List Bool → List Bool
  | .pure _ _ k, m | .call _ _ _ k, m => k.turns d n m
  | .ite _ t e, m | .isk _ _ t e, m => e.turns d n (t.turns d n m)
  | .loop _ _ b, m => b.turns d n m
  | .again d' _ ss, m => if d' = d then orB m (ss.zipIdx.map fun (s, i) => !s.eqb (.var (n + i))) else m
  | _, m => m
/-- The first condition is a constant? (Only whether there is an answer counts.) -/
def peek (f : Array Oper → Bool → St → (St → Option T) → Option T) : Code → St → (St → Option T) → Option T
  | .seq a b, st, k => peek f a st fun st => peek f b st k
  | .region _ ops d, st, k => f ops d st k
  | .cond c _ _, st, _ => match st.get c with
    | some (.v1 (.one (.const (.bool _)))) => some .fail
    | _ => none
  | .block _ b, st, k => peek f b st k
  | .skip, st, k | .label _, st, k => k st
  | _, _, _ => none
def sx (P : Program) (C : Cs) : Nat → Pm → Code → St → (Ex → St → Option T) → Option T
  | 0, _, _, _, _ => none
  | n + 1, pm, c, st, K =>
    let inl : Pm → Inl := fun pm f xs st k => (P.funcs[f]?).bind fun fn => fn.body.bind fun c =>
      sx P C n pm c (enters fn xs st) fun e st' => match e with
        | .exit _ => none
        | _ => (resultsOf P fn st').bind fun v => k v { st' with tmps := st.tmps }
    let reg : Array Oper → Bool → St → (St → Option T) → Option T := fun ops d st k =>
      if d then
        (if P.follows .mixedOrders && Region.noSelect ops then withTbl ops ops.toList.zipIdx [] fun tbl =>
          if pairsB tbl then
            let ms := makesOf tbl
            let sc := scan P ops.toList st
            let rs := readsOf ops sc st.blocks.length
            let ds := lastsOf ops sc rs (storesOf tbl)
            let ss := stepsGo tbl ops.size 0
            if stpsB ops tbl (mask ms) ds 0 ss && rs.all (· < st.blocks.length) then doDraw P C (fun lo => inl { pm with lo := lo }) pm ops tbl (mask ms) rs ds 0 ss (junks ops ms st) k else none
          else none else none)
      else doOps P C (inl pm) pm ops (List.range ops.size) st k
    match c with
    | .skip | .label _ => K .normal st
    | .seq a b => sx P C n pm a st fun e st => match e with
      | .normal => sx P C n pm b st K
      | e => K e st
    | .cond c x y => (st.get c).bind fun v => doCond v st fun b st => sx P C n pm (if b then x else y) st K
    | .block id body => sx P C n pm body st fun e st => match e with
      | .exit i => if i = id then K .normal st else K (.exit i) st
      | e => K e st
    | .loop body =>
      if (peek reg body st fun _ => none).isSome then
        sx P C n pm body st fun e st => match e with
        | .normal => sx P C n pm (.loop body) st K
        | e => K e st
      else
        let go : List Bool → Option (List S × T) := fun m =>
          let (st', init) := genSt (dstsOf body) m st
          (sx P C n { pm with dep := pm.dep + 1 } body st' fun e st'' => match e with
            | .normal => (backSt st.nv st.blocks.length st' st'').map fun ss => .again pm.dep st.nv ss
            | e => K e st'').map fun t => (init, t)
        (go []).bind fun (i0, t0) =>
          (go (t0.turns pm.dep st.nv (i0.map fun _ => false))).bind fun (init, t) => some (.loop pm.dep init t)
    | .exit id => K (.exit id) st
    | .ret => K .ret st
    | .region _ ops d => reg ops d st (K .normal)
    | _ => none
/-- The shape of a function, by the types of its parameters and results. -/
def h1Of (P : Program) (t : TypeId) : Option H1 :=
  match quiet P (isAgg t), quiet P (sizeOf t) with
  | some true, some n => some (.agg n)
  | some false, _ => some .one
  | _, _ => none
def h1s (P : Program) : List TypeId → Option (List H1)
  | [] => some []
  | t :: l => (h1Of P t).bind fun h => (h1s P l).map (h :: ·)
def ctOf (P : Program) (f : FuncId) : Option Ct := (P.funcs[f]?).bind fun fn => (h1s P fn.params.toList).bind fun ps => (h1s P fn.resultTypes.toList).map fun
  | [h] => ⟨ps, .v1 h⟩
  | hs => ⟨ps, .tup hs⟩
def known (P : Program) (l : List FuncId) : Cs := fun f => if l.contains f then ctOf P f else none
/-- The tree of a function; the functions of 'l' are known by contracts. -/
def treeOf (P : Program) (l : List FuncId) (n : Nat) (f : FuncId) : Option T :=
  (ctOf P f).bind fun ct => (P.funcs[f]?).bind fun fn => fn.body.bind fun c => sx P (known P l) n ⟨0, 0⟩ c (enters fn ((syms 0 ct.ps).map .v1) ⟨[], [], [], [], sizes ct.ps⟩) fun e st => match e with
    | .exit _ => none
    | _ => (resultsOf P fn st).bind fun v => if fits ct.h v then some (.ret (flat v)) else none
end Go.Proofs.YtliabkapejhohaaGreatDoor.Sx
/- A symbolic run of structured code, part three: what memory operations do on blocks of one's own; the state stands for the machine's. -/
namespace Go.Proofs.YtliabkapejhohaaGreatDoor.Sx
open Go Go.RowKit Go.Proofs.YtliabkapejhohaaGreatDoorW.PrintLast

/-! ### cells of a block -/
theorem add_off (n o i : Nat) : (⟨n, o, none⟩ : Addr).add i = ⟨n, o + i, none⟩ := by
  unfold Addr.add
  split
  · rename_i h
    rw [h]
    rfl
  · rfl
theorem run_load {P : Program} {w : World} {a : Addr} {v : Value} (h : w.cell? a = some v) : (load a).run P w = .ok v w := by
  unfold load
  simp only [Sem.run, h]
theorem cell_at {w : World} {n o : Nat} {cs : Array Value} {e : TypeId} {fr : Nat × Nat} (h : w.heap[n]? = some (.cells cs e fr)) : w.cell? ⟨n, o, none⟩ = cs[o]? := by
  unfold World.cell?
  rw [h]
  rfl
theorem run_loadCells {P : Program} {w : World} {n o : Nat} {cs : Array Value} {e : TypeId} {fr : Nat × Nat} (h : w.heap[n]? = some (.cells cs e fr)) (m : Nat) :
    ∀ (i : Nat) (acc : Array Value), o + i + m ≤ cs.size → (loadCellsFrom ⟨n, o, none⟩ i m acc).run P w = .ok (acc ++ ((cs.toList.drop (o + i)).take m).toArray) w := by
  induction m with
  | zero =>
    intro i acc _
    rw [List.take_zero]
    show Result.ok acc w = .ok (acc ++ #[]) w
    rw [Array.append_empty]
  | succ m ih =>
    intro i acc hl
    have hi : o + i < cs.size := by omega
    have hc : w.cell? ((⟨n, o, none⟩ : Addr).add i) = some cs[o + i] := by rw [add_off, cell_at h, Array.getElem?_eq_getElem hi]
    show ((load ((⟨n, o, none⟩ : Addr).add i)).bind fun v => loadCellsFrom ⟨n, o, none⟩ (i + 1) m (acc.push v)).run P w = _
    rw [run_bind_ok (run_load hc), ih (i + 1) _ (by omega)]
    congr 1
    have hd : cs.toList.drop (o + i) = cs[o + i] :: cs.toList.drop (o + (i + 1)) := by
      rw [List.drop_eq_getElem_cons (by simpa using hi)]
      rfl
    rw [hd, List.take_succ_cons]
    apply Array.ext'
    simp
theorem run_store {P : Program} {w : World} {n o : Nat} {cs : Array Value} {e : TypeId} {v : Value} (h : w.heap[n]? = some (.cells cs e (0, 0))) (ho : o < cs.size) (hv : cellB v = true) :
    (store ⟨n, o, none⟩ v).run P w = .ok () (w.setCell ⟨n, o, none⟩ v) := by
  have hc : w.cell? ⟨n, o, none⟩ = some cs[o] := by rw [cell_at h, Array.getElem?_eq_getElem ho]
  have hf : w.frozen? ⟨n, o, none⟩ = false := by
    unfold World.frozen?
    rw [h]
    simp
  unfold store
  cases v <;> first | (simp [Sem.run, hc, hf]; done) | cases hv
theorem setCell_at {w : World} {n o : Nat} {cs : Array Value} {e : TypeId} {v : Value} {fr : Nat × Nat} (h : w.heap[n]? = some (.cells cs e fr)) :
    (w.setCell ⟨n, o, none⟩ v).heap[n]? = some (.cells (cs.setIfInBounds o v) e fr) := by
  unfold World.setCell
  simp [Array.getElem?_modify, h]
theorem setCell_far {w : World} {n o k : Nat} {v : Value} (h : k ≠ n) : (w.setCell ⟨n, o, none⟩ v).heap[k]? = w.heap[k]? := Below.heap_setCell _ _ _ _ h
theorem putAt_length {α : Type} : ∀ (l : List α) (c : List α) (o : Nat), (putAt c o l).length = c.length
  | [], _, _ => rfl
  | s :: l, c, o => by
    show (putAt (c.set o s) (o + 1) l).length = _
    rw [putAt_length l, List.length_set]
theorem All2.putAt {α β : Type} {R : α → β → Prop} : ∀ {l : List α} {m : List β} {c : List α} {d : List β} (o : Nat), All2 R c d → All2 R l m → All2 R (Sx.putAt c o l) (Sx.putAt d o m)
  | [], [], _, _, _, h, _ => h
  | _ :: _, _ :: _, _, _, o, h, g => All2.putAt (o + 1) (All2.set o h g.1) g.2
  | [], _ :: _, _, _, _, _, g => g.elim
  | _ :: _, [], _, _, _, _, g => g.elim
theorem run_storeCells {P : Program} {n o : Nat} {e : TypeId} {B : Nat} (hB : B ≤ n) : ∀ (vs : List Value) (i : Nat) (w : World) (cs : Array Value), w.heap[n]? = some (.cells cs e (0, 0)) → o + i + vs.length ≤ cs.size → (∀ v ∈ vs, cellB v = true) →
    ∃ w', (storeCells ⟨n, o, none⟩ vs i).run P w = .ok () w' ∧ w'.heap[n]? = some (.cells (putAt cs.toList (o + i) vs).toArray e (0, 0)) ∧ (∀ k, k ≠ n → w'.heap[k]? = w.heap[k]?) ∧ Below B w w'
  | [], _, w, cs, h, _, _ => ⟨w, rfl, by rw [h]; rfl, fun _ _ => rfl, Below.refl _ _⟩
  | v :: vs, i, w, cs, h, hl, hv => by
    rw [List.length_cons] at hl
    have hi : o + i < cs.size := by omega
    have h1 := run_store (P := P) h hi (hv v (List.mem_cons_self ..))
    have h2 := setCell_at (v := v) (o := o + i) h
    obtain ⟨w', r, hn, hf, hb⟩ := run_storeCells (P := P) (o := o) hB vs (i + 1) (w.setCell ⟨n, o + i, none⟩ v) (cs.setIfInBounds (o + i) v) h2 (by rw [Array.size_setIfInBounds]; omega) (fun x hx => hv x (List.mem_cons_of_mem _ hx))
    refine ⟨w', ?_, ?_, fun k hk => (hf k hk).trans (setCell_far hk), (Below.setCell (Below.refl _ _) hB v).trans hb⟩
    · show ((store ((⟨n, o, none⟩ : Addr).add i) v).bind fun _ => storeCells ⟨n, o, none⟩ vs (i + 1)).run P w = _
      rw [add_off, run_bind_ok h1, r]
    · rw [hn, Array.toList_setIfInBounds]
      rfl
/-! ### the state stands for the machine's -/
/-- From which world on memory is one's own; what stayed as it is then; from which block on one may write. -/
structure Bs where
  w0 : World
  H0 : Hp
  lo : Nat
def BlkAt (c : Cx) (w : World) (b : Blk) (n : Nat) : Prop := ∃ cs : Array Value, w.heap[n]? = some (.cells cs b.elem (0, 0)) ∧ All2 (S.at c) b.cells cs.toList
def Holds (h : Hp) (w : World) : Prop := ∀ b o x, h b o = some x → w.cell? ⟨b, o, none⟩ = some x
structure M (B : Bs) (c : Cx) (st : St) (a : Act) (w : World) : Prop where
  tm : All2 (V.at (S.at c)) st.tmps a.tmps.toList
  df : a.defers = []
  nv : c.env.length = st.nv
  bl : All2 (BlkAt c w) st.blocks c.ρ
  nd : c.ρ.Nodup
  be : Below B.w0.heap.size B.w0 w
  wr : ∀ i n, B.lo ≤ i → c.ρ[i]? = some n → B.w0.heap.size ≤ n
  hp : ∀ b o x, c.H b o = some x → w.cell? ⟨b, o, none⟩ = some x ∧ b ∉ c.ρ
  hn : ∀ b o x, c.H b o = some x → B.w0.heap.size ≤ b ∨ B.H0 b o = some x
  kn : ∀ p ∈ st.known, c.env[p.1]? = some (.v (.bool p.2))
  is : ∀ p ∈ st.ints, ∃ k, c.env[p.1]? = some (.v (.int k p.2))
theorem cell_lt {w : World} {b o : Nat} {x : Value} (h : w.cell? ⟨b, o, none⟩ = some x) : b < w.heap.size := by
  rcases Nat.lt_or_ge b w.heap.size with g | g
  · exact g
  · unfold World.cell? at h
    rw [Array.getElem?_eq_none g] at h
    cases h
theorem heap_lt {w : World} {b : Nat} {x : Obj} (h : w.heap[b]? = some x) : b < w.heap.size := (Array.getElem?_eq_some_iff.1 h).1
theorem consts_at {c : Cx} : ∀ {l : List Value} {ss : List S}, consts l = some ss → All2 (S.at c) ss l
  | [], ss, h => by
    obtain rfl := Option.some.inj h
    trivial
  | v :: l, ss, h => by
    unfold consts at h
    split at h
    · rename_i hv
      obtain ⟨r, hr, rfl⟩ := Option.map_eq_some_iff.1 h
      exact ⟨⟨rfl, hv⟩, consts_at hr⟩
    · cases h
theorem constS_at {c : Cx} : ∀ l : List Value, l.all cellB = true → All2 (S.at c) (l.map .const) l
  | [], _ => trivial
  | v :: l, h => by
    rw [List.all_cons, Bool.and_eq_true] at h
    exact ⟨⟨rfl, h.1⟩, constS_at l h.2⟩
theorem constV_at {c : Cx} : ∀ l : List Value, l.all cellB = true → All2 (V1.at (S.at c)) (l.map fun v => .one (.const v)) l
  | [], _ => trivial
  | v :: l, h => by
    rw [List.all_cons, Bool.and_eq_true] at h
    exact ⟨⟨rfl, h.1⟩, constV_at l h.2⟩
theorem ofValue_at {c : Cx} {x : Value} {v : V S} (h : ofValue x = some v) : v.at (S.at c) x := by
  cases x with
  | agg cs =>
    have h : (if cs.toList.all cellB then some (V.v1 (.agg (cs.toList.map .const))) else none) = some v := h
    split at h
    · rename_i hc
      obtain rfl := Option.some.inj h
      exact ⟨cs.toList, constS_at _ hc, by simp⟩
    · cases h
  | tuple cs =>
    have h : (if cs.toList.all cellB then some (V.tup (cs.toList.map fun v => .one (.const v))) else none) = some v := h
    split at h
    · rename_i hc
      obtain rfl := Option.some.inj h
      exact ⟨cs.toList, constV_at _ hc, by simp⟩
    · cases h
  | _ =>
    obtain rfl := Option.some.inj h
    exact ⟨rfl, rfl⟩
theorem undef_at {c : Cx} : V.at (S.at c) undefV undef := ⟨[], trivial, rfl⟩
section
variable {B : Bs} {w w' : World} {c c' : Cx} {st : St} {a : Act}
theorem BlkAt.mono (h : Ext c c') {b : Blk} {n : Nat} : BlkAt c w b n → BlkAt c' w b n := fun ⟨cs, e, g⟩ => ⟨cs, e, g.mono (S.at_mono h)⟩
theorem M.get (m : M B c st a w) {x : Operand} {v : V S} (h : st.get x = some v) : v.at (S.at c) (a.eval x) := by
  cases x with
  | tmp t =>
    obtain ⟨y, hy, hv⟩ := m.tm.get (show st.tmps[t]? = some v from h)
    have : a.eval (.tmp t) = y := by
      show a.tmps.getD t undef = y
      rw [Array.getElem?_toList] at hy
      rw [Array.getD_eq_getD_getElem?, hy]
      rfl
    rw [this]
    exact hv
  | const x => exact ofValue_at h
  | global g => cases h
  | func f =>
    obtain rfl := Option.some.inj h
    exact ⟨[], trivial, rfl⟩
theorem v1_at {v : V S} {x1 : V1 S} {x : Value} (h : v.v1? = some x1) (hv : v.at (S.at c) x) : x1.at (S.at c) x := by
  cases v with
  | v1 y =>
    obtain rfl := Option.some.inj h
    exact hv
  | tup _ => cases h
  | junk => cases h
theorem M.get1 (m : M B c st a w) {x : Operand} {v : V1 S} (h : st.get1 x = some v) : v.at (S.at c) (a.eval x) := by
  obtain ⟨y, hy, h⟩ := Option.bind_eq_some_iff.1 h
  exact v1_at h (m.get hy)
theorem M.put (m : M B c st a w) {v : V S} {x : Value} (hv : v.at (S.at c) x) (d : Option Tmp) : M B c (st.put d v) (a.put d x) w := by
  cases d with
  | none => exact m
  | some d =>
    refine { m with tm := ?_ }
    show All2 _ (st.tmps.set d v) (a.tmps.setIfInBounds d x).toList
    rw [Array.toList_setIfInBounds]
    exact All2.set d m.tm hv
/-- The world grows, nothing of what was there turns. -/
theorem M.grow (m : M B c st a w) (h : Below w.heap.size w w') : M B c st a w' := by
  have hs : B.w0.heap.size ≤ w.heap.size := m.be.size
  refine { m with bl := m.bl.mono ?_, be := m.be.trans (h.mono hs), hp := fun b o x e => ⟨?_, (m.hp b o x e).2⟩ }
  · rintro b n ⟨cs, e, g⟩
    exact ⟨cs, (h.block n (heap_lt e)).trans e, g⟩
  · have e1 := (m.hp b o x e).1
    rw [h.cell (p := ⟨b, o, none⟩) (cell_lt e1)]
    exact e1
/-- More values are bound. -/
theorem M.bind (m : M B c st a w) (ds : List D) : M B ⟨c.env ++ ds, c.ρ, c.H⟩ { st with nv := st.nv + ds.length } a w := by
  have e : Ext c ⟨c.env ++ ds, c.ρ, c.H⟩ := ⟨List.prefix_append _ _, List.prefix_refl _, Hp.le.refl _⟩
  exact {
    tm := m.tm.mono (V.at_mono (S.at_mono e))
    df := m.df
    nv := by
      show (c.env ++ ds).length = st.nv + ds.length
      rw [List.length_append, m.nv]
    bl := m.bl.mono fun _ _ => BlkAt.mono e
    nd := m.nd
    be := m.be
    wr := m.wr
    hp := m.hp
    hn := m.hn
    kn := fun p hp => get_pre e.env (m.kn p hp)
    is := fun p hp => let ⟨k, h⟩ := m.is p hp; ⟨k, get_pre e.env h⟩ }
theorem Ext.bind (c : Cx) (ds : List D) : Ext c ⟨c.env ++ ds, c.ρ, c.H⟩ := ⟨List.prefix_append _ _, List.prefix_refl _, Hp.le.refl _⟩
/-- More memory is known to stay as it is. -/
theorem M.more (m : M B c st a w) {h : Hp} (hl : Hp.le c.H h) (hw : ∀ b o x, h b o = some x → w.cell? ⟨b, o, none⟩ = some x ∧ b ∉ c.ρ) (hn : ∀ b o x, h b o = some x → B.w0.heap.size ≤ b ∨ c.H b o = some x) : M B ⟨c.env, c.ρ, h⟩ st a w := by
  have e : Ext c ⟨c.env, c.ρ, h⟩ := ⟨List.prefix_refl _, List.prefix_refl _, hl⟩
  exact {
    tm := m.tm.mono (V.at_mono (S.at_mono e))
    df := m.df
    nv := m.nv
    bl := m.bl.mono fun _ _ => BlkAt.mono e
    nd := m.nd
    be := m.be
    wr := m.wr
    hp := hw
    hn := fun b o x g => (hn b o x g).elim .inl (m.hn b o x)
    kn := m.kn
    is := m.is }
theorem M.rho_lt (m : M B c st a w) {i n : Nat} (h : c.ρ[i]? = some n) : n < w.heap.size := by
  have hi : i < st.blocks.length := by
    rw [m.bl.length]
    exact (List.getElem?_eq_some_iff.1 h).1
  obtain ⟨n', h', cs, e, _⟩ := m.bl.get (i := i) (List.getElem?_eq_getElem hi)
  obtain rfl : n' = n := Option.some.inj (h'.symm.trans h)
  exact heap_lt e
/-- A new block of one's own. -/
theorem M.new (m : M B c st a w) {ss : List S} {cs : Array Value} {e : TypeId} (hs : All2 (S.at c) ss cs.toList) :
    M B ⟨c.env, c.ρ ++ [w.heap.size], c.H⟩ (st.new ss e) a (w.alloc (.cells cs e)) := by
  have ex : Ext c ⟨c.env, c.ρ ++ [w.heap.size], c.H⟩ := ⟨List.prefix_refl _, List.prefix_append _ _, Hp.le.refl _⟩
  have hb : Below w.heap.size w (w.alloc (.cells cs e)) := (Below.refl _ _).alloc (Nat.le_refl _) _
  have g := m.grow hb
  exact {
    tm := g.tm.mono (V.at_mono (S.at_mono ex))
    df := g.df
    nv := g.nv
    bl := (g.bl.mono fun _ _ => BlkAt.mono ex).app ⟨⟨cs, by
      show (w.heap.push _)[w.heap.size]? = _
      rw [Array.getElem?_push_size], hs.mono (S.at_mono ex)⟩, trivial⟩
    nd := by
      rw [List.nodup_append]
      refine ⟨g.nd, List.nodup_cons.2 ⟨List.not_mem_nil, List.nodup_nil⟩, ?_⟩
      intro x hx y hy
      rw [List.mem_singleton] at hy
      obtain ⟨i, hi⟩ := List.getElem?_of_mem hx
      have := m.rho_lt hi
      omega
    be := g.be
    wr := fun i n hi hn => by
      rcases Nat.lt_or_ge i c.ρ.length with h | h
      · rw [List.getElem?_append_left h] at hn
        exact m.wr i n hi hn
      · rw [List.getElem?_append_right h] at hn
        have h0 : i - c.ρ.length = 0 := by
          have := (List.getElem?_eq_some_iff.1 hn).1
          simp at this
          omega
        rw [h0] at hn
        obtain rfl : w.heap.size = n := by simpa using hn
        exact m.be.size
    hp := fun b o x h => by
      refine ⟨(g.hp b o x h).1, fun hm => ?_⟩
      rcases List.mem_append.1 hm with hm | hm
      · exact (m.hp b o x h).2 hm
      · rw [List.mem_singleton] at hm
        have := cell_lt (m.hp b o x h).1
        omega
    hn := g.hn
    kn := g.kn
    is := g.is }
/-- The same, measured from the world at hand. -/
theorem M.rebase (m : M B c st a w) : M ⟨w, c.H, st.blocks.length⟩ c st a w :=
  { m with
    be := Below.refl _ _
    wr := fun i n hi hn => by
      have h1 := (List.getElem?_eq_some_iff.1 hn).1
      have h2 := m.bl.length
      have h3 : st.blocks.length ≤ i := hi
      omega
    hn := fun _ _ _ h => .inr h }
theorem M.unbase {st' : St} {a' : Act} (m : M B c st a w) (m' : M ⟨w, c.H, st.blocks.length⟩ c' st' a' w') (h : Ext c c') : M B c' st' a' w' :=
  { m' with
    be := m.be.trans (m'.be.mono m.be.size)
    wr := fun i n hi hn => by
      rcases Nat.lt_or_ge i c.ρ.length with g | g
      · obtain ⟨t, ht⟩ := h.ρ
        rw [← ht, List.getElem?_append_left g] at hn
        exact m.wr i n hi hn
      · have h1 : w.heap.size ≤ n := m'.wr i n (by show st.blocks.length ≤ i; rw [m.bl.length]; exact g) hn
        have h2 : B.w0.heap.size ≤ w.heap.size := m.be.size
        omega
    hn := fun b o x e => by
      have h2 : B.w0.heap.size ≤ w.heap.size := m.be.size
      rcases m'.hn b o x e with h1 | h1
      · have h1 : w.heap.size ≤ b := h1
        exact .inl (Nat.le_trans h2 h1)
      · exact m.hn b o x h1 }
end
end Go.Proofs.YtliabkapejhohaaGreatDoor.Sx
/- A symbolic run of structured code, part four: each operation's symbol stands for what the machine yields. -/
namespace Go.Proofs.YtliabkapejhohaaGreatDoor.Sx
open Go Go.RowKit Go.Proofs.YtliabkapejhohaaGreatDoorW.PrintLast

section
variable {B : Bs} {w : World} {c : Cx} {st : St} {a : Act} {P : Program}
theorem part_at {t : TypeId} {ss : List S} {o : Nat} {v : V1 S} {cs : Array Value} (h : partOf P t ss o = some v) (hs : All2 (S.at c) ss cs.toList) :
    ∃ x, quiet P (part t cs o) = some x ∧ v.at (S.at c) x := by
  unfold partOf at h
  have hl := hs.length
  split at h
  · rename_i n h1 h2
    split at h
    · rename_i hn
      obtain rfl := Option.some.inj h
      refine ⟨.agg (cs.extract o (o + n)), ?_, ((cs.toList.drop o).take n), (hs.drop o).take n, ?_⟩
      · exact quiet_bind_some h1 (quiet_bind_some h2 rfl)
      · congr 1
        apply Array.ext'
        rw [Array.toList_extract, List.extract_eq_take_drop]
        simp
    · cases h
  · rename_i h1
    obtain ⟨s, hs1, rfl⟩ := Option.map_eq_some_iff.1 h
    obtain ⟨x, hx, hr⟩ := hs.get hs1
    refine ⟨x, ?_, hr⟩
    refine quiet_bind_some h1 ?_
    have : cs[o]? = some x := by rw [← Array.getElem?_toList]; exact hx
    show quiet P (match cs[o]? with | some v => Pure.pure v | none => stuck "part: no such cell") = some x
    rw [this]
    rfl
  · cases h
theorem ptr_at {v : V1 S} {b o : Nat} {x : Value} (h : ptrOf v = some (b, o)) (hv : v.at (S.at c) x) : ∃ n, c.ρ[b]? = some n ∧ x = .pointer (some ⟨n, o, none⟩) := by
  unfold ptrOf at h
  split at h
  · obtain ⟨rfl, rfl⟩ := Prod.mk.injEq .. ▸ Option.some.inj h
    exact hv
  · cases h
theorem lookup_mem {α : Type} {i : Nat} {b : α} : ∀ {l : List (Nat × α)}, l.lookup i = some b → (i, b) ∈ l
  | [], h => by cases h
  | (j, c) :: l, h => by
    rw [List.lookup_cons] at h
    split at h
    · rename_i e
      have e : i = j := by simpa using e
      rw [← Option.some.inj h, e]
      exact List.mem_cons_self ..
    · exact List.mem_cons_of_mem _ (lookup_mem h)
theorem int_at (m : M B c st a w) {v : V1 S} {i : Int} {x : Value} (h : st.int? v = some i) (hv : v.at (S.at c) x) : ∃ k, x = .int k i := by
  unfold St.int? at h
  split at h
  · obtain rfl := Option.some.inj h
    exact ⟨_, hv.1⟩
  · obtain ⟨k, hk⟩ := m.is _ (lookup_mem h)
    obtain ⟨d, hd, g⟩ := hv
    obtain rfl : D.v (.int k i) = d := Option.some.inj (hk.symm.trans hd)
    exact ⟨k, (D.at_v.1 g).1⟩
  · cases h
theorem still_fieldAddr (m : M B c st a w) {s : TypeId} {x : Operand} {f : Nat} {v : V S} (h : stillV P st (.fieldAddr s x f) = some v) : ∃ y, quiet P (Instr.fieldAt s (a.eval x) f) = some y ∧ v.at (S.at c) y := by
  obtain ⟨vx, hx, h⟩ := Option.bind_eq_some_iff.1 h
  obtain ⟨⟨b, o⟩, hp, h⟩ := Option.bind_eq_some_iff.1 h
  obtain ⟨n, hn, e⟩ := ptr_at hp (m.get1 hx)
  dsimp only at h
  split at h
  · rename_i fields hu
    obtain ⟨fd, hfd, h⟩ := Option.bind_eq_some_iff.1 h
    split at h
    · rename_i q hq
      obtain rfl := Option.some.inj h
      refine ⟨.pointer (some ⟨n, o + fd.offset, none⟩), ?_, n, hn, rfl⟩
      rw [e]
      refine quiet_bind_some hu ?_
      show quiet P (match fields[f]? with | some f => _ | _ => _) = _
      rw [hfd]
      refine quiet_bind_some (a := ⟨n, o, none⟩) rfl ?_
      refine quiet_bind_some (a := ⟨n, o + fd.offset, none⟩) ?_ rfl
      refine quiet_bind_some hq ?_
      rw [if_neg (Nat.succ_ne_zero q), add_off]
      rfl
    · cases h
  · cases h
theorem still_field (m : M B c st a w) {s : TypeId} {x : Operand} {f : Nat} {v : V S} (h : stillV P st (.field s x f) = some v) : ∃ y, quiet P (Instr.field s (a.eval x) f) = some y ∧ v.at (S.at c) y := by
  obtain ⟨vx, hx, h⟩ := Option.bind_eq_some_iff.1 h
  have hv := m.get1 hx
  split at h
  · rename_i ss fields hu
    obtain ⟨fd, hfd, h⟩ := Option.bind_eq_some_iff.1 h
    obtain ⟨v1, h1, rfl⟩ := Option.map_eq_some_iff.1 h
    obtain ⟨vs, hs, e⟩ := hv
    obtain ⟨y, hy, hr⟩ := part_at (cs := vs.toArray) h1 (by simpa using hs)
    refine ⟨y, ?_, hr⟩
    rw [e]
    refine quiet_bind_some hu ?_
    show quiet P (match fields[f]? with | some f => _ | none => _) = _
    rw [hfd]
    exact quiet_bind_some (a := vs.toArray) rfl hy
  · cases h
theorem still_indexAddr (m : M B c st a w) {t : TypeId} {x i : Operand} {v : V S} (h : stillV P st (.indexAddr t x i) = some v) : ∃ y, quiet P (Instr.indexAt t (a.eval x) (a.eval i)) = some y ∧ v.at (S.at c) y := by
  obtain ⟨vx, hx, h⟩ := Option.bind_eq_some_iff.1 h
  obtain ⟨vi, hi, h⟩ := Option.bind_eq_some_iff.1 h
  obtain ⟨n, hn, h⟩ := Option.bind_eq_some_iff.1 h
  obtain ⟨k, ei⟩ := int_at m hn (m.get1 hi)
  have hv := m.get1 hx
  rw [ei]
  split at h
  · rename_i len e b o hu _ _
    split at h
    · rename_i hr
      obtain ⟨s, hs, rfl⟩ := Option.map_eq_some_iff.1 h
      obtain ⟨q, hq, ev⟩ := hv
      refine ⟨.pointer (some ⟨q, o + n.toNat * s, none⟩), ?_, q, hq, rfl⟩
      rw [ev]
      refine quiet_bind_some (a := (k, n)) rfl ?_
      refine quiet_bind_some hu ?_
      refine quiet_bind_some (a := (⟨q, o, none⟩ : Addr)) rfl ?_
      refine quiet_bind_some (a := ((some (⟨q, o, none⟩ : Addr), len, e) : Option Addr × Nat × TypeId)) rfl ?_
      refine quiet_bind_some hu ?_
      dsimp only
      rw [if_pos hr]
      refine quiet_bind_some hs ?_
      rw [add_off]
      rfl
    · cases h
  · rename_i e b o len cap hu _ _
    split at h
    · rename_i hr
      obtain ⟨s, hs, rfl⟩ := Option.map_eq_some_iff.1 h
      obtain ⟨q, hq, ev⟩ := hv
      refine ⟨.pointer (some ⟨q, o + n.toNat * s, none⟩), ?_, q, hq, rfl⟩
      rw [ev]
      refine quiet_bind_some (a := (k, n)) rfl ?_
      refine quiet_bind_some hu ?_
      refine quiet_bind_some (a := ((some (⟨q, o, none⟩ : Addr), len, e) : Option Addr × Nat × TypeId)) rfl ?_
      refine quiet_bind_some hu ?_
      dsimp only
      rw [if_pos hr]
      refine quiet_bind_some hs ?_
      rw [add_off]
      rfl
    · cases h
  · cases h
theorem still_index (m : M B c st a w) {t : TypeId} {x i : Operand} {v : V S} (h : stillV P st (.index t x i) = some v) : ∃ y, quiet P (Instr.index t (a.eval x) (a.eval i)) = some y ∧ v.at (S.at c) y := by
  obtain ⟨vx, hx, h⟩ := Option.bind_eq_some_iff.1 h
  obtain ⟨vi, hi, h⟩ := Option.bind_eq_some_iff.1 h
  have hv := m.get1 hx
  split at h
  · rename_i len e ss hu _
    obtain ⟨n, hn, h⟩ := Option.bind_eq_some_iff.1 h
    obtain ⟨k, ei⟩ := int_at m hn (m.get1 hi)
    rw [ei]
    split at h
    · rename_i hr
      obtain ⟨s, hs, h⟩ := Option.bind_eq_some_iff.1 h
      obtain ⟨v1, h1, rfl⟩ := Option.map_eq_some_iff.1 h
      obtain ⟨vs, hvs, e⟩ := hv
      obtain ⟨y, hy, hr'⟩ := part_at (cs := vs.toArray) h1 (by simpa using hvs)
      refine ⟨y, ?_, hr'⟩
      rw [e]
      refine quiet_bind_some (a := (k, n)) rfl ?_
      refine quiet_bind_some hu ?_
      dsimp only
      rw [if_pos hr]
      exact quiet_bind_some hs hy
    · cases h
  · cases h
theorem still_extract (m : M B c st a w) {x : Operand} {i : Nat} {v : V S} (h : stillV P st (.extract x i) = some v) : ∃ y, quiet P (Instr.extract (a.eval x) i) = some y ∧ v.at (S.at c) y := by
  obtain ⟨vx, hx, h⟩ := Option.bind_eq_some_iff.1 h
  have hv := m.get hx
  split at h
  · rename_i vs
    obtain ⟨v1, h1, rfl⟩ := Option.map_eq_some_iff.1 h
    obtain ⟨ys, hys, e⟩ := hv
    obtain ⟨y, hy, hr⟩ := hys.get h1
    refine ⟨y, ?_, hr⟩
    rw [e]
    show quiet P (match ys.toArray[i]? with | some v => Pure.pure v | none => _) = _
    rw [show ys.toArray[i]? = some y by simpa using hy]
    rfl
  · cases h
theorem zeros_at {t : TypeId} {z : List S} (h : zerosOf P t = some z) : ∃ x, quiet P (zeroValue t) = some x ∧ All2 (S.at c) z x.cells.toList := by
  obtain ⟨x, hx, h⟩ := Option.bind_eq_some_iff.1 h
  exact ⟨x, hx, consts_at h⟩
theorem parts_at (m : M B c st a w) : ∀ {l : List (Nat × Operand)} {ps : List (Nat × V1 S)}, partsOf st l = some ps → All2 (fun p q => p.1 = q.1 ∧ p.2.at (S.at c) q.2) ps (l.map fun (i, x) => (i, a.eval x))
  | [], ps, h => by
    obtain rfl := Option.some.inj h
    trivial
  | (i, x) :: l, ps, h => by
    obtain ⟨v, hv, h⟩ := Option.bind_eq_some_iff.1 h
    obtain ⟨r, hr, h⟩ := Option.bind_eq_some_iff.1 h
    obtain rfl := Option.some.inj h
    exact ⟨⟨rfl, m.get1 hv⟩, parts_at m hr⟩
theorem fold_put (off : Nat) : ∀ (vs : List Value) (i : Nat) (cs : Array Value), ((vs.zipIdx i).foldl (fun cs (q : Value × Nat) => cs.setIfInBounds (off + q.2) q.1) cs).toList = putAt cs.toList (off + i) vs
  | [], _, _ => rfl
  | v :: vs, i, cs => by
    rw [List.zipIdx_cons, List.foldl_cons, fold_put off vs (i + 1)]
    dsimp only
    rw [Array.toList_setIfInBounds]
    rfl
theorem fill_at {place : Nat → Option (Nat × Nat)} : ∀ {ps : List (Nat × V1 S)} {qs : List (Nat × Value)} {z ss : List S} {cs : Array Value}, laid place z ps = some ss → All2 (fun p q => p.1 = q.1 ∧ p.2.at (S.at c) q.2) ps qs → All2 (S.at c) z cs.toList →
    ∃ cs', Instr.fill place cs qs = some cs' ∧ All2 (S.at c) ss cs'.toList
  | [], [], z, ss, cs, h, _, hz => by
    obtain rfl := Option.some.inj h
    exact ⟨cs, rfl, hz⟩
  | (i, v) :: ps, (j, y) :: qs, z, ss, cs, h, hp, hz => by
    obtain ⟨⟨hij, hv⟩, hp⟩ := hp
    dsimp only at hij hv
    subst hij
    unfold laid at h
    unfold Instr.fill
    cases hpl : place i with
    | none =>
      rw [hpl] at h
      cases h
    | some os =>
      obtain ⟨off, size⟩ := os
      rw [hpl] at h
      dsimp only at h ⊢
      have hc := V1.at_cells hv
      have hlen := hc.length
      have hz' := hz.length
      have q1 : y.cells.size = y.cells.toList.length := rfl
      have q2 : cs.size = cs.toList.length := rfl
      split at h
      · cases h
      · rename_i hn
        rw [not_or] at hn
        obtain ⟨h1, h2⟩ := hn
        have h1 : v.cells.length = size := Decidable.not_not.1 h1
        rw [if_neg (by simp only [ne_eq, decide_not, Bool.or_eq_true, Bool.not_eq_true', decide_eq_false_iff_not, gt_iff_lt, decide_eq_true_eq]; omega)]
        refine fill_at h hp ?_
        have e := fold_put off y.cells.toList 0 cs
        rw [Nat.add_zero] at e
        have e2 : (y.cells.zipIdx.foldl (fun cs (q : Value × Nat) => cs.setIfInBounds (off + q.2) q.1) cs).toList = putAt cs.toList off y.cells.toList := by
          rw [← e, ← Array.foldl_toList, Array.toList_zipIdx]
        exact e2 ▸ All2.putAt off hz hc
  | [], _ :: _, _, _, _, _, h, _ => h.elim
  | _ :: _, [], _, _, _, _, h, _ => h.elim
theorem still_build (m : M B c st a w) {t : TypeId} {parts : Array (Nat × Operand)} {v : V S} (h : stillV P st (.build t parts) = some v) : ∃ y, quiet P (Instr.build t (parts.map fun (i, x) => (i, a.eval x))) = some y ∧ v.at (S.at c) y := by
  obtain ⟨z, hz, h⟩ := Option.bind_eq_some_iff.1 h
  obtain ⟨pl, hpl, h⟩ := Option.bind_eq_some_iff.1 h
  obtain ⟨ps, hps, h⟩ := Option.bind_eq_some_iff.1 h
  obtain ⟨ss, hss, rfl⟩ := Option.map_eq_some_iff.1 h
  obtain ⟨x, hx, hzz⟩ := zeros_at (c := c) hz
  have hp := parts_at m hps
  have hl : (parts.map fun (p : Nat × Operand) => (p.1, a.eval p.2)).toList = parts.toList.map fun (i, x) => (i, a.eval x) := by simp
  obtain ⟨cs', hf, hcs⟩ := fill_at hss hp hzz
  refine ⟨.agg cs', ?_, cs'.toList, hcs, by simp⟩
  refine quiet_bind_some hx ?_
  unfold placesOf at hpl
  split at hpl
  · rename_i fields hu
    obtain ⟨q, hq, rfl⟩ := Option.map_eq_some_iff.1 hpl
    refine quiet_bind_some hu ?_
    refine quiet_bind_some hq ?_
    rw [hl]
    dsimp only
    rw [hf]
    rfl
  · rename_i n e hu
    obtain ⟨q, hq, rfl⟩ := Option.map_eq_some_iff.1 hpl
    refine quiet_bind_some hu ?_
    refine quiet_bind_some hq ?_
    rw [hl]
    dsimp only
    rw [hf]
    rfl
  · cases hpl
theorem ptrs_at (m : M B c st a w) : ∀ {l : List Operand} {ps : List (Nat × Nat)}, ptrs st l = some ps → All2 (fun p x => ∃ n, c.ρ[p.1]? = some n ∧ x = Value.pointer (some ⟨n, p.2, none⟩)) ps (l.map a.eval)
  | [], ps, h => by
    obtain rfl := Option.some.inj h
    trivial
  | x :: l, ps, h => by
    obtain ⟨v, hv, h⟩ := Option.bind_eq_some_iff.1 h
    obtain ⟨⟨b, o⟩, hp, h⟩ := Option.bind_eq_some_iff.1 h
    obtain ⟨r, hr, h⟩ := Option.bind_eq_some_iff.1 h
    obtain rfl := Option.some.inj h
    exact ⟨ptr_at hp (m.get1 hv), ptrs_at m hr⟩
theorem still_makeFunc (m : M B c st a w) {f : Fn} {first captured : Array Operand} {v : V S} (h : stillV P st (.makeFunc f first captured) = some v) : v.at (S.at c) (.func f (first.map a.eval) (captured.map a.eval)) := by
  cases f with
  | func f =>
    have h : (if first.size = 0 then (ptrs st captured.toList).map fun l => V.v1 (.one (.func f l)) else none) = some v := h
    split at h
    · rename_i h0
      obtain ⟨l, hl, rfl⟩ := Option.map_eq_some_iff.1 h
      refine ⟨captured.toList.map a.eval, ptrs_at m hl, ?_⟩
      have : first = #[] := Array.eq_empty_of_size_eq_zero h0
      subst this
      rw [show (captured.toList.map a.eval).toArray = captured.map a.eval from Array.ext' (by simp), Array.map_empty]
    · cases h
  | _ => cases h
theorem bound_at (m : M B c st a w) {x : Option Operand} {d n : Int} (h : boundOf st x d = some n) : x = none ∧ n = d ∨ ∃ y k, x = some y ∧ a.eval y = .int k n := by
  cases x with
  | none =>
    obtain rfl := Option.some.inj h
    exact .inl ⟨rfl, rfl⟩
  | some y =>
    obtain ⟨v, hv, h⟩ := Option.bind_eq_some_iff.1 h
    obtain ⟨k, e⟩ := int_at m h (m.get1 hv)
    exact .inr ⟨y, k, rfl, e⟩
theorem bound_run {k : IntKind} {i : Int} {n : Nat} {code : BoundsCode} (h0 : 0 ≤ i) (h1 : i ≤ n) : quiet P (Instr.sliceBound (.int k i) n code) = some i.toNat := by
  refine quiet_bind_some (a := (k, i)) rfl ?_
  dsimp only
  rw [if_pos ⟨h0, h1⟩]
  rfl
theorem bounds_run {s : Bool} {len cap : Nat} {lo hi : Option Value} {l h : Int} (hl : lo = none ∧ l = 0 ∨ ∃ k, lo = some (.int k l)) (hh : hi = none ∧ h = len ∨ ∃ k, hi = some (.int k h)) (h0 : 0 ≤ l) (h1 : l ≤ h) (h2 : h ≤ cap) :
    quiet P (Instr.sliceBounds s len cap lo hi none) = some (l.toNat, h.toNat, cap) := by
  unfold Instr.sliceBounds
  refine quiet_bind_some (a := cap) rfl ?_
  have tl : quiet P (match lo with
    | some v => do
      let l ← Instr.sliceBound v h.toNat (if (none : Option Value).isSome then .slice3C else .sliceB)
      Pure.pure (l, h.toNat, cap)
    | none => do
      let l ← Pure.pure 0
      Pure.pure (l, h.toNat, cap)) = some (l.toNat, h.toNat, cap) := by
    rcases hl with ⟨rfl, rfl⟩ | ⟨k, rfl⟩
    · rfl
    · exact quiet_bind_some (bound_run h0 (by omega)) rfl
  rcases hh with ⟨rfl, rfl⟩ | ⟨k, rfl⟩
  · exact quiet_bind_some (a := len) rfl tl
  · exact quiet_bind_some (bound_run (by omega) h2) tl
theorem still_slice (m : M B c st a w) {t : TypeId} {x : Operand} {lo hi : Option Operand} {v : V S} (h : stillV P st (.slice t x lo hi none) = some v) : ∃ y, quiet P (Instr.sliceAt t (a.eval x) (lo.map a.eval) (hi.map a.eval) none) = some y ∧ v.at (S.at c) y := by
  obtain ⟨vx, hx, h⟩ := Option.bind_eq_some_iff.1 h
  have hv := m.get1 hx
  split at h
  · rename_i n e b o hu
    obtain ⟨l, hl, h⟩ := Option.bind_eq_some_iff.1 h
    obtain ⟨j, hj, h⟩ := Option.bind_eq_some_iff.1 h
    split at h
    · rename_i hr
      obtain ⟨h0, h1, h2, h3⟩ := hr
      obtain ⟨s, hs, rfl⟩ := Option.map_eq_some_iff.1 h
      obtain ⟨q, hq, ev⟩ := hv
      refine ⟨.slice (some ⟨q, o + l.toNat * s, none⟩) (j - l).toNat (n - l.toNat), ?_, q, hq, rfl⟩
      rw [ev]
      refine quiet_bind_some hu ?_
      refine quiet_bind_some (a := ⟨q, o, none⟩) rfl ?_
      refine quiet_bind_some (bounds_run (l := l) (h := j) ?_ ?_ h0 h1 h2) ?_
      · rcases bound_at m hl with ⟨rfl, e⟩ | ⟨y, k, rfl, e⟩
        · exact .inl ⟨rfl, e⟩
        · exact .inr ⟨k, by rw [Option.map_some, e]⟩
      · rcases bound_at m hj with ⟨rfl, e⟩ | ⟨y, k, rfl, e⟩
        · exact .inl ⟨rfl, e⟩
        · exact .inr ⟨k, by rw [Option.map_some, e]⟩
      · refine quiet_bind_some hs ?_
        rw [if_neg (by omega), add_off, show j.toNat - l.toNat = (j - l).toNat by omega]
        rfl
    · cases h
  · cases h
theorem len_run {t : TypeId} {x v : Value} {args : Array Operand} {ts : Array TypeId} (ha : args.map a.eval = #[x]) (ht : ts = #[t]) (h : quiet P (Builtin.len_ #[t] t #[x]) = some v) {o : Oper} (ho : o.op = .call { callee := .builtin .len, args := args, argTypes := ts }) :
    (execOp a.eval o).run P w = .ok (.value v) w := by
  unfold execOp
  rw [ho]
  subst ht
  dsimp only [resolve]
  rw [ha]
  exact run_value w h
/-- What an operation yields whatever the world. -/
theorem still_sound (m : M B c st a w) {o : Oper} {v : V S} (h : stillV P st o.op = some v) : ∃ y, (∀ w, (execOp a.eval o).run P w = .ok (.value y) w) ∧ v.at (S.at c) y := by
  cases hop : o.op
  all_goals rw [hop] at h
  all_goals (try cases h; done)
  case move x =>
    refine ⟨_, fun w => ?_, m.get h⟩
    unfold execOp
    rw [hop]
    rfl
  case assign x =>
    refine ⟨_, fun w => ?_, m.get h⟩
    unfold execOp
    rw [hop]
    rfl
  case build t parts =>
    obtain ⟨y, hy, hv⟩ := still_build m h
    refine ⟨y, fun w => ?_, hv⟩
    unfold execOp
    rw [hop]
    exact run_value w hy
  case nilCheck x =>
    obtain ⟨vx, hx, h⟩ := Option.bind_eq_some_iff.1 h
    have hv := m.get1 hx
    refine ⟨a.eval x, fun w => ?_, ?_⟩
    · unfold execOp
      rw [hop]
      dsimp only at h ⊢
      split at h
      · obtain ⟨n, _, e⟩ := hv
        rw [e]
        rfl
      · obtain ⟨vs, _, e⟩ := hv
        rw [e]
        rfl
      · cases h
    · split at h
      · obtain rfl := Option.some.inj h
        exact hv
      · obtain rfl := Option.some.inj h
        exact hv
      · cases h
  case fieldAddr s x f =>
    obtain ⟨y, hy, hv⟩ := still_fieldAddr m h
    refine ⟨y, fun w => ?_, hv⟩
    unfold execOp
    rw [hop]
    exact run_value w hy
  case field s x f =>
    obtain ⟨y, hy, hv⟩ := still_field m h
    refine ⟨y, fun w => ?_, hv⟩
    unfold execOp
    rw [hop]
    exact run_value w hy
  case indexAddr t x i =>
    obtain ⟨y, hy, hv⟩ := still_indexAddr m h
    refine ⟨y, fun w => ?_, hv⟩
    unfold execOp
    rw [hop]
    exact run_value w hy
  case index t x i =>
    obtain ⟨y, hy, hv⟩ := still_index m h
    refine ⟨y, fun w => ?_, hv⟩
    unfold execOp
    rw [hop]
    exact run_value w hy
  case extract x i =>
    obtain ⟨y, hy, hv⟩ := still_extract m h
    refine ⟨y, fun w => ?_, hv⟩
    unfold execOp
    rw [hop]
    exact run_value w hy
  case makeFunc f first captured =>
    refine ⟨_, fun w => ?_, still_makeFunc m h⟩
    unfold execOp
    rw [hop]
    rfl
  case slice t x lo hi mx =>
    cases mx with
    | some _ => cases h
    | none =>
      obtain ⟨y, hy, hv⟩ := still_slice m h
      refine ⟨y, fun w => ?_, hv⟩
      unfold execOp
      rw [hop]
      exact run_value w hy
  case call q =>
    obtain ⟨callee, args, ts⟩ := q
    cases callee with
    | builtin b =>
      cases b
      all_goals (try cases h; done)
      case len =>
        have h : (match args.toList, ts.toList with
          | [x], [t] => (st.get1 x).bind fun v => match v, quiet P (underlying t) with
            | .one (.slice _ _ n _), some (.slice _) => some (V.v1 (.one (.const (.int .i64 n))))
            | _, some (.array n _) => some (.v1 (.one (.const (.int .i64 n))))
            | _, _ => none
          | _, _ => none) = some v := h
        split at h
        · rename_i x t hx ht
          obtain ⟨v1, h1, h⟩ := Option.bind_eq_some_iff.1 h
          have hv := m.get1 h1
          have ea : args.map a.eval = #[a.eval x] := by
            apply Array.ext'
            rw [Array.toList_map, hx]
            rfl
          have et : ts = #[t] := by
            apply Array.ext'
            rw [ht]
          split at h
          · rename_i b o n k e hu
            obtain rfl := Option.some.inj h
            obtain ⟨q, hq, ev⟩ := hv
            refine ⟨.int .i64 n, fun w => len_run ea et ?_ hop, ⟨rfl, rfl⟩⟩
            rw [ev]
            exact quiet_bind_some hu rfl
          · rename_i n e hu
            obtain rfl := Option.some.inj h
            refine ⟨.int .i64 n, fun w => len_run ea et ?_ hop, ⟨rfl, rfl⟩⟩
            exact quiet_bind_some hu rfl
          · cases h
        · cases h
    | value _ => cases h
    | invoke _ _ => cases h
end
end Go.Proofs.YtliabkapejhohaaGreatDoor.Sx
/- A symbolic run of structured code, part five: pure operations, conditions, guards; loads, stores, and what makes memory. -/
namespace Go.Proofs.YtliabkapejhohaaGreatDoor.Sx
open Go Go.RowKit Go.Proofs.YtliabkapejhohaaGreatDoorW.PrintLast

section
variable {B : Bs} {w : World} {c : Cx} {st : St} {a : Act} {P : Program}
theorem get1s_at (m : M B c st a w) : ∀ {l : List Operand} {vs : List (V1 S)}, get1s st l = some vs → All2 (V1.at (S.at c)) vs (l.map a.eval)
  | [], vs, h => by
    obtain rfl := Option.some.inj h
    trivial
  | x :: l, vs, h => by
    obtain ⟨v, hv, h⟩ := Option.bind_eq_some_iff.1 h
    obtain ⟨r, hr, h⟩ := Option.bind_eq_some_iff.1 h
    obtain rfl := Option.some.inj h
    exact ⟨m.get1 hv, get1s_at m hr⟩
theorem gets_at (m : M B c st a w) : ∀ {l : List Operand} {vs : List (V S)}, gets st l = some vs → All2 (V.at (S.at c)) vs (l.map a.eval)
  | [], vs, h => by
    obtain rfl := Option.some.inj h
    trivial
  | x :: l, vs, h => by
    obtain ⟨v, hv, h⟩ := Option.bind_eq_some_iff.1 h
    obtain ⟨r, hr, h⟩ := Option.bind_eq_some_iff.1 h
    obtain rfl := Option.some.inj h
    exact ⟨m.get hv, gets_at m hr⟩
theorem value_D {h : Hp} {d : D} {y v : Value} (hd : D.at h d y) (hv : d.value = some v) : y = v := by
  cases d with
  | v x => exact (D.at_v.1 hd).1.trans (Option.some.inj hv)
  | l _ _ => cases hv
theorem values_eq {α : Type} {f : α → Option Value} {R : α → Value → Prop} (hf : ∀ a y v, R a y → f a = some v → y = v) : ∀ {l : List α} {ys vs : List Value}, All2 R l ys → vals f l = some vs → ys = vs
  | [], [], vs, _, e => Option.some.inj e
  | a :: l, y :: ys, vs, h, e => by
    unfold vals at e
    obtain ⟨x, hx, e⟩ := Option.bind_eq_some_iff.1 e
    obtain ⟨r, hr, e⟩ := Option.bind_eq_some_iff.1 e
    rw [← Option.some.inj e, hf a y x h.1 hx, values_eq hf h.2 hr]
  | [], _ :: _, _, h, _ => h.elim
  | _ :: _, [], _, h, _ => h.elim
theorem value_V1 {h : Hp} {d : V1 D} {y v : Value} (hd : d.at (D.at h) y) (hv : d.value = some v) : y = v := by
  cases d with
  | one d => exact value_D hd hv
  | agg ds =>
    obtain ⟨vs, hvs, e⟩ := hd
    obtain ⟨xs, hx, hv⟩ := Option.bind_eq_some_iff.1 hv
    rw [e, ← Option.some.inj hv, values_eq (R := D.at h) (fun _ _ _ => value_D) hvs hx]
theorem con_eq {x : Operand} : conB x = true ↔ ∃ v, x = .const v := by
  cases x <;> simp [conB]
theorem guard_eq (op : BinOp) (t : TypeId) (x y : Operand) (u v : Value) : eqGuard op t x y u v = eqGuard op t (eqOn (conB x || conB y)) (eqOn (conB x || conB y)) u v := by
  unfold eqGuard
  cases u <;> cases v <;> try rfl
  cases x <;> cases y <;> rfl
/-- The value of a pure operation on the values 'ys'. -/
theorem plain_at {h : Hp} {p : Pu} {ds : List (V1 D)} {ys : List Value} {d : D} (hd : All2 (V1.at (D.at h)) ds ys) (hr : p.plain P ds = some d) : ∃ y, quiet P (p.sem ys) = some y ∧ D.at h d y := by
  obtain ⟨vs, hv, hr⟩ := Option.bind_eq_some_iff.1 hr
  obtain ⟨y, hy, hr2⟩ := Option.bind_eq_some_iff.1 hr
  obtain rfl := values_eq (R := V1.at (D.at h)) (fun _ _ _ => value_V1) hd hv
  split at hr2
  · rename_i hc
    obtain rfl := Option.some.inj hr2
    exact ⟨y, hy, D.at_v.2 ⟨rfl, hc⟩⟩
  · cases hr2
theorem run_plain {p : Pu} {ds : List (V1 D)} (hp : p ≠ .llen) : p.run P ds = p.plain P ds := by
  cases p <;> first | rfl | exact absurd rfl hp
/-- What a pure operation yields whatever the world. -/
theorem pure_sound (m : M B c st a w) {o : Oper} {p : Pu} {xs : List (V1 S)} {ds : List (V1 D)} {d : D} (h : pureOf P st o.op = some (p, xs)) (hv : vals (V1.val (S.val c.env)) xs = some ds) (hr : p.run P ds = some d) :
    ∃ y, (∀ w, (execOp a.eval o).run P w = .ok (.value y) w) ∧ D.at c.H d y := by
  have fin : ∀ {ys : List Value}, All2 (V1.at (S.at c)) xs ys → p ≠ .llen → (∀ w y, quiet P (p.sem ys) = some y → (execOp a.eval o).run P w = .ok (.value y) w) → ∃ y, (∀ w, (execOp a.eval o).run P w = .ok (.value y) w) ∧ D.at c.H d y := by
    intro ys hys hp he
    rw [run_plain hp] at hr
    obtain ⟨y, hy, hd⟩ := plain_at (vals_at (R := V1.at (S.at c)) (fun _ _ _ => V1.val_at) hys hv) hr
    exact ⟨y, fun w => he w y hy, hd⟩
  cases hop : o.op
  all_goals rw [hop] at h
  all_goals (try cases h; done)
  case binOp op t x y yt =>
    obtain ⟨vx, hx, h⟩ := Option.bind_eq_some_iff.1 h
    obtain ⟨vy, hy, h⟩ := Option.map_eq_some_iff.1 h
    obtain ⟨rfl, rfl⟩ := Prod.mk.injEq .. ▸ h
    refine fin (ys := [a.eval x, a.eval y]) ⟨m.get1 hx, m.get1 hy, trivial⟩ (by simp) fun w z hz => ?_
    unfold execOp
    rw [hop]
    refine run_value w ?_
    rw [guard_eq]
    exact hz
  case unOp op t x =>
    obtain ⟨vx, hx, h⟩ := Option.map_eq_some_iff.1 h
    obtain ⟨rfl, rfl⟩ := Prod.mk.injEq .. ▸ h
    refine fin (ys := [a.eval x]) ⟨m.get1 hx, trivial⟩ (by simp) fun w z hz => ?_
    unfold execOp
    rw [hop]
    exact run_value w hz
  case convert src dst x =>
    have h : (match quiet P (underlying src), quiet P (underlying dst) with
      | some (.slice _), _ | _, some (.slice _) => none
      | _, _ => (st.get1 x).map fun a => (Pu.conv src dst, [a])) = some (p, xs) := h
    split at h
    · cases h
    · cases h
    · obtain ⟨vx, hx, h⟩ := Option.map_eq_some_iff.1 h
      obtain ⟨rfl, rfl⟩ := Prod.mk.injEq .. ▸ h
      refine fin (ys := [a.eval x]) ⟨m.get1 hx, trivial⟩ (by simp) fun w z hz => ?_
      unfold execOp
      rw [hop]
      exact run_value w hz
  case index t x i =>
    obtain ⟨vx, hx, h⟩ := Option.bind_eq_some_iff.1 h
    obtain ⟨vy, hy, h⟩ := Option.map_eq_some_iff.1 h
    obtain ⟨rfl, rfl⟩ := Prod.mk.injEq .. ▸ h
    refine fin (ys := [a.eval x, a.eval i]) ⟨m.get1 hx, m.get1 hy, trivial⟩ (by simp) fun w z hz => ?_
    unfold execOp
    rw [hop]
    exact run_value w hz
  case slice t x lo hi mx =>
    cases mx with
    | some _ => cases h
    | none =>
      obtain ⟨vx, hx, h⟩ := Option.bind_eq_some_iff.1 h
      obtain ⟨bs, hb, h⟩ := Option.map_eq_some_iff.1 h
      obtain ⟨rfl, rfl⟩ := Prod.mk.injEq .. ▸ h
      refine fin (ys := a.eval x :: ((lo.toList ++ hi.toList).map a.eval)) ⟨m.get1 hx, get1s_at m hb⟩ (by simp) fun w z hz => ?_
      unfold execOp
      rw [hop]
      cases lo <;> cases hi <;> exact run_value w hz
  case call q =>
    obtain ⟨callee, args, ts⟩ := q
    cases callee with
    | builtin b =>
      cases b
      all_goals (try cases h; done)
      case len =>
        have h : (match args.toList, ts.toList with
          | [x], [t] => (st.get1 x).map fun v => match quiet P (underlying t) with
            | some (.slice _) => (Pu.llen, [v])
            | _ => (.blt .len t, [v])
          | _, _ => none) = some (p, xs) := h
        split at h
        · rename_i x t hx ht
          obtain ⟨v1, h1, h⟩ := Option.map_eq_some_iff.1 h
          have hv1 := m.get1 h1
          have ea : args.map a.eval = #[a.eval x] := by
            apply Array.ext'
            rw [Array.toList_map, hx]
            rfl
          have et : ts = #[t] := by
            apply Array.ext'
            rw [ht]
          split at h
          · rename_i e hu
            obtain ⟨rfl, rfl⟩ := Prod.mk.injEq .. ▸ h
            obtain ⟨d1, hd1, hv⟩ := Option.bind_eq_some_iff.1 hv
            obtain rfl := Option.some.inj hv
            have hda := V1.val_at hv1 hd1
            cases d1 with
            | agg _ => cases hr
            | one d1 =>
              cases d1 with
              | v _ => cases hr
              | l n dd =>
                obtain rfl := Option.some.inj hr
                have hda : D.at c.H (.l n dd) (a.eval x) := hda
                unfold D.at at hda
                obtain ⟨ad, cp, e1, _⟩ := hda
                refine ⟨.int .i64 n, fun w => len_run ea et ?_ hop, D.at_v.2 ⟨rfl, rfl⟩⟩
                rw [e1]
                exact quiet_bind_some hu rfl
          · obtain ⟨rfl, rfl⟩ := Prod.mk.injEq .. ▸ h
            exact fin (ys := [a.eval x]) ⟨hv1, trivial⟩ (by simp) fun w z hz => len_run ea et hz hop
        · cases h
      case min =>
        have h : (match args.toList with
          | [x, y] => (st.get1 x).bind fun a => (st.get1 y).map fun b => (Pu.blt .min 0, [a, b])
          | _ => none) = some (p, xs) := h
        split at h
        · rename_i x y hl
          obtain ⟨vx, hx, h⟩ := Option.bind_eq_some_iff.1 h
          obtain ⟨vy, hy, h⟩ := Option.map_eq_some_iff.1 h
          obtain ⟨rfl, rfl⟩ := Prod.mk.injEq .. ▸ h
          refine fin (ys := [a.eval x, a.eval y]) ⟨m.get1 hx, m.get1 hy, trivial⟩ (by simp) fun w z hz => ?_
          have ea : args.map a.eval = #[a.eval x, a.eval y] := by
            apply Array.ext'
            rw [Array.toList_map, hl]
            rfl
          unfold execOp
          rw [hop]
          dsimp only [resolve]
          rw [ea]
          exact run_value w hz
        · cases h
      case max =>
        have h : (match args.toList with
          | [x, y] => (st.get1 x).bind fun a => (st.get1 y).map fun b => (Pu.blt .max 0, [a, b])
          | _ => none) = some (p, xs) := h
        split at h
        · rename_i x y hl
          obtain ⟨vx, hx, h⟩ := Option.bind_eq_some_iff.1 h
          obtain ⟨vy, hy, h⟩ := Option.map_eq_some_iff.1 h
          obtain ⟨rfl, rfl⟩ := Prod.mk.injEq .. ▸ h
          refine fin (ys := [a.eval x, a.eval y]) ⟨m.get1 hx, m.get1 hy, trivial⟩ (by simp) fun w z hz => ?_
          have ea : args.map a.eval = #[a.eval x, a.eval y] := by
            apply Array.ext'
            rw [Array.toList_map, hl]
            rfl
          unfold execOp
          rw [hop]
          dsimp only [resolve]
          rw [ea]
          exact run_value w hz
        · cases h
    | value _ => cases h
    | invoke _ _ => cases h

/-! ### what a step without memory does -/
variable {C : Cf} {n : Nat} {L : List T} {r : List D}
/-- What is known behind such a step. -/
structure Same (c c' : Cx) (st st' : St) : Prop where
  ext : Ext c c'
  ρ : c'.ρ = c.ρ
  H : c'.H = c.H
  tmps : st'.tmps = st.tmps
  blocks : st'.blocks = st.blocks
theorem Same.refl (c : Cx) (st : St) : Same c c st st := ⟨Ext.refl _, rfl, rfl, rfl, rfl⟩
theorem Same.trans {c1 c2 c3 : Cx} {s1 s2 s3 : St} (h : Same c1 c2 s1 s2) (g : Same c2 c3 s2 s3) : Same c1 c3 s1 s3 :=
  ⟨h.ext.trans g.ext, g.ρ.trans h.ρ, g.H.trans h.H, g.tmps.trans h.tmps, g.blocks.trans h.blocks⟩
theorem cond_sound (m : M B c st a w) {s : V S} {k : Bool → St → Option T} {t : T} {y : Value} (hs : s.at (S.at c) y) (h : doCond s st k = some t) (hr : t.run P C n L c.env = some r) :
    ∃ b st' t', y = .bool b ∧ k b st' = some t' ∧ t'.run P C n L c.env = some r ∧ M B c st' a w ∧ Same c c st st' := by
  have unf : ∀ {i : Nat} {t e : T}, T.run P C n L (.ite i t e) c.env = some r → (c.env[i]? = some (.v (.bool true)) ∧ T.run P C n L t c.env = some r) ∨ (c.env[i]? = some (.v (.bool false)) ∧ T.run P C n L e c.env = some r) := by
    intro i t e hr
    cases n <;>
    · unfold T.run T.runB at hr
      split at hr
      · exact .inl ⟨‹_›, hr⟩
      · exact .inr ⟨‹_›, hr⟩
      · cases hr
  unfold doCond at h
  split at h
  · rename_i b
    exact ⟨b, st, t, hs.1, h, hr, m, Same.refl _ _⟩
  · rename_i i
    obtain ⟨d, hd, hy⟩ := hs
    split at h
    · rename_i b hb
      have h1 := m.kn _ (lookup_mem hb)
      obtain rfl : D.v (.bool b) = d := Option.some.inj (h1.symm.trans hd)
      exact ⟨b, st, t, (D.at_v.1 hy).1, h, hr, m, Same.refl _ _⟩
    · obtain ⟨t1, h1, h⟩ := Option.bind_eq_some_iff.1 h
      obtain ⟨t2, h2, h⟩ := Option.bind_eq_some_iff.1 h
      obtain rfl := Option.some.inj h
      rcases unf hr with ⟨he, hr⟩ | ⟨he, hr⟩
      · obtain rfl : D.v (.bool true) = d := Option.some.inj (he.symm.trans hd)
        refine ⟨true, _, t1, (D.at_v.1 hy).1, h1, hr, { m with kn := ?_ }, ⟨Ext.refl _, rfl, rfl, rfl, rfl⟩⟩
        intro p hp
        rcases List.mem_cons.1 hp with rfl | hp
        · exact he
        · exact m.kn p hp
      · obtain rfl : D.v (.bool false) = d := Option.some.inj (he.symm.trans hd)
        refine ⟨false, _, t2, (D.at_v.1 hy).1, h2, hr, { m with kn := ?_ }, ⟨Ext.refl _, rfl, rfl, rfl, rfl⟩⟩
        intro p hp
        rcases List.mem_cons.1 hp with rfl | hp
        · exact he
        · exact m.kn p hp
  · cases h
theorem enum_sound (m : M B c st a w) {i : Nat} {k : St → Option T} : ∀ {q : Nat} {j : Int} {t : T}, enumT i st k q j = some t → t.run P C n L c.env = some r →
    ∃ st' t', k st' = some t' ∧ t'.run P C n L c.env = some r ∧ M B c st' a w ∧ Same c c st st'
  | 0, j, t, h, hr => by
    obtain rfl := Option.some.inj h
    cases n <;> · unfold T.run T.runB at hr; cases hr
  | q + 1, j, t, h, hr => by
    obtain ⟨t1, h1, h⟩ := Option.bind_eq_some_iff.1 h
    obtain ⟨t2, h2, h⟩ := Option.bind_eq_some_iff.1 h
    obtain rfl := Option.some.inj h
    have unf : (∃ k, c.env[i]? = some (.v (.int k j)) ∧ t1.run P C n L c.env = some r) ∨ t2.run P C n L c.env = some r := by
      cases n <;>
      · unfold T.run T.runB at hr
        split at hr
        · split at hr
          · rename_i kk nn he hj
            subst hj
            exact .inl ⟨kk, he, hr⟩
          · exact .inr hr
        · cases hr
    rcases unf with ⟨kk, he, hr⟩ | hr
    · refine ⟨_, t1, h1, hr, { m with is := ?_ }, ⟨Ext.refl _, rfl, rfl, rfl, rfl⟩⟩
      intro p hp
      rcases List.mem_cons.1 hp with rfl | hp
      · exact ⟨kk, he⟩
      · exact m.is p hp
    · exact enum_sound m h2 hr
theorem ix_sound (m : M B c st a w) {op : Op} {k : St → Option T} {t : T} (h : withIx P op st k = some t) (hr : t.run P C n L c.env = some r) :
    ∃ st' t', k st' = some t' ∧ t'.run P C n L c.env = some r ∧ M B c st' a w ∧ Same c c st st' := by
  unfold withIx at h
  split at h
  · exact enum_sound m h hr
  · exact ⟨st, t, h, hr, m, Same.refl _ _⟩
theorem con_val {env : List D} : ∀ {s : S} {d : D}, conD s = some d → s.val env = some d
  | .const _, _, h => h
  | .var _, _, h => by cases h
  | .ptr _ _, _, h => by cases h
  | .slice _ _ _ _, _, h => by cases h
  | .func _ _, _, h => by cases h
theorem vals_imp {α β : Type} {f g : α → Option β} (hf : ∀ a b, f a = some b → g a = some b) : ∀ {l : List α} {m : List β}, vals f l = some m → vals g l = some m
  | [], _, h => h
  | a :: l, m, h => by
    unfold vals at h ⊢
    obtain ⟨x, hx, h⟩ := Option.bind_eq_some_iff.1 h
    obtain ⟨y, hy, h⟩ := Option.bind_eq_some_iff.1 h
    rw [hf _ _ hx, Option.bind_some, vals_imp hf hy, Option.bind_some]
    exact h
theorem con_vals {env : List D} {l : List (V1 S)} {ds : List (V1 D)} (h : vals (V1.val conD) l = some ds) : vals (V1.val (S.val env)) l = some ds :=
  vals_imp (fun x d hx => by
    cases x with
    | one s =>
      obtain ⟨y, hy, hx⟩ := Option.bind_eq_some_iff.1 hx
      show (s.val env).bind _ = _
      rw [con_val hy]
      exact hx
    | agg ss =>
      obtain ⟨y, hy, hx⟩ := Option.bind_eq_some_iff.1 hx
      show (vals (S.val env) ss).bind _ = _
      rw [vals_imp (fun _ _ => con_val) hy]
      exact hx) h
theorem val_sound (m : M B c st a w) {o : Oper} {k : V S → St → Option T} {t : T} (h : doVal P o st k = some t) (hr : t.run P C n L c.env = some r) :
    ∃ v st' t' c' y, k v st' = some t' ∧ t'.run P C n L c'.env = some r ∧ (∀ w, (execOp a.eval o).run P w = .ok (.value y) w) ∧ v.at (S.at c') y ∧ M B c' st' a w ∧ Same c c' st st' := by
  obtain ⟨st1, t1, h, hr, m, hsame⟩ := ix_sound m h hr
  split at h
  · rename_i v hv
    obtain ⟨y, hy, hat⟩ := still_sound m hv
    exact ⟨v, st1, t1, c, y, h, hr, hy, hat, m, hsame⟩
  · split at h
    · rename_i p xs hp
      unfold doPure at h
      split at h
      · rename_i ds hds
        split at h
        · rename_i x hx
          obtain ⟨y, hy, hat⟩ := pure_sound m hp (con_vals hds) hx
          have e := D.at_v.1 hat
          exact ⟨_, st1, t1, c, y, h, hr, hy, ⟨e.1, by rw [e.1]; exact e.2⟩, m, hsame⟩
        · cases h
      · obtain ⟨t2, h2, rfl⟩ := Option.map_eq_some_iff.1 h
        have unf : ∃ ds d, vals (V1.val (S.val c.env)) xs = some ds ∧ p.run P ds = some d ∧ t2.run P C n L (c.env ++ [d]) = some r := by
          cases n <;>
          · unfold T.run T.runB at hr
            obtain ⟨ds, hds, hr⟩ := Option.bind_eq_some_iff.1 hr
            obtain ⟨d, hd, hr⟩ := Option.bind_eq_some_iff.1 hr
            exact ⟨ds, d, hds, hd, hr⟩
        obtain ⟨ds, d, hds, hd, hr⟩ := unf
        obtain ⟨y, hy, hat⟩ := pure_sound m hp hds hd
        refine ⟨_, _, t2, ⟨c.env ++ [d], c.ρ, c.H⟩, y, h2, hr, hy, ⟨d, ?_, hat⟩, m.bind [d], hsame.trans ⟨Ext.bind c [d], rfl, rfl, rfl, rfl⟩⟩
        show (c.env ++ [d])[st1.nv]? = some d
        rw [← m.nv, List.getElem?_append_right (Nat.le_refl _), Nat.sub_self]
        rfl
    · split at h
      · rename_i q u v hop
        obtain ⟨vq, hq, h⟩ := Option.bind_eq_some_iff.1 h
        obtain ⟨vu, hu, h⟩ := Option.bind_eq_some_iff.1 h
        obtain ⟨vv, hv, h⟩ := Option.bind_eq_some_iff.1 h
        obtain ⟨b, st2, t2, hb, h, hr, m2, hs2⟩ := cond_sound m (m.get hq) h hr
        refine ⟨_, st2, t2, c, (if b then a.eval u else a.eval v), h, hr, fun w => ?_, ?_, m2, hsame.trans hs2⟩
        · unfold execOp
          rw [hop]
          dsimp only
          rw [hb]
          cases b <;> rfl
        · cases b
          · exact m.get hv
          · exact m.get hu
      · cases h
theorem guard_sound (m : M B c st a w) {ops : Array Oper} {o : Oper} {k : Bool → St → Option T} {t : T} (h : doGuard ops o st k = some t) (hr : t.run P C n L c.env = some r) :
    ∃ b st' t', Region.wanted o (yielded ops a.tmps) = b ∧ k b st' = some t' ∧ t'.run P C n L c.env = some r ∧ M B c st' a w ∧ Same c c st st' := by
  unfold doGuard at h
  split at h
  · rename_i hg
    refine ⟨true, st, t, ?_, h, hr, m, Same.refl _ _⟩
    unfold Region.wanted
    rw [hg]
  · rename_i j want hg
    have wt : Region.wanted o (yielded ops a.tmps) = (yielded ops a.tmps j == some want) := by
      unfold Region.wanted
      rw [hg]
    have ge : ∀ {v : V S}, ((ops[j]?).bind (·.dst)).bind (st.tmps[·]?) = some v → ∃ y, ((ops[j]?).bind (·.dst)).bind (a.tmps[·]?) = some y ∧ v.at (S.at c) y := by
      intro v hv
      obtain ⟨d, hd, hv⟩ := Option.bind_eq_some_iff.1 hv
      obtain ⟨y, hy, hat⟩ := m.tm.get hv
      refine ⟨y, ?_, hat⟩
      rw [hd, Option.bind_some, ← Array.getElem?_toList]
      exact hy
    split at h
    · rename_i s hs
      obtain ⟨y, hy, hat⟩ := ge hs
      obtain ⟨b, st2, t2, hb, h, hr, m2, hs2⟩ := cond_sound m hat h hr
      refine ⟨b == want, st2, t2, ?_, h, hr, m2, hs2⟩
      rw [wt]
      unfold yielded
      rw [hy, hb]
      cases b <;> cases want <;> rfl
    · rename_i vs hs
      obtain ⟨y, hy, vv, _, hat⟩ := ge hs
      refine ⟨false, st, t, ?_, h, hr, m, Same.refl _ _⟩
      rw [wt]
      unfold yielded
      rw [hy, hat]
      rfl
    · cases h

/-! ### loads, stores, what makes memory -/
theorem load_sound (m : M B c st a w) {o : Oper} {v : V1 S} (h : loadV P st o.op = some v) :
    ∃ t x b n, o.op = .load t x ∧ blkOf st x = some b ∧ c.ρ[b]? = some n ∧ ∃ y, (∀ w', w'.heap[n]? = w.heap[n]? → (execOp a.eval o).run P w' = .ok (.value y) w') ∧ v.at (S.at c) y := by
  unfold loadV at h
  split at h
  · rename_i t x hop
    obtain ⟨vx, hx, h⟩ := Option.bind_eq_some_iff.1 h
    obtain ⟨⟨b, o'⟩, hp, h⟩ := Option.bind_eq_some_iff.1 h
    obtain ⟨bl, hb, h⟩ := Option.bind_eq_some_iff.1 h
    obtain ⟨n, hn, e⟩ := ptr_at hp (m.get1 hx)
    obtain ⟨n', hn', cs, hcs, hat⟩ := m.bl.get hb
    obtain rfl : n' = n := Option.some.inj (hn'.symm.trans hn)
    have hbo : blkOf st x = some b := by
      unfold blkOf
      rw [hx, Option.bind_some, hp]
      rfl
    have hex : ∀ (y : Value) (w' : World), (loadVar t ⟨n', o', none⟩).run P w' = .ok y w' → (execOp a.eval o).run P w' = .ok (.value y) w' := by
      intro y w' hy
      unfold execOp
      rw [hop]
      dsimp only
      rw [e]
      have h1 : (Instr.loadAt t (.pointer (some ⟨n', o', none⟩))).run P w' = .ok y w' := hy
      exact (run_bind_ok h1).trans rfl
    have hl := hat.length
    unfold partOf at h
    split at h
    · rename_i k h1 h2
      split at h
      · rename_i hle
        obtain rfl := Option.some.inj h
        refine ⟨t, x, b, n', hop, hbo, hn, .agg (#[] ++ ((cs.toList.drop (o' + 0)).take k).toArray), fun w' hw => hex _ _ ?_, ⟨(cs.toList.drop o').take k, (hat.drop o').take k, by simp⟩⟩
        have hw2 : w'.heap[n']? = some (.cells cs bl.elem (0, 0)) := hw.trans hcs
        unfold loadVar
        refine (run_bind_ok (quiet_run _ w' h1)).trans ?_
        refine (run_bind_ok (quiet_run _ w' h2)).trans ?_
        refine (run_bind_ok (run_loadCells hw2 k 0 #[] ?_)).trans rfl
        rw [hl] at hle
        show o' + 0 + k ≤ cs.size
        exact hle
      · cases h
    · rename_i h1
      obtain ⟨s, hs, rfl⟩ := Option.map_eq_some_iff.1 h
      obtain ⟨y, hy, hat2⟩ := hat.get hs
      refine ⟨t, x, b, n', hop, hbo, hn, y, fun w' hw => hex _ _ ?_, hat2⟩
      have hw2 : w'.heap[n']? = some (.cells cs bl.elem (0, 0)) := hw.trans hcs
      unfold loadVar
      refine (run_bind_ok (quiet_run _ w' h1)).trans ?_
      exact run_load ((cell_at hw2).trans (by rw [← Array.getElem?_toList]; exact hy))
    · cases h
  · cases h
theorem newRow_run {e : TypeId} {cs : Array Value} {w : World} {f : Addr → Value} : (newRow e cs >>= fun x => Pure.pure (f x) : Sem Value).run P w = .ok (f ⟨w.heap.size, 0, none⟩) (w.alloc (.cells cs e)) := rfl
theorem zeroS {z : List S} {cs : Array Value} (h : All2 (S.at c) z cs.toList) (hz : z ≠ []) (n : Nat) :
    All2 (S.at c) ((List.range n).map fun i => z.getD (i % z.length) default) ((Array.range n).map (cs[· % cs.size]!)).toList := by
  have hl := h.length
  have hl2 : z.length = cs.size := hl
  have hpos : 0 < z.length := List.length_pos_iff.2 hz
  rw [Array.toList_map, Array.toList_range]
  generalize List.range n = l
  induction l with
  | nil => exact trivial
  | cons i l ih =>
    refine ⟨?_, ih⟩
    have hi : i % z.length < z.length := Nat.mod_lt _ hpos
    obtain ⟨y, hy, hat⟩ := h.get (List.getElem?_eq_getElem hi)
    have e1 : z.getD (i % z.length) default = z[i % z.length] := by rw [List.getD_eq_getElem?_getD, List.getElem?_eq_getElem hi]; rfl
    have e2 : cs[i % cs.size]! = y := by
      rw [← hl2]
      rw [Array.getElem?_toList] at hy
      rw [getElem!_def, hy]
    show S.at c (z.getD (i % z.length) default) (cs[i % cs.size]!)
    rw [e1, e2]
    exact hat
theorem makes_sound (m : M B c st a w) {o : Oper} {e : TypeId} {ss : List S} {mk : Nat → S} (h : makesV P st o.op = some (e, ss, mk)) :
    ∃ (cs : Array Value) (mkv : Nat → Value), (∀ w, (execOp a.eval o).run P w = .ok (.value (mkv w.heap.size)) (w.alloc (.cells cs e))) ∧ All2 (S.at c) ss cs.toList ∧ ∀ (c' : Cx) b n, c'.ρ[b]? = some n → (mk b).at c' (mkv n) := by
  unfold makesV at h
  split at h
  · rename_i t hop
    obtain ⟨z, hz, h⟩ := Option.map_eq_some_iff.1 h
    obtain ⟨rfl, rfl, rfl⟩ : t = e ∧ z = ss ∧ (fun b => S.ptr b 0) = mk := by simpa using h
    obtain ⟨x, hx, hat⟩ := zeros_at (c := c) hz
    refine ⟨x.cells, fun n => .pointer (some ⟨n, 0, none⟩), fun w => ?_, hat, fun c' b n hn => ⟨n, hn, rfl⟩⟩
    unfold execOp
    rw [hop]
    have h1 : (Instr.alloc t true (.tuple #[])).run P w = .ok (.pointer (some ⟨w.heap.size, 0, none⟩)) (w.alloc (.cells x.cells t)) := by
      unfold Instr.alloc
      refine (run_bind_ok (quiet_run _ w hx)).trans ?_
      rfl
    exact (run_bind_ok h1).trans rfl
  · rename_i t x hop
    obtain ⟨v, hv, h⟩ := Option.map_eq_some_iff.1 h
    obtain ⟨rfl, rfl, rfl⟩ : t = e ∧ v.cells = ss ∧ (fun b => S.ptr b 0) = mk := by simpa using h
    refine ⟨(a.eval x).cells, fun n => .pointer (some ⟨n, 0, none⟩), fun w => ?_, V1.at_cells (m.get1 hv), fun c' b n hn => ⟨n, hn, rfl⟩⟩
    unfold execOp
    rw [hop]
    rfl
  · rename_i t n parts hop
    split at h
    · rename_i el hu
      obtain ⟨s, hs, h⟩ := Option.bind_eq_some_iff.1 h
      split at h
      · cases h
      · rename_i hlim
        obtain ⟨z, hz, h⟩ := Option.bind_eq_some_iff.1 h
        split at h
        · cases h
        rename_i hz0
        have hz0 : z ≠ [] := fun e => hz0 (by rw [e]; rfl)
        obtain ⟨ps, hps, h⟩ := Option.bind_eq_some_iff.1 h
        obtain ⟨ss', hss, h⟩ := Option.map_eq_some_iff.1 h
        obtain ⟨rfl, rfl, rfl⟩ : el = e ∧ ss' = ss ∧ (fun b => S.slice b 0 n n) = mk := by simpa using h
        obtain ⟨x, hx, hat⟩ := zeros_at (c := c) hz
        have hp := parts_at m hps
        have hl : (parts.map fun (p : Nat × Operand) => (p.1, a.eval p.2)).toList = parts.toList.map fun (i, x) => (i, a.eval x) := by simp
        have key : ∀ zc : Array Value, All2 (S.at c) ((List.range (n * s)).map fun i => z.getD (i % z.length) default) ((Array.range (n * s)).map (zc[· % zc.size]!)).toList →
            (n * s = 0 ∧ zc = #[] ∨ n * s ≠ 0 ∧ zc = x.cells) →
            ∃ (cs : Array Value) (mkv : Nat → Value), (∀ w, (execOp a.eval o).run P w = .ok (.value (mkv w.heap.size)) (w.alloc (.cells cs el))) ∧ All2 (S.at c) ss' cs.toList ∧ ∀ (c' : Cx) b k, c'.ρ[b]? = some k → ((fun b => S.slice b 0 n n) b).at c' (mkv k) := by
          intro zc hzc hq
          obtain ⟨cs', hf, hcs⟩ := fill_at hss hp hzc
          refine ⟨cs', fun k => .slice (some ⟨k, 0, none⟩) n n, fun w => ?_, hcs, fun c' b k hk => ⟨k, hk, rfl⟩⟩
          unfold execOp
          rw [hop]
          have h1 : (Instr.buildSlice t n (parts.map fun (i, x) => (i, a.eval x))).run P w = .ok (.slice (some ⟨w.heap.size, 0, none⟩) n n) (w.alloc (.cells cs' el)) := by
            unfold Instr.buildSlice
            refine (run_bind_ok (quiet_run _ w hu)).trans ?_
            refine (run_bind_ok (quiet_run _ w hs)).trans ?_
            rw [if_neg (by have : (2 : Nat) ^ 16 ≤ 2 ^ 24 := by decide
                           omega)]
            have tl : (match Instr.fill (fun i => some (i * s, s)) ((Array.range (n * s)).map (zc[· % zc.size]!)) (parts.map fun (p : Nat × Operand) => (p.1, a.eval p.2)).toList with
              | some cells => (do
                let r ← newRow el cells
                Pure.pure (Value.slice (some r) n n) : Sem Value)
              | _ => stuck "buildSlice: a part of the wrong size").run P w = .ok (.slice (some ⟨w.heap.size, 0, none⟩) n n) (w.alloc (.cells cs' el)) := by
              rw [hl, hf]
              rfl
            rcases hq with ⟨h0, rfl⟩ | ⟨h0, rfl⟩
            · dsimp only
              rw [if_pos h0]
              exact (run_bind_ok (a := #[]) rfl).trans tl
            · dsimp only
              rw [if_neg h0]
              exact (run_bind_ok (quiet_run _ w hx)).trans ((run_bind_ok (a := x.cells) rfl).trans tl)
          exact (run_bind_ok h1).trans rfl
        by_cases h0 : n * s = 0
        · refine key #[] ?_ (.inl ⟨h0, rfl⟩)
          rw [h0]
          simp [All2]
        · exact key x.cells (zeroS hat hz0 _) (.inr ⟨h0, rfl⟩)
    · cases h
  · cases h
end
end Go.Proofs.YtliabkapejhohaaGreatDoor.Sx
/- A symbolic run of structured code, part six: stores, calls, regions in the text's order. -/
namespace Go.Proofs.YtliabkapejhohaaGreatDoor.Sx
open Go Go.RowKit Go.Proofs.YtliabkapejhohaaGreatDoorW.PrintLast

theorem All2.of_get {α β : Type} {R : α → β → Prop} : ∀ {l : List α} {m : List β}, l.length = m.length → (∀ (i : Nat) a b, l[i]? = some a → m[i]? = some b → R a b) → All2 R l m
  | [], [], _, _ => trivial
  | a :: l, b :: m, h, g => ⟨g 0 a b rfl rfl, All2.of_get (by simpa using h) fun i x y hx hy => g (i + 1) x y (by simpa using hx) (by simpa using hy)⟩
  | [], _ :: _, h, _ => by simp at h
  | _ :: _, [], h, _ => by simp at h
section
variable {B : Bs} {w : World} {c : Cx} {st : St} {a : Act} {P : Program}
theorem store_sound (m : M B c st a w) {pm : Pm} (hlo : B.lo = pm.lo) {o : Oper} {st' : St} (h : storeV P pm st o.op = some st') :
    ∃ t x y b n w', o.op = .store t x y ∧ blkOf st x = some b ∧ c.ρ[b]? = some n ∧ (execOp a.eval o).run P w = .ok .skip w' ∧ M B c st' a w' ∧ st'.tmps = st.tmps ∧ st'.blocks.length = st.blocks.length ∧ (∀ k, k ≠ n → w'.heap[k]? = w.heap[k]?) := by
  unfold storeV at h
  split at h
  · rename_i t x y hop
    obtain ⟨vx, hx, h⟩ := Option.bind_eq_some_iff.1 h
    obtain ⟨⟨b, o'⟩, hp, h⟩ := Option.bind_eq_some_iff.1 h
    obtain ⟨bl, hb, h⟩ := Option.bind_eq_some_iff.1 h
    obtain ⟨v, hv, h⟩ := Option.bind_eq_some_iff.1 h
    obtain ⟨n, hn, e⟩ := ptr_at hp (m.get1 hx)
    split at h
    · rename_i hc
      obtain ⟨hc1, hc2, hc3⟩ := hc
      obtain rfl := Option.some.inj h
      obtain ⟨n', hn', cs, hcs, hat⟩ := m.bl.get hb
      obtain rfl : n' = n := Option.some.inj (hn'.symm.trans hn)
      have hy := V1.at_cells (m.get1 hv)
      have hlen := hy.length
      have hl2 := hat.length
      have hbase : B.w0.heap.size ≤ n' := m.wr b n' (by omega) hn
      have hsz : cs.size = cs.toList.length := rfl
      obtain ⟨w', hrun, hw1, hw2, hw3⟩ := run_storeCells (P := P) (o := o') hbase (a.eval y).cells.toList 0 w cs hcs (by omega) (S.cells_cell hy)
      refine ⟨t, x, y, b, n', w', hop, ?_, hn, ?_, ?_, rfl, by simp, hw2⟩
      · unfold blkOf
        rw [hx, Option.bind_some, hp]
        rfl
      · unfold execOp
        rw [hop]
        dsimp only
        have h1 : (Instr.storeAt t (a.eval x) (a.eval y)).run P w = .ok () w' := by
          rw [e]
          show (storeVar t ⟨n', o', none⟩ (a.eval y)).run P w = _
          unfold storeVar
          refine (run_bind_ok (quiet_run _ w hc2)).trans ?_
          rw [if_neg (by rw [Decidable.not_not]; exact hlen.symm)]
          exact hrun
        exact (run_bind_ok h1).trans rfl
      · have hcell : ∀ b' o'' x', c.H b' o'' = some x' → w'.cell? ⟨b', o'', none⟩ = some x' ∧ b' ∉ c.ρ := by
          intro b' o'' x' hh
          obtain ⟨h1, h2⟩ := m.hp b' o'' x' hh
          refine ⟨?_, h2⟩
          have hne : b' ≠ n' := fun he => h2 (he ▸ List.mem_of_getElem? hn)
          rw [World.cell?_of_block (w := w) (w' := w') (a := ⟨b', o'', none⟩) (hw2 b' hne)]
          exact h1
        exact {
          tm := m.tm
          df := m.df
          nv := m.nv
          bl := by
            refine All2.of_get (by rw [List.length_set]; exact m.bl.length) ?_
            intro i bl' k hi hk
            by_cases hib : i = b
            · subst hib
              obtain rfl : k = n' := Option.some.inj (hk.symm.trans hn)
              rw [List.getElem?_set_self (List.getElem?_eq_some_iff.1 hb).1] at hi
              obtain rfl := Option.some.inj hi
              refine ⟨_, hw1, ?_⟩
              show All2 (S.at c) (putAt bl.cells o' v.cells) (putAt cs.toList (o' + 0) (a.eval y).cells.toList)
              exact All2.putAt o' hat hy
            · rw [List.getElem?_set_ne (Ne.symm hib)] at hi
              obtain ⟨k', hk', cs', hcs', hat'⟩ := m.bl.get hi
              obtain rfl : k' = k := Option.some.inj (hk'.symm.trans hk)
              have hne : k' ≠ n' := by
                intro he
                subst he
                have h1 := List.getElem?_eq_some_iff.1 hk
                have h2 := List.getElem?_eq_some_iff.1 hn
                obtain ⟨h1l, h1e⟩ := h1
                obtain ⟨h2l, h2e⟩ := h2
                have hp := List.pairwise_iff_getElem.1 m.nd
                rcases Nat.lt_or_gt_of_ne hib with hlt | hlt
                · exact hp i b h1l h2l hlt (h1e.trans h2e.symm)
                · exact hp b i h2l h1l hlt (h2e.trans h1e.symm)
              exact ⟨cs', (hw2 _ hne).trans hcs', hat'⟩
          nd := m.nd
          be := m.be.trans hw3
          wr := m.wr
          hp := hcell
          hn := m.hn
          kn := m.kn
          is := m.is }
    · cases h
  · cases h

/-! ### contracts -/
def H1.at (h : Hp) : H1 → List D → Value → Prop
  | .one, ds, v => ∃ d, ds = [d] ∧ D.at h d v
  | .agg n, ds, v => ds.length = n ∧ ∃ vs : List Value, All2 (D.at h) ds vs ∧ v = .agg vs.toArray
def H1.ats (h : Hp) : List H1 → List D → List Value → Prop
  | [], ds, vs => ds = [] ∧ vs = []
  | s :: ss, ds, vs => ∃ d1 d2 v vs', ds = d1 ++ d2 ∧ vs = v :: vs' ∧ s.at h d1 v ∧ H1.ats h ss d2 vs'
def H.at (h : Hp) : H → List D → Value → Prop
  | .v1 s, ds, v => s.at h ds v
  | .tup ss, ds, v => ∃ vs : List Value, v = .tuple vs.toArray ∧ H1.ats h ss ds vs
/-- What a call leaves: a value of these cells, old memory as it was. -/
def Gives (h : Hp) (w : World) (s : H) (rs : List D) (e : Ending) (w' : World) : Prop :=
  ∃ v h', e = .returned v ∧ Below w.heap.size w w' ∧ Hp.le h h' ∧ (∀ b o x, h' b o = some x → w'.cell? ⟨b, o, none⟩ = some x ∧ (w.heap.size ≤ b ∨ h b o = some x)) ∧ H.at h' s rs v
/-- A function of shape 'ct' returns what 'F' says. -/
def Good (P : Program) (G : World → Prop) (f : FuncId) (ct : Ct) (F : List D → Option (List D)) : Prop :=
  ∀ ds rs, F ds = some rs → ∀ (h : Hp) (w : World) (args : List Value), G w → Holds h w → H1.ats h ct.ps ds args → Calls P f args.toArray w (Gives h w ct.h rs)
def Valid (P : Program) (G : World → Prop) (K : Cs) (C : Cf) : Prop := ∀ f ct, K f = some ct → Good P G f ct (C f)
theorem H1.at_length {h : Hp} : ∀ {s : H1} {ds : List D} {v : Value}, s.at h ds v → ds.length = s.size
  | .one, _, _, ⟨_, e, _⟩ => by rw [e]; rfl
  | .agg _, _, _, ⟨e, _⟩ => e
theorem H1.ats_length {h : Hp} : ∀ {ss : List H1} {ds : List D} {vs : List Value}, H1.ats h ss ds vs → ds.length = sizes ss
  | [], _, _, ⟨e, _⟩ => by rw [e]; rfl
  | _ :: _, _, _, ⟨_, _, _, _, e, _, e1, e2⟩ => by rw [e, List.length_append, H1.at_length e1, H1.ats_length e2]; rfl
theorem H.at_length {h : Hp} : ∀ {s : H} {ds : List D} {v : Value}, s.at h ds v → ds.length = s.size
  | .v1 _, _, _, e => H1.at_length e
  | .tup _, _, _, ⟨_, _, e⟩ => H1.ats_length e
theorem sym1_at : ∀ {s : H1} {ds : List D} {v : Value} {n : Nat}, s.at c.H ds v → (∀ i d, ds[i]? = some d → c.env[n + i]? = some d) → (s.sym n).at (S.at c) v
  | .one, _, _, n, ⟨d, e, g⟩, hi => ⟨d, by have := hi 0 d (by rw [e]; rfl); simpa using this, g⟩
  | .agg k, ds, v, n, ⟨e, vs, g, ev⟩, hi => by
    refine ⟨vs, ?_, ev⟩
    have hl := g.length
    refine All2.of_get (by simp; omega) ?_
    intro i s y hs hy
    rw [List.getElem?_map] at hs
    obtain ⟨j, hj, rfl⟩ := Option.map_eq_some_iff.1 hs
    obtain ⟨hjl, hje⟩ := List.getElem?_eq_some_iff.1 hj
    rw [List.getElem_range] at hje
    subst hje
    obtain ⟨d, hd⟩ : ∃ d, ds[i]? = some d := ⟨ds[i]'(by simpa [e] using hjl), List.getElem?_eq_getElem _⟩
    obtain ⟨y', hy', hd'⟩ := g.get hd
    obtain rfl : y' = y := Option.some.inj (hy'.symm.trans hy)
    exact ⟨d, hi i d hd, hd'⟩
theorem syms_at : ∀ {ss : List H1} {ds : List D} {vs : List Value} {n : Nat}, H1.ats c.H ss ds vs → (∀ i d, ds[i]? = some d → c.env[n + i]? = some d) → All2 (V1.at (S.at c)) (syms n ss) vs
  | [], _, _, _, ⟨_, e⟩, _ => by rw [e]; trivial
  | s :: ss, _, _, n, ⟨d1, d2, v, vs', e, ev, g1, g2⟩, hi => by
    subst e
    subst ev
    have hl := H1.at_length g1
    refine ⟨sym1_at g1 fun i d hd => hi i d ?_, syms_at g2 fun i d hd => ?_⟩
    · rw [List.getElem?_append_left (List.getElem?_eq_some_iff.1 hd).1]
      exact hd
    · rw [Nat.add_assoc]
      refine hi (s.size + i) d ?_
      rw [List.getElem?_append_right (by omega), hl, Nat.add_sub_cancel_left]
      exact hd
theorem sym_at {s : H} {ds : List D} {v : Value} {n : Nat} (h : s.at c.H ds v) (hi : ∀ i d, ds[i]? = some d → c.env[n + i]? = some d) : (s.sym n).at (S.at c) v := by
  cases s with
  | v1 s => exact sym1_at h hi
  | tup ss =>
    obtain ⟨vs, e, g⟩ := h
    exact ⟨vs, syms_at g hi, e⟩
theorem vals_app {α β : Type} {f : α → Option β} : ∀ {l m : List α} {r : List β}, vals f (l ++ m) = some r → ∃ r1 r2, r = r1 ++ r2 ∧ vals f l = some r1 ∧ vals f m = some r2
  | [], _, r, h => ⟨[], r, rfl, rfl, h⟩
  | a :: l, m, r, h => by
    have h : (f a).bind (fun v => (vals f (l ++ m)).bind fun vs => some (v :: vs)) = some r := h
    obtain ⟨x, hx, h⟩ := Option.bind_eq_some_iff.1 h
    obtain ⟨y, hy, h⟩ := Option.bind_eq_some_iff.1 h
    obtain ⟨r1, r2, rfl, h1, h2⟩ := vals_app hy
    refine ⟨x :: r1, r2, (Option.some.inj h).symm, ?_, h2⟩
    show (f a).bind _ = _
    rw [hx, Option.bind_some, h1]
    rfl
theorem vals_length {α β : Type} {f : α → Option β} : ∀ {l : List α} {r : List β}, vals f l = some r → r.length = l.length
  | [], r, h => by rw [← Option.some.inj h]; rfl
  | a :: l, r, h => by
    obtain ⟨x, hx, h⟩ := Option.bind_eq_some_iff.1 h
    obtain ⟨y, hy, h⟩ := Option.bind_eq_some_iff.1 h
    rw [← Option.some.inj h, List.length_cons, List.length_cons, vals_length hy]
theorem fits1_at {s : H1} {v : V1 S} {y : Value} {ds : List D} (h : fits1 s v = true) (hv : v.at (S.at c) y) (hd : vals (S.val c.env) v.cells = some ds) : s.at c.H ds y := by
  cases s with
  | one =>
    cases v with
    | one s =>
      obtain ⟨d, hd1, hd⟩ := Option.bind_eq_some_iff.1 hd
      obtain rfl := Option.some.inj hd
      exact ⟨d, rfl, S.val_at hv hd1⟩
    | agg _ => cases h
  | agg n =>
    cases v with
    | one _ => cases h
    | agg ss =>
      obtain ⟨vs, hvs, e⟩ := hv
      have hn : ss.length = n := by simpa [fits1] using h
      exact ⟨(vals_length hd).trans hn, vs, vals_at (R := S.at c) (fun _ _ _ => S.val_at) hvs hd, e⟩
theorem args_at : ∀ {ps : List H1} {xs : List (V S)} {ys : List Value} {ss : List S} {ds : List D}, flatArgs ps xs = some ss → All2 (V.at (S.at c)) xs ys → vals (S.val c.env) ss = some ds → H1.ats c.H ps ds ys
  | [], [], [], ss, ds, h, _, hd => by
    obtain rfl := Option.some.inj h
    obtain rfl := Option.some.inj hd
    exact ⟨rfl, rfl⟩
  | p :: ps, .v1 v :: xs, y :: ys, ss, ds, h, ha, hd => by
    unfold flatArgs at h
    split at h
    · rename_i hf
      obtain ⟨r, hr, rfl⟩ := Option.map_eq_some_iff.1 h
      obtain ⟨d1, d2, rfl, h1, h2⟩ := vals_app hd
      exact ⟨d1, d2, y, ys, rfl, rfl, fits1_at hf ha.1 h1, args_at hr ha.2 h2⟩
    · cases h
  | _ :: _, .tup _ :: _, _, _, _, h, _, _ => by cases h
  | _ :: _, .junk :: _, _, _, _, h, _, _ => by cases h
  | _ :: _, [], _, _, _, h, _, _ => by cases h
  | [], _ :: _, _, _, _, h, _, _ => by cases h
  | [], [], _ :: _, _, _, _, h, _ => h.elim
  | _ :: _, .v1 _ :: _, [], _, _, _, h, _ => h.elim

/-! ### calls -/
variable {G : World → Prop} {K : Cs} {C : Cf} {r : List D}
/-- What follows, in every state that a value may be met in. -/
def VK (P : Program) (C : Cf) (B : Bs) (r : List D) (n : Nat) (L : List T) (c : Cx) (st : St) (a : Act) (k : V S → St → Option T) (N : Value → World → Prop) : Prop :=
  ∀ n' L' v st' t c' y w', n' ≤ n → L <+: L' → k v st' = some t → t.run P C n' L' c'.env = some r → v.at (S.at c') y → M B c' st' a w' → Ext c c' → st'.tmps = st.tmps → N y w'
/-- A call that is run inside is sound. -/
def InlOk (P : Program) (C : Cf) (r : List D) (n : Nat) (L : List T) (lo : Nat) (inl : Inl) : Prop :=
  ∀ (B : Bs) (c : Cx) (st : St) (a : Act) (w : World) f xs (args : List Value) k N n' L' t, n' ≤ n → L <+: L' → B.lo = lo → (∀ w', Below B.w0.heap.size B.w0 w' → G w') → inl f xs st k = some t → t.run P C n' L' c.env = some r → M B c st a w → All2 (V.at (S.at c)) xs args →
    VK P C B r n' L c st a k N → Calls P f args.toArray w fun e w' => ∃ v, e = .returned v ∧ N v w'
theorem goes_run {f : FuncId} (h : goesB P f = true) (args : Array Value) (w : World) : (callFunc f args).run P w = .ok (.enter f args) w := by
  unfold goesB at h
  split at h
  · rename_i fn hf
    rw [Bool.and_eq_true] at h
    exact enters_ hf (by simpa using h.1) h.2 args w
  · cases h
theorem call_sound (hV : Valid P G K C) {n : Nat} {L L' : List T} (hL : L <+: L') {pm : Pm} {inl : Inl} (hi : InlOk (G := G) P C r n L pm.lo inl) (hG : ∀ w', Below B.w0.heap.size B.w0 w' → G w') (hlo : B.lo = pm.lo)
    (m : M B c st a w) {f : FuncId} {cap : List (Nat × Nat)} {xs : List (V S)} {args caps : List Value} {k : V S → St → Option T} {t : T} (h : doCall P K inl f cap xs st k = some t) (hr : t.run P C n L' c.env = some r)
    (ha : All2 (V.at (S.at c)) xs args) (hc : All2 (fun p x => ∃ n, c.ρ[p.1]? = some n ∧ x = Value.pointer (some ⟨n, p.2, none⟩)) cap caps) {N : Value → World → Prop} (hN : VK P C B r n L c st a k N) :
    goesB P f = true ∧ Calls P f (args ++ caps).toArray w fun e w' => ∃ v, e = .returned v ∧ N v w' := by
  unfold doCall at h
  split at h
  · rename_i hg
    refine ⟨hg, ?_⟩
    split at h
    · rename_i ct hct
      obtain ⟨ss, hss, h⟩ := Option.bind_eq_some_iff.1 h
      obtain ⟨t', ht', rfl⟩ := Option.map_eq_some_iff.1 h
      have unf : ∃ ds rs, vals (S.val c.env) ss = some ds ∧ C f ds = some rs ∧ t'.run P C n L' (c.env ++ rs) = some r := by
        cases n <;>
        · unfold T.run T.runB at hr
          obtain ⟨ds, hds, hr⟩ := Option.bind_eq_some_iff.1 hr
          obtain ⟨rs, hrs, hr⟩ := Option.bind_eq_some_iff.1 hr
          split at hr
          · exact ⟨ds, rs, hds, hrs, hr⟩
          · cases hr
      obtain ⟨ds, rs, hds, hrs, hr⟩ := unf
      have hcaps : caps = [] := List.eq_nil_of_length_eq_zero hc.length.symm
      subst hcaps
      rw [List.append_nil]
      refine (hV f ct hct ds rs hrs c.H w args (hG w m.be) (fun b o x e => (m.hp b o x e).1) (args_at hss ha hds)).mono ?_
      rintro e w' ⟨v, h', rfl, hb, hle, hh, hat⟩
      refine ⟨v, rfl, ?_⟩
      have hlen := H.at_length hat
      have m1 := (m.grow hb).more hle (fun b o x e => ⟨(hh b o x e).1, fun hm => by
        rcases (hh b o x e).2 with h1 | h1
        · obtain ⟨i, hi⟩ := List.getElem?_of_mem hm
          have := m.rho_lt hi
          omega
        · exact (m.hp b o x h1).2 hm⟩) (fun b o x e => (hh b o x e).2.imp (fun h1 => Nat.le_trans m.be.size h1) id)
      have m2 := m1.bind rs
      refine hN n L' _ _ t' ⟨c.env ++ rs, c.ρ, h'⟩ v w' (Nat.le_refl _) hL ht' hr ?_ (hlen ▸ m2) ⟨List.prefix_append _ _, List.prefix_refl _, hle⟩ rfl
      refine sym_at (c := ⟨c.env ++ rs, c.ρ, h'⟩) hat ?_
      intro i d hd
      show (c.env ++ rs)[st.nv + i]? = some d
      rw [← m.nv, List.getElem?_append_right (Nat.le_add_right _ _), Nat.add_sub_cancel_left]
      exact hd
    · refine hi B c st a w f _ _ k N n L' t (Nat.le_refl _) hL hlo hG h hr m ?_ hN
      refine ha.app (All2.of_map ?_)
      exact hc.mono fun p x hx => hx
  · cases h
theorem op_sound (hV : Valid P G K C) {n : Nat} {L L' : List T} (hL : L <+: L') {pm : Pm} {inl : Inl} (hi : InlOk (G := G) P C r n L pm.lo inl) (hG : ∀ w', Below B.w0.heap.size B.w0 w' → G w') (hlo : B.lo = pm.lo)
    (m : M B c st a w) {o : Oper} {k : V S → St → Option T} {t : T} (h : doOp P K inl pm o st k = some t) (hr : t.run P C n L' c.env = some r) {next : Act → World → Prop} {Q : Exit → Act → World → Prop}
    (hN : VK P C B r n L c st a k fun y w' => next (a.put o.dst y) w') : o.wp P a w next Q := by
  unfold Oper.wp
  unfold doOp at h
  split at h
  · obtain ⟨v, st', t', c', y, hk, hr', hy, hat, m', hs⟩ := val_sound m h hr
    rw [hy w]
    exact hN n L' v st' t' c' y w (Nat.le_refl _) hL hk hr' hat m' hs.ext hs.tmps
  · obtain ⟨v, hv, h⟩ := Option.bind_eq_some_iff.1 h
    obtain ⟨_, _, _, _, _, _, _, y, hy, hat⟩ := load_sound m hv
    rw [hy w rfl]
    exact hN n L' (.v1 v) st t c y w (Nat.le_refl _) hL h hr hat m (Ext.refl _) rfl
  · obtain ⟨⟨e, ss, mk⟩, hv, h⟩ := Option.bind_eq_some_iff.1 h
    obtain ⟨cs, mkv, hy, hcs, hmk⟩ := makes_sound m hv
    rw [hy w]
    refine hN n L' _ _ t ⟨c.env, c.ρ ++ [w.heap.size], c.H⟩ _ _ (Nat.le_refl _) hL h hr (hmk ⟨c.env, c.ρ ++ [w.heap.size], c.H⟩ _ _ ?_) (m.new hcs) ⟨List.prefix_refl _, List.prefix_append _ _, Hp.le.refl _⟩ rfl
    show (c.ρ ++ [w.heap.size])[st.blocks.length]? = _
    rw [m.bl.length, List.getElem?_append_right (Nat.le_refl _), Nat.sub_self]
    rfl
  · obtain ⟨st', hs, h⟩ := Option.bind_eq_some_iff.1 h
    obtain ⟨_, _, _, _, _, w', _, _, _, hrun, m', htm, _⟩ := store_sound m hlo hs
    rw [hrun]
    exact hN n L' (.tup []) st' t c undef w' (Nat.le_refl _) hL h hr undef_at m' (Ext.refl _) htm
  · split at h
    · rename_i x args ts hop
      obtain ⟨v, hv, h⟩ := Option.bind_eq_some_iff.1 h
      obtain ⟨xs, hxs, h⟩ := Option.bind_eq_some_iff.1 h
      split at h
      · rename_i f cap _
        obtain ⟨caps, hcaps, ev⟩ := m.get1 hv
        obtain ⟨hg, hcall⟩ := call_sound hV hL hi hG hlo m h hr (gets_at m hxs) hcaps hN
        have hrun : (execOp a.eval o).run P w = .ok (.enter f (args.toList.map a.eval ++ caps).toArray) w := by
          have e1 : (args.map a.eval) ++ caps.toArray = (args.toList.map a.eval ++ caps).toArray := Array.ext' (by simp)
          unfold execOp
          rw [hop]
          dsimp only [resolve]
          rw [ev]
          show (callFunc f (#[] ++ args.map a.eval ++ caps.toArray)).run P w = _
          rw [Array.empty_append, e1]
          exact goes_run hg _ w
        rw [hrun, Oper.upon_enter]
        refine hcall.mono fun e w' ⟨y, he, hy⟩ => ?_
        rw [he]
        exact hy
      · cases h
    · cases h

/-! ### regions in the text's order -/
/-- What follows, in every state that code may be left in. -/
def SK (P : Program) (C : Cf) (B : Bs) (r : List D) (n : Nat) (L : List T) (c : Cx) (k : St → Option T) (N : Act → World → Prop) : Prop :=
  ∀ n' L' st' t c' a' w', n' ≤ n → L <+: L' → k st' = some t → t.run P C n' L' c'.env = some r → M B c' st' a' w' → Ext c c' → N a' w'
theorem InlOk.mono {n n' : Nat} {L : List T} {lo : Nat} {inl : Inl} (h : InlOk (G := G) P C r n L lo inl) (hn : n' ≤ n) : InlOk (G := G) P C r n' L lo inl :=
  fun B c st a w f xs args k N n2 L2 t h1 h2 => h B c st a w f xs args k N n2 L2 t (Nat.le_trans h1 hn) h2
theorem SK.mono {n n' : Nat} {L : List T} {c' : Cx} {k : St → Option T} {N : Act → World → Prop} (h : SK P C B r n L c k N) (hn : n' ≤ n) (he : Ext c c') : SK P C B r n' L c' k N :=
  fun n2 L2 st' t c2 a' w' h1 h2 h3 h4 h5 h6 => h n2 L2 st' t c2 a' w' (Nat.le_trans h1 hn) h2 h3 h4 h5 (he.trans h6)
theorem ops_sound (hV : Valid P G K C) {pm : Pm} {inl : Inl} (hG : ∀ w', Below B.w0.heap.size B.w0 w' → G w') (hlo : B.lo = pm.lo) {ops : Array Oper} {k : St → Option T} {Q : Exit → Act → World → Prop} {L : List T} :
    ∀ (l : List Nat) {n : Nat} {L' : List T} {c : Cx} {st : St} {a : Act} {w : World} {t : T}, L <+: L' → InlOk (G := G) P C r n L pm.lo inl → M B c st a w → doOps P K inl pm ops l st k = some t → t.run P C n L' c.env = some r →
      SK P C B r n L c k (Q .normal) → wpOps P ops Q l a w
  | [], n, L', c, st, a, w, t, hL, _, m, h, hr, hN => hN n L' st t c a w (Nat.le_refl _) hL h hr m (Ext.refl _)
  | i :: l, n, L', c, st, a, w, t, hL, hi, m, h, hr, hN => by
    unfold doOps at h
    unfold wpOps
    split at h
    · rename_i ho
      rw [ho]
      exact ops_sound hV hG hlo l hL hi m h hr hN
    · rename_i o ho
      rw [ho]
      dsimp only
      obtain ⟨b, st1, t1, hw, h, hr, m, hs⟩ := guard_sound m h hr
      rw [hw]
      cases b with
      | true =>
        rw [if_pos rfl]
        refine .inl (op_sound hV hL hi hG hlo m h hr ?_)
        intro n' L2 v st' t' c' y w' h1 h2 h3 h4 h5 h6 h7 _
        exact ops_sound hV hG hlo l h2 (hi.mono h1) (h6.put h5 o.dst) h3 h4 (hN.mono h1 h7)
      | false =>
        rw [if_neg (by simp)]
        exact ops_sound hV hG hlo l hL hi (m.put undef_at o.dst) h hr hN
end
end Go.Proofs.YtliabkapejhohaaGreatDoor.Sx
