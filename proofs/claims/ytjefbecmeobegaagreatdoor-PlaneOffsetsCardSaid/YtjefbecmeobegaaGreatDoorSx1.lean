/- MERGED by merge.py: SxA SxB SxC SxD SxE SxM SxO -/
import Derived.WalkKit
import Derived.Calls
import Derived.OrdersHeld
import Derived.Test.YtjefbecmeobegaaGreatDoorXWords
import Derived.Laws.Sem
import Derived.Below
import Derived.Maps.AppendAt
import Derived.Laws.MakeOwn
import Derived.Laws.BytesString
namespace Go.Proofs.YtjefbecmeobegaaGreatDoor.Sx
open Go
def quiet {α:Type} (P:Program):Sem α->Option α
 | .pure a=>some a
 | .program k=>quiet P (k P)
 | _=>none
theorem aBl {α:Type} {P:Program} (s:Sem α):∀ {a:α} (w:World),quiet P s=some a->s.run P w=.ok a w:=by
 induction s with
 | pure b =>
  intro a w h
  obtain rfl:=Option.some.inj h
  rfl
 | program k ih =>
  intro a w h
  show (k P).run P w=.ok a w
  exact ih P w h
 | _=>intro a w h;cases h
theorem aG5 {α β:Type} {P:Program} (s:Sem α) (f:α->Sem β):∀ {a:α},quiet P s=some a->quiet P (s.bind f)=quiet P (f a):=by
 induction s with
 | pure b =>
  intro a h
  obtain rfl:=Option.some.inj h
  rfl
 | program k ih =>
  intro a h
  show quiet P ((k P).bind f)=_
  exact ih P h
 | _=>intro a h;cases h
theorem aAa {α β:Type} {P:Program} {s:Sem α} {f:α->Sem β} {a:α} {b:β} (h:quiet P s=some a) (g:quiet P (f a)=some b):quiet P (s >>= f)=some b:=by
 show quiet P (s.bind f)=some b
 rw [aG5 s f h,g]
theorem aAY {P:Program} {s:Sem Value} {v:Value} (w:World) (h:quiet P s=some v):(do Pure.pure (Next.value (<- s)):Sem Next).run P w=.ok (.value v) w:=
 aBl _ w (aAa h rfl)
theorem run_bind_ok {α β:Type} {P:Program} {s:Sem α} {f:α->Sem β} {w w':World} {a:α} (h:s.run P w=.ok a w'):(s.bind f).run P w=(f a).run P w':=by
 have:=Sem.run_bind' P s f w
 rw [h] at this
 exact this
def All2 {α β:Type} (R:α->β->Prop):List α->List β->Prop
 | [],[]=>True
 | a::l,b::m=>R a b/\All2 R l m
 | _,_=>False
namespace All2
variable {α β:Type} {R R':α->β->Prop}
theorem length:∀ {l:List α} {m:List β},All2 R l m->l.length=m.length
 | [],[],_=>rfl
 | _::_,_::_,h=>by rw [List.length_cons,List.length_cons,length h.2]
 | [],_::_,h=>h.elim
 | _::_,[],h=>h.elim
theorem mono (hR:∀ a b,R a b->R' a b):∀ {l:List α} {m:List β},All2 R l m->All2 R' l m
 | [],[],_=>trivial
 | _::_,_::_,h=>⟨hR _ _ h.1,mono hR h.2⟩
 | [],_::_,h=>h.elim
 | _::_,[],h=>h.elim
theorem get:∀ {l:List α} {m:List β} {i:Nat} {a:α},All2 R l m->l[i]?=some a->∃ b,m[i]?=some b/\R a b
 | x::_,y::_,0,a,h,e=>⟨y,rfl,by rw [<- (show x=a by simpa using e)];exact h.1⟩
 | _::l,_::m,i+1,a,h,e=>by
  obtain ⟨b,hb,hr⟩:=get (i:=i) h.2 (by simpa using e)
  exact ⟨b,by simpa using hb,hr⟩
 | [],[],_,_,_,e=>by simp at e
 | [],_::_,_,_,h,_=>h.elim
 | _::_,[],_,_,h,_=>h.elim
theorem app:∀ {l l':List α} {m m':List β},All2 R l m->All2 R l' m'->All2 R (l++l') (m++m')
 | [],_,[],_,_,h=>h
 | _::_,_,_::_,_,h,h'=>⟨h.1,app h.2 h'⟩
 | [],_,_::_,_,h,_=>h.elim
 | _::_,_,[],_,h,_=>h.elim
theorem set:∀ {l:List α} {m:List β} {a:α} {b:β} (i:Nat),All2 R l m->R a b->All2 R (l.set i a) (m.set i b)
 | [],[],_,_,_,_,_=>trivial
 | _::_,_::_,_,_,0,h,r=>⟨r,h.2⟩
 | _::_,_::_,_,_,i+1,h,r=>⟨h.1,set i h.2 r⟩
 | [],_::_,_,_,_,h,_=>h.elim
 | _::_,[],_,_,_,h,_=>h.elim
theorem drop:∀ {l:List α} {m:List β} (i:Nat),All2 R l m->All2 R (l.drop i) (m.drop i)
 | _,_,0,h=>h
 | [],[],_+1,h=>h
 | _::_,_::_,i+1,h=>drop i h.2
 | [],_::_,_,h=>h.elim
 | _::_,[],_,h=>h.elim
theorem take:∀ {l:List α} {m:List β} (i:Nat),All2 R l m->All2 R (l.take i) (m.take i)
 | _,_,0,_=>trivial
 | [],[],_+1,h=>h
 | _::_,_::_,i+1,h=>⟨h.1,take i h.2⟩
 | [],_::_,_,h=>h.elim
 | _::_,[],_,h=>h.elim
theorem split:∀ {l:List α} {m:List β} {l':List α},All2 R (l++l') m->∃ m1 m2,m=m1++m2/\All2 R l m1/\All2 R l' m2
 | [],m,_,h=>⟨[],m,rfl,trivial,h⟩
 | _::_,b::m,_,h=>by
  obtain ⟨m1,m2,rfl,h1,h2⟩:=split h.2
  exact ⟨b::m1,m2,rfl,⟨h.1,h1⟩,h2⟩
 | _::_,[],_,h=>h.elim
theorem of_map {γ:Type} {f:γ->α}:∀ {l:List γ} {m:List β},All2 (λ c b=>R (f c) b) l m->All2 R (l.map f) m
 | [],[],_=>trivial
 | _::_,_::_,h=>⟨h.1,of_map h.2⟩
 | [],_::_,h=>h.elim
 | _::_,[],h=>h.elim
end All2
theorem aAn {α:Type} {l m:List α} {i:Nat} {a:α} (h:l <+: m) (e:l[i]?=some a):m[i]?=some a:=by
 obtain ⟨t,rfl⟩:=h
 rw [List.getElem?_append_left (List.getElem?_eq_some_iff.1 e).1]
 exact e
def aAS:Value->Bool
 | .agg _ | .tuple _=>false
 | _=>true
theorem aI8 {v:Value} (h:aAS v=true):v.cells=#[v]:=by
 cases v<;>first | rfl | cases h
inductive D where
 | v (x:Value)
 | l (n:Nat) (ds:List D)
 deriving Inhabited
abbrev Hp:=Nat->Nat->Option Value
mutual
def D.at (H:Hp):D->Value->Prop
 | .v x,y=>y=x/\aAS x=true
 | .l n ds,y=>∃ a c,y=.slice a n c/\n<=c/\(ds=[]\/∃ b o,a=some ⟨b,o,none⟩/\D.ats H b o ds)
def D.ats (H:Hp) (b o:Nat):List D->Prop
 | []=>True
 | d::ds=>(∃ x,H b o=some x/\D.at H d x)/\D.ats H b (o+1) ds
end
def Hp.le (H H':Hp):Prop:=∀ b o x,H b o=some x->H' b o=some x
theorem Hp.le.refl (H:Hp):Hp.le H H:=λ _ _ _ h=>h
theorem Hp.le.trans {A B C:Hp} (h:Hp.le A B) (g:Hp.le B C):Hp.le A C:=λ b o x e=>g b o x (h b o x e)
mutual
theorem D.at_mono {H H':Hp} (h:Hp.le H H'):∀ (d:D) (y:Value),D.at H d y->D.at H' d y
 | .v _,_,e=>e
 | .l n ds,y,e=>by
  unfold D.at at e ⊢
  obtain ⟨a,c,e1,e0,e2⟩:=e
  refine ⟨a,c,e1,e0,?_⟩
  rcases e2 with e2 | ⟨b,o,e2,e3⟩
  ·exact .inl e2
  ·exact .inr ⟨b,o,e2,D.ats_mono h ds b o e3⟩
theorem D.ats_mono {H H':Hp} (h:Hp.le H H'):∀ (ds:List D) (b o:Nat),D.ats H b o ds->D.ats H' b o ds
 | [],_,_,_=>by unfold D.ats;trivial
 | d::ds,b,o,e=>by
  unfold D.ats at e ⊢
  obtain ⟨⟨x,e1,e2⟩,e3⟩:=e
  exact ⟨⟨x,h _ _ _ e1,D.at_mono h d x e2⟩,D.ats_mono h ds b (o+1) e3⟩
end
theorem D.at_cell {H:Hp}:∀ {d:D} {y:Value},D.at H d y->aAS y=true
 | .v _,_,e=>by
  unfold D.at at e
  rw [e.1]
  exact e.2
 | .l _ _,_,e=>by
  unfold D.at at e
  obtain ⟨a,c,e1,_⟩:=e
  rw [e1]
  rfl
theorem D.at_v {H:Hp} {x y:Value}:D.at H (.v x) y ↔ y=x/\aAS x=true:=by unfold D.at;exact Iff.rfl
inductive S where
 | var (i:Nat)
 | const (v:Value)
 | ptr (b o:Nat)
 | slice (b o len cap:Nat)
 | func (f:FuncId) (cap:List (Nat × Nat))
 | dyn (k:Nat)
 | eptr (k j s o:Nat)
 | vptr (i j s o:Nat)
 | win (k s i j:Nat)
 deriving Inhabited
inductive V1 (α:Type) where
 | one (s:α)
 | agg (ss:List α)
 deriving Inhabited
inductive V (α:Type) where
 | v1 (v:V1 α)
 | tup (vs:List (V1 α))
 | junk
 deriving Inhabited
structure Cx where
 env:List D
 ρ:List Nat
 H:Hp
 δ:List Value
def S.at (c:Cx):S->Value->Prop
 | .var i,v=>∃ d,c.env[i]?=some d/\D.at c.H d v
 | .const x,v=>v=x/\aAS v=true
 | .ptr b o,v=>∃ n,c.ρ[b]?=some n/\v=.pointer (some ⟨n,o,none⟩)
 | .slice b o l k,v=>∃ n,c.ρ[b]?=some n/\v=.slice (some ⟨n,o,none⟩) l k
 | .func f cap,v=>∃ vs:List Value,All2 (λ p x=>∃ n,c.ρ[p.1]?=some n/\x=Value.pointer (some ⟨n,p.2,none⟩)) cap vs/\v=.func (.func f) #[] vs.toArray
 | .dyn k,v=>c.δ[k]?=some v/\∃ a n m,v=.slice a n m
 | .eptr k j s o,v=>∃ b n m i q,c.δ[k]?=some (.slice (some ⟨b,0,none⟩) n m)/\c.env[j]?=some (.v (.int q (Int.ofNat i)))/\i < n/\v=.pointer (some ⟨b,i*s+o,none⟩)
 | .vptr i j s o,v=>∃ n ds b e x q,c.env[i]?=some (.l n ds)/\D.ats c.H b e ds/\c.env[j]?=some (.v (.int q (Int.ofNat x)))/\x < n/\v=.pointer (some ⟨b,e+(x*s+o),none⟩)
 | .win k s i j,v=>∃ b n m q lo len ad cap,c.δ[k]?=some (.slice (some ⟨b,0,none⟩) n m)/\c.env[i]?=some (.v (.int q (Int.ofNat lo)))/\c.env[j]?=some (.v (.int .i64 (Int.ofNat len)))/\lo+len<=n/\(len=0\/ad=⟨b,lo*s,none⟩)/\v=.slice (some ad) len cap
def V1.at {α:Type} (R:α->Value->Prop):V1 α->Value->Prop
 | .one s,v=>R s v
 | .agg ss,v=>∃ vs:List Value,All2 R ss vs/\v=.agg vs.toArray
def V.at {α:Type} (R:α->Value->Prop):V α->Value->Prop
 | .v1 x,v=>x.at R v
 | .tup xs,v=>∃ vs:List Value,All2 (V1.at R) xs vs/\v=.tuple vs.toArray
 | .junk,_=>True
structure Ext (c c':Cx):Prop where
 env:c.env <+: c'.env
 ρ:c.ρ <+: c'.ρ
 H:Hp.le c.H c'.H
 δ:c.δ <+: c'.δ
theorem Ext.refl (c:Cx):Ext c c:=⟨List.prefix_refl _,List.prefix_refl _,Hp.le.refl _,List.prefix_refl _⟩
theorem Ext.trans {a b c:Cx} (h:Ext a b) (g:Ext b c):Ext a c:=⟨h.env.trans g.env,h.ρ.trans g.ρ,h.H.trans g.H,h.δ.trans g.δ⟩
theorem S.at_mono {c c':Cx} (h:Ext c c'):∀ (s:S) (v:Value),s.at c v->s.at c' v
 | .var _,_,⟨d,e,g⟩=>⟨d,aAn h.env e,D.at_mono h.H _ _ g⟩
 | .const _,_,e=>e
 | .ptr _ _,_,⟨n,g,e⟩=>⟨n,aAn h.ρ g,e⟩
 | .slice _ _ _ _,_,⟨n,g,e⟩=>⟨n,aAn h.ρ g,e⟩
 | .func _ _,_,⟨vs,g,e⟩=>⟨vs,g.mono λ _ _ ⟨n,g,e⟩=>⟨n,aAn h.ρ g,e⟩,e⟩
 | .dyn _,_,⟨g,e⟩=>⟨aAn h.δ g,e⟩
 | .eptr _ _ _ _,_,⟨b,n,m,i,q,g1,g2,e⟩=>⟨b,n,m,i,q,aAn h.δ g1,aAn h.env g2,e⟩
 | .vptr _ _ _ _,_,⟨n,ds,b,e,x,q,g1,g2,g3,e2⟩=>⟨n,ds,b,e,x,q,aAn h.env g1,D.ats_mono h.H _ _ _ g2,aAn h.env g3,e2⟩
 | .win _ _ _ _,_,⟨b,n,m,q,lo,len,ad,cap,g1,g2,g3,e⟩=>⟨b,n,m,q,lo,len,ad,cap,aAn h.δ g1,aAn h.env g2,aAn h.env g3,e⟩
theorem V1.at_mono {α:Type} {R R':α->Value->Prop} (h:∀ a b,R a b->R' a b):∀ (s:V1 α) (v:Value),s.at R v->s.at R' v
 | .one s,v,e=>h s v e
 | .agg _,_,⟨vs,g,e⟩=>⟨vs,g.mono h,e⟩
theorem V.at_mono {α:Type} {R R':α->Value->Prop} (h:∀ a b,R a b->R' a b):∀ (s:V α) (v:Value),s.at R v->s.at R' v
 | .v1 s,v,e=>V1.at_mono h s v e
 | .tup _,_,⟨vs,g,e⟩=>⟨vs,g.mono (V1.at_mono h),e⟩
 | .junk,_,_=>trivial
theorem S.at_cell {c:Cx}:∀ {s:S} {v:Value},s.at c v->aAS v=true
 | .var _,_,⟨_,_,g⟩=>D.at_cell g
 | .const _,_,h=>h.2
 | .ptr _ _,_,⟨_,_,e⟩=>by rw [e];rfl
 | .slice _ _ _ _,_,⟨_,_,e⟩=>by rw [e];rfl
 | .func _ _,_,⟨_,_,e⟩=>by rw [e];rfl
 | .dyn _,_,⟨_,_,_,_,e⟩=>by rw [e];rfl
 | .eptr _ _ _ _,_,⟨_,_,_,_,_,_,_,_,e⟩=>by rw [e];rfl
 | .vptr _ _ _ _,_,⟨_,_,_,_,_,_,_,_,_,_,e⟩=>by rw [e];rfl
 | .win _ _ _ _,_,⟨_,_,_,_,_,_,_,_,_,_,_,_,_,e⟩=>by rw [e];rfl
def V1.cells {α:Type}:V1 α->List α
 | .one s=>[s]
 | .agg ss=>ss
theorem V1.at_cells {c:Cx}:∀ {x:V1 S} {v:Value},x.at (S.at c) v->All2 (S.at c) x.cells v.cells.toList
 | .one s,v,h=>by
  rw [aI8 (S.at_cell h)]
  exact ⟨h,trivial⟩
 | .agg ss,v,⟨vs,h,e⟩=>by
  subst e
  exact h
theorem S.cells_cell {c:Cx}:∀ {l:List S} {vs:List Value},All2 (S.at c) l vs->∀ v ∈ vs,aAS v=true
 | _::_,x::vs,h,v,hv=>by
  rcases List.mem_cons.1 hv with rfl | hv
  ·exact S.at_cell h.1
  ·exact S.cells_cell h.2 v hv
 | _,[],_,v,hv=>by cases hv
 | [],_::_,h,_,_=>h.elim
def aAl {α β:Type} (f:α->Option β):List α->Option (List β)
 | []=>some []
 | a::l=>(f a).bind λ v=>(aAl f l).bind λ vs=>some (v::vs)
def S.val (env:List D):S->Option D
 | .var i=>env[i]?
 | .const v=>some (.v v)
 | _=>none
def V1.val {α β:Type} (f:α->Option β):V1 α->Option (V1 β)
 | .one s=>(f s).bind λ d=>some (.one d)
 | .agg ss=>(aAl f ss).bind λ ds=>some (.agg ds)
theorem S.val_at {c:Cx}:∀ {s:S} {v:Value} {d:D},s.at c v->s.val c.env=some d->D.at c.H d v
 | .var _,_,_,⟨d,h,g⟩,e=>by rw [<- Option.some.inj (h.symm.trans e)];exact g
 | .const _,_,_,h,e=>by rw [<- Option.some.inj e];exact D.at_v.2 ⟨h.1,h.1 ▸ h.2⟩
 | .ptr _ _,_,_,_,e=>by cases e
 | .slice _ _ _ _,_,_,_,e=>by cases e
 | .func _ _,_,_,_,e=>by cases e
 | .dyn _,_,_,_,e=>by cases e
 | .eptr _ _ _ _,_,_,_,e=>by cases e
 | .vptr _ _ _ _,_,_,_,e=>by cases e
 | .win _ _ _ _,_,_,_,e=>by cases e
theorem aEh {α β γ:Type} {f:α->Option β} {R:α->γ->Prop} {Q:β->γ->Prop} (hf:∀ a v d,R a v->f a=some d->Q d v):∀ {l:List α} {m:List γ} {ds:List β},All2 R l m->aAl f l=some ds->All2 Q ds m
 | [],[],ds,_,e=>by rw [<- Option.some.inj e];trivial
 | a::l,v::m,xs,h,e=>by
  unfold aAl at e
  obtain ⟨x,hx,e⟩:=Option.bind_eq_some_iff.1 e
  obtain ⟨ys,hy,e⟩:=Option.bind_eq_some_iff.1 e
  rw [<- Option.some.inj e]
  exact ⟨hf a v x h.1 hx,aEh hf h.2 hy⟩
 | [],_::_,_,h,_=>h.elim
 | _::_,[],_,h,_=>h.elim
theorem V1.val_at {c:Cx}:∀ {x:V1 S} {v:Value} {y:V1 D},x.at (S.at c) v->x.val (S.val c.env)=some y->y.at (D.at c.H) v
 | .one s,v,y,h,e=>by
  obtain ⟨d,hd,e⟩:=Option.bind_eq_some_iff.1 e
  rw [<- Option.some.inj e]
  exact S.val_at h hd
 | .agg ss,v,y,⟨vs,h,ev⟩,e=>by
  obtain ⟨ds,hd,e⟩:=Option.bind_eq_some_iff.1 e
  rw [<- Option.some.inj e]
  exact ⟨vs,aEh (R:=S.at c) (λ _ _ _=>S.val_at) h hd,ev⟩
end Go.Proofs.YtjefbecmeobegaaGreatDoor.Sx
namespace Go.Proofs.YtjefbecmeobegaaGreatDoor.Sx
open Go YtjefbecmeobegaaGreatDoorW.PrintLast
inductive Pu where
 | bin (op:BinOp) (t:TypeId) (k:Bool)
 | un (op:UnOp)
 | conv (src dst:TypeId)
 | idx (t:TypeId)
 | slc (t:TypeId) (lo hi:Bool)
 | blt (b:Builtin) (t:TypeId)
 | llen
 | lnil
 | lnew (m s b:Nat)
 | lmake (z:Value) (b:Nat)
 | lstr
 | lbstr
 | lchk
 | lidx (s o:Nat)
 | lset (s o:Nat)
 | lapp (m s b:Nat)
 | lcut (s:Nat) (lo hi:Bool)
 | lwlo
 | lwlen
 | lwix
 deriving Inhabited
def aB6 (k:Bool):Operand:=if k then .const .nilIface else .tmp 0
def Pu.sem:Pu->List Value->Sem Value
 | .bin op t k,[a,b]=>do eqGuard op t (aB6 k) (aB6 k) a b;binOp op t a b
 | .un op,[a]=>Op.unary op a
 | .conv src dst,[a]=>convert src dst a
 | .idx t,[a,i]=>Instr.index t a i
 | .slc t true true,[a,i,j]=>Instr.sliceAt t a (some i) (some j) none
 | .slc t true false,[a,i]=>Instr.sliceAt t a (some i) none none
 | .slc t false true,[a,j]=>Instr.sliceAt t a none (some j) none
 | .slc t false false,[a]=>Instr.sliceAt t a none none none
 | .blt .len t,[a]=>Builtin.len_ #[t] t #[a]
 | .blt .min t,[a,b]=>Builtin.min_ #[t,t] t #[a,b]
 | .blt .max t,[a,b]=>Builtin.max_ #[t,t] t #[a,b]
 | _, _ => stuck ""
def D.value:D->Option Value
 | .v x=>some x
 | .l _ _=>none
def V1.value:V1 D->Option Value
 | .one d=>d.value
 | .agg ds=>(aAl D.value ds).bind λ vs=>some (.agg vs.toArray)
def Pu.plain (P:Program) (p:Pu) (xs:List (V1 D)):Option D:=
 (aAl V1.value xs).bind λ vs=>(quiet P (p.sem vs)).bind λ v=>if aAS v then some (.v v) else none
def Pu.isL:Pu->Bool
 | .llen | .lnil | .lnew .. | .lmake .. | .lstr | .lbstr | .lchk | .lidx .. | .lset .. | .lapp .. | .lcut .. | .lwlo | .lwlen | .lwix=>true
 | _=>false
def aD8:D->Option Int
 | .v (.int .u8 n)=>some n
 | _=>none
def strOf (ns:List Int):ByteArray:=ns.foldl (λ r n=>r.push (UInt8.ofNat n.toNat)) ByteArray.empty
def putAt {α:Type} (cells:List α) (o:Nat):List α->List α
 | []=>cells
 | s::l=>putAt (cells.set o s) (o+1) l
def aCh (n b:Nat):Bool:=n*b<=140737488355328 && n<=140737488355328
def aFD (s n:Nat) (ds:List D) (l h:Int):Option D:=if 0<=l/\l<=h/\h<=n/\ds.length=n*s then some (.l (h - l).toNat ((ds.drop (l.toNat*s)).take ((h - l).toNat*s))) else none
def Pu.lrun:Pu->List (V1 D)->Option D
 | .llen,[.one (.l n _)]=>some (.v (.int .i64 n))
 | .lnil,[]=>some (.l 0 [])
 | .lnew m s b,[.agg es]=>if es.length=m*s/\aCh m b=true then some (.l m es) else none
 | .lmake z b,[.one (.v (.int _ l)),.one (.v (.int _ c))]=>if 0<=l/\l<=c/\aCh c.toNat b=true then some (.l l.toNat (List.replicate l.toNat (.v z))) else none
 | .lstr,[.one (.l n ds)]=>if ds.length=n then (aAl aD8 ds).map λ ns=>.v (.string (strOf ns)) else none
 | .lbstr,[.agg ds]=>(aAl aD8 ds).map λ ns=>.v (.string (strOf ns))
 | .lchk,[.one (.l n (_::_)),.one (.v (.int k i))]=>if 0<=i/\i < n then some (.v (.int k i)) else none
 | .lidx s o,[.one (.l _ ds),.one (.v (.int _ i))]=>ds[i.toNat*s+o]?
 | .lset s o,[.one (.l n ds),.one (.v (.int _ i)),x]=>if i.toNat*s+o+x.cells.length<=ds.length then some (.l n (putAt ds (i.toNat*s+o) x.cells)) else none
 | .lapp m s b,[.one (.l n ds),.agg es]=>if es.length=m*s/\aCh (n+m) b=true then some (.l (n+m) (ds++es)) else none
 | .lcut s true true,[.one (.l n ds),.one (.v (.int _ l)),.one (.v (.int _ h))]=>aFD s n ds l h
 | .lcut s true false,[.one (.l n ds),.one (.v (.int _ l))]=>aFD s n ds l n
 | .lcut s false true,[.one (.l n ds),.one (.v (.int _ h))]=>aFD s n ds 0 h
 | .lwlo,[.one (.l n (_::_)),.one (.v (.int _ l)),.one (.v (.int _ h))]=>if 0<=l/\l<=h/\h<=n then some (.v (.int .i64 l)) else none
 | .lwlen,[.one (.l n (_::_)),.one (.v (.int _ l)),.one (.v (.int _ h))]=>if 0<=l/\l<=h/\h<=n then some (.v (.int .i64 (h - l))) else none
 | .lwix,[.one (.v (.int _ l)),.one (.v (.int _ n)),.one (.v (.int _ i))]=>if 0<=l/\0<=i/\i < n then some (.v (.int .i64 (l+i))) else none
 | _,_=>none
def Pu.run (P:Program) (p:Pu) (xs:List (V1 D)):Option D:=
 match p.isL with
 | true=>p.lrun xs
 | false=>p.plain P xs
inductive H1 where
 | one
 | agg (n:Nat)
 deriving Inhabited
inductive H where
 | v1 (h:H1)
 | tup (hs:List H1)
 deriving Inhabited
def H1.sym (n:Nat):H1->V1 S
 | .one=>.one (.var n)
 | .agg m=>.agg ((List.range m).map λ i=>.var (n+i))
def H1.size:H1->Nat
 | .one=>1
 | .agg m=>m
def aHs:Nat->List H1->List (V1 S)
 | _,[]=>[]
 | n,h::l=>h.sym n::aHs (n+h.size) l
def H.sym (n:Nat):H->V S
 | .v1 h=>.v1 (h.sym n)
 | .tup hs=>.tup (aHs n hs)
def aD9:List H1->Nat
 | []=>0
 | h::l=>h.size+aD9 l
def H.size:H->Nat
 | .v1 h=>h.size
 | .tup hs=>aD9 hs
def fits1:H1->V1 S->Bool
 | .one,.one _=>true
 | .agg n,.agg ss=>ss.length == n
 | _,_=>false
def aKZ:List H1->List (V1 S)->Bool
 | [],[]=>true
 | h::hs,v::vs=>fits1 h v && aKZ hs vs
 | _,_=>false
def fits:H->V S->Bool
 | .v1 h,.v1 v=>fits1 h v
 | .tup hs,.tup vs=>aKZ hs vs
 | _,_=>false
def aOc:List (V1 S)->List S
 | []=>[]
 | v::l=>v.cells++aOc l
def flat:V S->List S
 | .v1 v=>v.cells
 | .tup vs=>aOc vs
 | .junk=>[]
structure Ct where
 ps:List H1
 h:H
 deriving Inhabited
inductive T where
 | ret (ss:List S)
 | pure (p:Pu) (xs:List (V1 S)) (k:T)
 | call (f:FuncId) (ss:List S) (n:Nat) (k:T)
 | ite (i:Nat) (t e:T)
 | isk (i:Nat) (j:Int) (t e:T)
 | fail
 | loop (d:Nat) (init:List S) (body:T)
 | again (d n:Nat) (ss:List S)
 deriving Inhabited
def T.runB (P:Program) (C:FuncId->List D->Option (List D)) (R:List T->T->List D->Option (List D)):List T->T->List D->Option (List D)
 | _,.ret ss,env=>aAl (S.val env) ss
 | L,.pure p xs k,env=>(aAl (V1.val (S.val env)) xs).bind λ vs=>(p.run P vs).bind λ d=>k.runB P C R L (env++[d])
 | L,.call f ss n k,env=>(aAl (S.val env) ss).bind λ ds=>(C f ds).bind λ rs=>if rs.length=n then k.runB P C R L (env++rs) else none
 | L,.ite i t e,env=>match env[i]? with
  | some (.v (.bool true))=>t.runB P C R L env
  | some (.v (.bool false))=>e.runB P C R L env
  | _=>none
 | L,.isk i j t e,env=>match env[i]? with
  | some (.v (.int _ n))=>if n=j then t.runB P C R L env else e.runB P C R L env
  | _=>none
 | _,.fail,_=>none
 | L,.loop d init body,env=>(aAl (S.val env) init).bind λ vs=>body.runB P C R (L.take d++[body]) (env++vs)
 | L,.again d n ss,env=>(aAl (S.val env) ss).bind λ vs=>match L[d]? with
  | some b=>R (L.take (d+1)) b (env.take n++vs)
  | none=>none
def T.run (P:Program) (C:FuncId->List D->Option (List D)):Nat->List T->T->List D->Option (List D)
 | 0=>T.runB P C λ _ _ _=>none
 | n+1=>T.runB P C (T.run P C n)
structure Blk where
 cells:List S
 elem:TypeId
 deriving Inhabited
structure Dyn where
 h:Nat
 cv:Nat
 s:Nat
 e:TypeId
 live:Bool
 deriving Inhabited
structure St where
 tmps:List (V S)
 blocks:List Blk
 known:List (Nat × Bool)
 ints:List (Nat × Int)
 nv:Nat
 dyns:List Dyn
 nd:Nat
 deriving Inhabited
structure Pm where
 dep:Nat
 lo:Nat
 dlo:Nat
def ofValue:Value->Option (V S)
 | .agg cs=>if cs.toList.all aAS then some (.v1 (.agg (cs.toList.map .const))) else none
 | .tuple vs=>if vs.toList.all aAS then some (.tup (vs.toList.map λ v=>.one (.const v))) else none
 | v=>some (.v1 (.one (.const v)))
def St.get (st:St):Operand->Option (V S)
 | .tmp t=>st.tmps[t]?
 | .const v=>ofValue v
 | .func f=>some (.v1 (.one (.func f [])))
 | .global _=>none
def V.v1?:V S->Option (V1 S)
 | .v1 x=>some x
 | _=>none
def St.get1 (st:St) (x:Operand):Option (V1 S):=(st.get x).bind V.v1?
def St.put (st:St) (d:Option Tmp) (v:V S):St:=
 match d with
 | some d=>{ st with tmps:=st.tmps.set d v }
 | none=>st
def St.new (st:St) (cells:List S) (elem:TypeId):St:={ st with blocks:=st.blocks++[⟨cells,elem⟩] }
def St.int? (st:St):V1 S->Option Int
 | .one (.const (.int _ n))=>some n
 | .one (.var i)=>st.ints.lookup i
 | _=>none
def partOf (P:Program) (t:TypeId) (cells:List S) (o:Nat):Option (V1 S):=
 match quiet P (isAgg t),quiet P (sizeOf t) with
 | some true,some n=>if o+n<=cells.length then some (.agg ((cells.drop o).take n)) else none
 | some false,_=>(cells[o]?).map .one
 | _,_=>none
def laid (place:Nat->Option (Nat × Nat)) (cells:List S):List (Nat × V1 S)->Option (List S)
 | []=>some cells
 | (i,v)::l =>
  match place i with
  | none=>none
  | some (off,size)=>if v.cells.length≠size\/off+v.cells.length > cells.length then none else laid place (putAt cells off v.cells) l
def partsOf (st:St):List (Nat × Operand)->Option (List (Nat × V1 S))
 | []=>some []
 | (i,x)::l=>(st.get1 x).bind λ v=>(partsOf st l).bind λ r=>some ((i,v)::r)
def placesOf (P:Program) (t:TypeId):Option (Nat->Option (Nat × Nat)):=
 match quiet P (underlying t) with
 | some (.struct fields)=>(quiet P (fields.mapM λ f=>do Pure.pure (f.offset,<- sizeOf f.type))).map λ pl=>(pl[·]?)
 | some (.array _ e)=>(quiet P (sizeOf e)).map λ n i=>some (i*n,n)
 | _=>none
def aIZ:List Value->Option (List S)
 | []=>some []
 | v::l=>if aAS v then (aIZ l).map (.const v::·) else none
def aHT (P:Program) (t:TypeId):Option (List S):=(quiet P (zeroValue t)).bind λ z=>aIZ z.cells.toList
inductive Ex where
 | normal
 | exit (id:Nat)
 | ret
 deriving Inhabited
def aEQ:V1 S->Option (Nat × Nat)
 | .one (.ptr b o)=>some (b,o)
 | _=>none
def aJG:V1 S->Option (Nat->S)
 | .one (.ptr b o)=>some λ q=>.ptr b (o+q)
 | .one (.eptr k j s o)=>some λ q=>.eptr k j s (o+q)
 | .one (.vptr i j s o)=>some λ q=>.vptr i j s (o+q)
 | _=>none
def aOd (st:St):List Operand->Option (List (Nat × Nat))
 | []=>some []
 | x::l=>(st.get1 x).bind λ v=>(aEQ v).bind λ p=>(aOd st l).bind λ ps=>some (p::ps)
def aQB:S->Option D
 | .const v=>some (.v v)
 | _=>none
def aJH (st:St) (x:Option Operand) (d:Int):Option Int:=
 match x with
 | none=>some d
 | some x=>(st.get1 x).bind st.int?
def aPl (P:Program) (p:Pu) (xs:List (V1 S)) (st:St) (k:V S->St->Option T):Option T:=
 match aAl (V1.val aQB) xs with
 | some ds=>match p.run P ds with
  | some (.v v)=>k (.v1 (.one (.const v))) st
  | _=>none
 | none=>(k (.v1 (.one (.var st.nv))) { st with nv:=st.nv+1 }).map λ t=>.pure p xs t
def aHt (s:V S) (st:St) (k:Bool->St->Option T):Option T:=
 match s with
 | .v1 (.one (.const (.bool b)))=>k b st
 | .v1 (.one (.var i)) =>
  match st.known.lookup i with
  | some b=>k b st
  | none=>(k true { st with known:=(i,true)::st.known }).bind λ t=>(k false { st with known:=(i,false)::st.known }).bind λ e=>some (.ite i t e)
 | _=>none
def aLa (i:Nat) (st:St) (k:St->Option T):Nat->Int->Option T
 | 0,_=>some .fail
 | n+1,j=>(k { st with ints:=(i,j)::st.ints }).bind λ t=>(aLa i st k n (j+1)).bind λ e=>some (.isk i j t e)
def isIx (P:Program) (st:St):Op->Option (Nat × Nat)
 | .indexAddr t x i | .index t x i =>
  match st.get1 i with
  | some (.one (.var j))=>if (st.ints.lookup j).isSome then none else
   match st.get1 x,quiet P (underlying t) with
   | some (.one (.ptr _ _)),some (.array n _)=>some (j,n)
   | some (.agg _),some (.array n _)=>some (j,n)
   | some (.one (.slice _ _ n _)),some (.slice _)=>some (j,n)
   | _,_=>none
  | _=>none
 | _=>none
def aLH (P:Program) (op:Op) (st:St) (k:St->Option T):Option T:=
 match isIx P st op with
 | some (j,n)=>aLa j st k n 0
 | none=>k st
def aU9 (P:Program) (st:St) (ops:List Oper):Op->Option (Nat × Nat)
 | .indexAddr t x i =>
  let i:=match i with
   | .tmp q=>match ops.find? (λ o=>o.dst == some q) with
    | some o=>match o.op with
     | .move y=>y
     | _=>i
    | none=>i
   | _=>i
  match st.get1 i with
  | some (.one (.var j))=>if (st.ints.lookup j).isSome then none else
   match st.get1 x,quiet P (underlying t) with
   | some (.one (.ptr _ _)),some (.array n _)=>some (j,n)
   | _,_=>none
  | _=>none
 | _=>none
def aOe (P:Program) (ops:Array Oper) (d:Bool) (st:St) (k:St->Option T):Option T:=
 match d,ops.toList.findSome? (λ o=>aU9 P st ops.toList o.op) with
 | true,some (j,n)=>aLa j st k n 0
 | _,_=>k st
abbrev Cs:=FuncId->Option Ct
abbrev Cf:=FuncId->List D->Option (List D)
abbrev Inl:=FuncId->List (V S)->St->(V S->St->Option T)->Option T
def capV (l:List (Nat × Nat)):List (V S):=l.map λ p=>.v1 (.one (.ptr p.1 p.2))
def aLb (P:Program) (f:FuncId):Bool:=
 match P.funcs[f]? with
 | some fn => fn.name != "runtime.NumGoroutine" && fn.body.isSome
 | none=>false
def aG6:List H1->List (V S)->Option (List S)
 | [],[]=>some []
 | h::hs,.v1 v::vs=>if fits1 h v then (aG6 hs vs).map (v.cells++·) else none
 | _,_=>none
def aLI (P:Program) (C:Cs) (inl:Inl) (f:FuncId) (cap:List (Nat × Nat)) (xs:List (V S)) (st:St) (k:V S->St->Option T):Option T:=
 if aLb P f then
  match C f,cap with
  | some ct,[]=>(aG6 ct.ps xs).bind λ ss=>(k (ct.h.sym st.nv) { st with nv:=st.nv+ct.h.size }).map λ t=>.call f ss ct.h.size t
  | _,_=>inl f (xs++capV cap) st k
 else none
def aDg (P:Program) (st:St):Op->Option (V S)
 | .move x | .assign x=>st.get x
 | .build t parts=>(aHT P t).bind λ z=>(placesOf P t).bind λ pl=>(partsOf st parts.toList).bind λ ps=>(laid pl z ps).map λ ss=>.v1 (.agg ss)
 | .nilCheck x=>(st.get1 x).bind λ v=>match v with
  | .one (.ptr _ _) | .one (.func _ _) | .one (.eptr _ _ _ _) | .one (.vptr _ _ _ _)=>some (.v1 v)
  | _=>none
 | .fieldAddr s x f=>(st.get1 x).bind λ a=>(aJG a).bind λ sh =>
  match quiet P (underlying s) with
  | some (.struct fields)=>(fields[f]?).bind λ fd=>match quiet P (sizeOf fd.type) with
   | some (_+1)=>some (.v1 (.one (sh fd.offset)))
   | _=>none
  | _=>none
 | .field s x f=>(st.get1 x).bind λ v=>match v,quiet P (underlying s) with
  | .agg ss,some (.struct fields)=>(fields[f]?).bind λ fd=>(partOf P fd.type ss fd.offset).map .v1
  | _,_=>none
 | .indexAddr t x i=>(st.get1 x).bind λ v=>(st.get1 i).bind λ i=>(st.int? i).bind λ i=>match quiet P (underlying t),v with
  | some (.array n e),.one (.ptr b o)=>if 0<=i/\i < n then (quiet P (sizeOf e)).map λ s=>.v1 (.one (.ptr b (o+i.toNat*s))) else none
  | some (.slice e),.one (.slice b o n _)=>if 0<=i/\i < n then (quiet P (sizeOf e)).map λ s=>.v1 (.one (.ptr b (o+i.toNat*s))) else none
  | _,_=>none
 | .index t x i=>(st.get1 x).bind λ v=>(st.get1 i).bind λ i=>match quiet P (underlying t),v with
  | some (.array n e),.agg ss=>(st.int? i).bind λ i=>if 0<=i/\i < n then (quiet P (sizeOf e)).bind λ s=>(partOf P e ss (i.toNat*s)).map .v1 else none
  | _,_=>none
 | .extract x i=>(st.get x).bind λ v=>match v with
  | .tup vs=>(vs[i]?).map .v1
  | _=>none
 | .makeFunc (.func f) first captured=>if first.size=0 then (aOd st captured.toList).map λ l=>.v1 (.one (.func f l)) else none
 | .slice t x lo hi none=>(st.get1 x).bind λ v=>match quiet P (underlying t),v with
  | some (.array n e),.one (.ptr b o) =>
   (aJH st lo 0).bind λ l=>(aJH st hi n).bind λ h =>
   if 0<=l/\l<=h/\h<=n/\l < n then (quiet P (sizeOf e)).map λ s=>.v1 (.one (.slice b (o+l.toNat*s) (h - l).toNat (n - l.toNat))) else none
  | _,_=>none
 | .call { callee:=.builtin .len,args,argTypes }=>match args.toList,argTypes.toList with
  | [x],[t]=>(st.get1 x).bind λ v=>match v,quiet P (underlying t) with
   | .one (.slice _ _ n _),some (.slice _)=>some (.v1 (.one (.const (.int .i64 n))))
   | .one (.const (.slice none n _)),some (.slice _)=>some (.v1 (.one (.const (.int .i64 n))))
   | _,some (.array n _)=>some (.v1 (.one (.const (.int .i64 n))))
   | _,_=>none
  | _,_=>none
 | _=>none
def aJI:Operand->Bool
 | .const _=>true
 | _=>false
def aFE (st:St):List Operand->Option (List (V1 S))
 | []=>some []
 | x::l=>(st.get1 x).bind λ v=>(aFE st l).bind λ vs=>some (v::vs)
def aQC (st:St):List Operand->Option (List (V S))
 | []=>some []
 | x::l=>(st.get x).bind λ v=>(aQC st l).bind λ vs=>some (v::vs)
def aPm (P:Program) (st:St):Op->Option (Pu × List (V1 S))
 | .binOp op t x y _=>(st.get1 x).bind λ a=>(st.get1 y).map λ b=>(.bin op t (aJI x || aJI y),[a,b])
 | .unOp op _ x=>(st.get1 x).map λ a=>(.un op,[a])
 | .convert src dst x=>match quiet P (underlying src),quiet P (underlying dst) with
  | some (.slice _),_ | _,some (.slice _)=>none
  | _,_=>(st.get1 x).map λ a=>(.conv src dst,[a])
 | .index t x i=>(st.get1 x).bind λ v=>(st.get1 i).map λ i=>(.idx t,[v,i])
 | .slice t x lo hi none=>(st.get1 x).bind λ v=>(aFE st (lo.toList++hi.toList)).map λ bs=>(.slc t lo.isSome hi.isSome,v::bs)
 | .call { callee:=.builtin .len,args,argTypes }=>match args.toList,argTypes.toList with
  | [x],[t]=>(st.get1 x).map λ v=>match quiet P (underlying t) with
   | some (.slice _)=>(.llen,[v])
   | _=>(.blt .len t,[v])
  | _,_=>none
 | .call { callee:=.builtin .min,args,.. }=>match args.toList with
  | [x,y]=>(st.get1 x).bind λ a=>(st.get1 y).map λ b=>(.blt .min 0,[a,b])
  | _=>none
 | .call { callee:=.builtin .max,args,.. }=>match args.toList with
  | [x,y]=>(st.get1 x).bind λ a=>(st.get1 y).map λ b=>(.blt .max 0,[a,b])
  | _=>none
 | _=>none
def aJa (k:Nat):List Dyn->Nat->Option Nat
 | [],_=>none
 | y::l,i=>if y.live && y.h == k then some i else aJa k l (i+1)
def St.dyn? (st:St) (k:Nat):Option (Nat × Dyn):=(aJa k st.dyns 0).bind λ q=>(st.dyns[q]?).map λ y=>(q,y)
def aHU:List Pu->List (V1 S)->T->T
 | [],_,t=>t
 | p::l,xs,t=>.pure p xs (aHU l xs t)
inductive Oa where
 | rd (ps:List Pu) (xs:List (V1 S)) (res:Nat->V1 S)
 | mk (p:Pu) (xs:List (V1 S)) (s:Nat) (e:TypeId)
 | app (q:Nat) (y:Dyn) (p:Pu) (xs:List (V1 S))
 | sto (q:Nat) (y:Dyn) (p:Pu) (xs:List (V1 S))
def aBR (a:Oa) (st:St) (k:V S->St->Option T):Option T:=
 match a with
 | .rd ps xs res=>(k (.v1 (res st.nv)) { st with nv:=st.nv+ps.length }).map (aHU ps xs)
 | .mk p xs s e=>(k (.v1 (.one (.dyn st.nd))) { st with nv:=st.nv+1,nd:=st.nd+1,dyns:=st.dyns++[⟨st.nd,st.nv,s,e,true⟩] }).map (.pure p xs)
 | .app q y p xs=>(k (.v1 (.one (.dyn st.nd))) { st with nv:=st.nv+1,nd:=st.nd+1,dyns:=st.dyns.set q { y with h:=st.nd,cv:=st.nv } }).map (.pure p xs)
 | .sto q y p xs=>(k (.tup []) { st with nv:=st.nv+1,dyns:=st.dyns.set q { y with cv:=st.nv } }).map (.pure p xs)
def aQD (st:St) (k s cv:Nat) (lo:Option Operand):Option Operand->Option Oa
 | some hi=>(match lo with | some lo=>st.get1 lo | none=>some (.one (.const (.int .i64 0)))).bind λ vl=>(st.get1 hi).map λ vh=>.rd [.lwlo,.lwlen] [.one (.var cv),vl,vh] λ n=>.one (.win k s n (n+1))
 | _=>none
def valA (P:Program) (st:St):Op->Option Oa
 | .indexAddr t x i=>(st.get1 i).bind λ vi=>match st.get1 x,quiet P (underlying t) with
  | some (.one (.dyn k)),some (.slice e)=>(st.dyn? k).bind λ (_,y)=>(quiet P (sizeOf e)).map λ s=>.rd [.lchk] [.one (.var y.cv),vi] λ n=>.one (.eptr k n s 0)
  | some (.one (.var v)),some (.slice e)=>(quiet P (sizeOf e)).map λ s=>.rd [.lchk] [.one (.var v),vi] λ n=>.one (.vptr v n s 0)
  | some (.one (.win k s i j)),some (.slice e)=>(quiet P (sizeOf e)).bind λ s'=>if s'=s then some (.rd [.lwix] [.one (.var i),.one (.var j),vi] λ n=>.one (.eptr k n s 0)) else none
  | _,_=>none
 | .slice t x lo hi none=>match st.get1 x,quiet P (underlying t) with
  | some (.one (.var v)),some (.slice e)=>(quiet P (sizeOf e)).bind λ s=>(aFE st (lo.toList++hi.toList)).map λ bs=>.rd [.lcut s lo.isSome hi.isSome] (.one (.var v)::bs) λ n=>.one (.var n)
  | some (.one (.dyn k)),some (.slice e)=>(st.dyn? k).bind λ (_,y)=>(quiet P (sizeOf e)).bind λ s=>aQD st k s y.cv lo hi
  | _,_=>none
 | .call { callee:=.builtin .len,args,argTypes }=>match args.toList,argTypes.toList with
  | [x],[t]=>match st.get1 x,quiet P (underlying t) with
   | some (.one (.dyn k)),some (.slice _)=>(st.dyn? k).map λ (_,y)=>.rd [.llen] [.one (.var y.cv)] λ n=>.one (.var n)
   | some (.one (.win _ _ _ j)),some (.slice _)=>some (.rd [] [] λ _=>.one (.var j))
   | _,_=>none
  | _,_=>none
 | _=>none
def cellsOf (st:St) (b o n:Nat):Option (List S):=(st.blocks[b]?).bind λ bl=>if o+n<=bl.cells.length then some ((bl.cells.drop o).take n) else none
def aEJ (P:Program) (t:TypeId) (s o:Nat):Option (List Pu × (Nat->V1 S)):=
 match quiet P (isAgg t),quiet P (sizeOf t) with
 | some true,some n=>some ((List.range n).map λ i=>.lidx s (o+i),λ m=>.agg ((List.range n).map λ i=>.var (m+i)))
 | some false,_=>some ([.lidx s o],λ m=>.one (.var m))
 | _,_=>none
def aDT (P:Program) (pm:Pm) (st:St):Op->Option Oa
 | .buildSlice t 0 ps=>match quiet P (underlying t) with
  | some (.slice e)=>match quiet P (sizeOf e) with
   | some s=>if 0 < s/\ps.size=0 then some (.mk .lnil [] s e) else none
   | _=>none
  | _=>none
 | .makeSlice t l c=>match quiet P (underlying t) with
  | some (.slice e)=>match quiet P (sizeOf e),quiet P (zeroValue e),P.info? e with
   | some 1,some z,some i=>if aAS z then (st.get1 l).bind λ vl=>(st.get1 c).map λ vc=>.mk (.lmake z i.bytes) [vl,vc] 1 e else none
   | _,_,_=>none
  | _=>none
 | .convert src dst x=>match quiet P (underlying src),quiet P (underlying dst) with
  | some (.slice e),some .string=>match quiet P (underlying e),st.get1 x with
   | some (.int .u8),some (.one (.dyn k))=>(st.dyn? k).bind λ (_,y)=>if y.s=1 then some (.rd [.lstr] [.one (.var y.cv)] λ n=>.one (.var n)) else none
   | some (.int .u8),some (.one (.var v))=>some (.rd [.lstr] [.one (.var v)] λ n=>.one (.var n))
   | some (.int .u8),some (.one (.slice b o n _))=>(cellsOf st b o n).map λ cs=>.rd [.lbstr] [.agg cs] λ n=>.one (.var n)
   | _,_=>none
  | _,_=>none
 | .call { callee:=.builtin .append,args,argTypes }=>match args.toList,argTypes.toList with
  | [x,y],[t,t']=>if t=t' then match quiet P (underlying t) with
   | some (.slice e)=>match quiet P (sizeOf e),quiet P (zeroValue e),P.info? e,st.get1 y with
    | some s,some z,some i,some (.one (.slice b o m _))=>if 0 < s/\z.cells.size=s then (cellsOf st b o (m*s)).bind λ cs=>match st.get1 x with
     | some (.one (.dyn k))=>(st.dyn? k).bind λ (q,y)=>if pm.dlo<=q/\y.s=s/\y.e=e then some (.app q y (.lapp m s i.bytes) [.one (.var y.cv),.agg cs]) else none
     | some (.one (.const (.slice none 0 0)))=>some (.mk (.lnew m s i.bytes) [.agg cs] s e)
     | _=>none
     else none
    | _,_,_,_=>none
   | _=>none
   else none
  | _,_=>none
 | .load t x=>match st.get1 x with
  | some (.one (.eptr k j s o))=>(st.dyn? k).bind λ (_,y)=>(aEJ P t s o).map λ (ps,f)=>.rd ps [.one (.var y.cv),.one (.var j)] f
  | some (.one (.vptr i j s o))=>(aEJ P t s o).map λ (ps,f)=>.rd ps [.one (.var i),.one (.var j)] f
  | _=>none
 | .store t x v=>match st.get1 x with
  | some (.one (.eptr k j s o))=>(st.dyn? k).bind λ (q,y)=>(st.get1 v).bind λ v=>if pm.dlo<=q/\quiet P (sizeOf t)=some v.cells.length then some (.sto q y (.lset s o) [.one (.var y.cv),.one (.var j),v]) else none
  | _=>none
 | _=>none
def S.sub (k i:Nat):S->S
 | .dyn j=>if j=k then .var i else .dyn j
 | s=>s
def V1.mapS (f:S->S):V1 S->V1 S
 | .one s=>.one (f s)
 | .agg ss=>.agg (ss.map f)
def V.mapS (f:S->S):V S->V S
 | .v1 v=>.v1 (v.mapS f)
 | .tup vs=>.tup (vs.map (V1.mapS f))
 | .junk=>.junk
def St.ren (f:S->S) (st:St):St:={ st with tmps:=st.tmps.map (V.mapS f),blocks:=st.blocks.map λ b=>{ b with cells:=b.cells.map f } }
def aJJ (dlo:Nat) (st:St) (k:Nat):St:=
 match st.dyn? k with
 | some (q,y)=>if dlo<=q then { st.ren (S.sub k y.cv) with dyns:=st.dyns.set q { y with live:=false } } else st
 | none=>st
def aHu:List S->List Nat
 | []=>[]
 | .dyn k::l=>k::aHu l
 | _::l=>aHu l
def aPn (st:St):St:=(st.dyns.map (·.h)).foldl (aJJ 0) st
def aSO (C:FuncId->Option Ct) (ops:Array Oper) (t:Tmp):Bool:=ops.any λ o=>match o.op with
 | .call { callee:=.value (.func f),args,.. }=>(C f).isSome && args.any λ a=>match a with | .tmp u=>u == t | _=>false
 | _=>false
def aE6 (C:FuncId->Option Ct) (pm:Pm) (ops:Array Oper) (st:St) (dst:Option Tmp):Op->St
 | .call { callee:=.value x,args,.. }=>match st.get1 x with
  | some (.one (.func f []))=>if (C f).isSome then (args.toList.flatMap λ a=>match st.get1 a with | some v=>aHu v.cells | none=>[]).foldl (aJJ pm.dlo) st else st
  | _=>st
 | .slice _ x none (some _) none=>match st.get1 x with
  | some (.one (.dyn k))=>if (match dst with | some t=>aSO C ops t | none=>false) then aJJ pm.dlo st k else st
  | _=>st
 | _=>st
def aRV (P:Program) (o:Oper) (st:St) (k:V S->St->Option T):Option T:=
 aLH P o.op st λ st =>
 match aDg P st o.op with
 | some v=>k v st
 | none =>
  match valA P st o.op with
  | some a=>aBR a st k
  | none =>
  match aPm P st o.op with
  | some (p,xs)=>aPl P p xs st k
  | none =>
   match o.op with
   | .pick c a b=>(st.get c).bind λ c=>(st.get a).bind λ a=>(st.get b).bind λ b=>aHt c st λ t st=>k (if t then a else b) st
   | _=>none
def aJb (P:Program) (st:St):Op->Option (V1 S)
 | .load t x=>(st.get1 x).bind λ a=>(aEQ a).bind λ (b,o)=>(st.blocks[b]?).bind λ bl=>partOf P t bl.cells o
 | _=>none
def aFW (P:Program) (st:St):Op->Option (TypeId × List S × (Nat->S))
 | .alloc t=>(aHT P t).map λ z=>(t,z,λ b=>.ptr b 0)
 | .box t x=>(st.get1 x).map λ v=>(t,v.cells,λ b=>.ptr b 0)
 | .buildSlice t n parts =>
  match quiet P (underlying t) with
  | some (.slice e)=>(quiet P (sizeOf e)).bind λ s=>if n*s > 2 ^ 16 then none else
   (aHT P e).bind λ z=>if z.isEmpty then none else (partsOf st parts.toList).bind λ ps=>(laid (λ i=>some (i*s,s)) ((List.range (n*s)).map λ i=>z.getD (i % z.length) default) ps).map λ ss=>(e,ss,λ b=>.slice b 0 n n)
  | _=>none
 | _=>none
def aLJ (P:Program) (pm:Pm) (st:St):Op->Option St
 | .store t x y=>(st.get1 x).bind λ a=>(aEQ a).bind λ (b,o)=>(st.blocks[b]?).bind λ bl=>(st.get1 y).bind λ v =>
  if pm.lo<=b/\quiet P (sizeOf t)=some v.cells.length/\o+v.cells.length<=bl.cells.length then some { st with blocks:=st.blocks.set b { bl with cells:=putAt bl.cells o v.cells } } else none
 | _=>none
inductive Kind where
 | val | load | makes | store | call
 deriving DecidableEq
def kindOf:Op->Kind
 | .load ..=>.load
 | .alloc .. | .box .. | .buildSlice ..=>.makes
 | .store ..=>.store
 | .call { callee:=.value _,.. }=>.call
 | _=>.val
def aCb (P:Program) (C:Cs) (inl:Inl) (pm:Pm) (o:Oper) (st:St) (k:V S->St->Option T):Option T:=
 match kindOf o.op with
 | .val=>aRV P o st k
 | .load=>(aJb P st o.op).bind λ v=>k (.v1 v) st
 | .makes=>(aFW P st o.op).bind λ (e,ss,mk)=>k (.v1 (.one (mk st.blocks.length))) (st.new ss e)
 | .store=>(aLJ P pm st o.op).bind λ st=>k (.tup []) st
 | .call=>match o.op with
  | .call { callee:=.value x,args,.. }=>(st.get1 x).bind λ v=>(aQC st args.toList).bind λ xs=>match v with
   | .one (.func f cap)=>aLI P C inl f cap xs st k
   | _=>none
  | _=>none
def aHV (ops:Array Oper) (o:Oper) (st:St) (k:Bool->St->Option T):Option T:=
 match o.guard with
 | none=>k true st
 | some (j,want) =>
  match ((ops[j]?).bind (·.dst)).bind (st.tmps[·]?) with
  | some (.v1 (.one s))=>aHt (.v1 (.one s)) st λ b st=>k (b == want) st
  | some (.tup _)=>k false st
  | _=>none
def aFX:V S:=.tup []
def aG7 (P:Program) (C:Cs) (inl:Inl) (pm:Pm) (ops:Array Oper):List Nat->St->(St->Option T)->Option T
 | [],st,k=>k st
 | i::l,st,k =>
  match ops[i]? with
  | none=>aG7 P C inl pm ops l st k
  | some o=>aHV ops o st λ b st=>if b then (match aDT P pm st o.op with
   | some a=>aBR a st λ v st=>aG7 P C inl pm ops l (st.put o.dst v) k
   | none=>aCb P C inl pm o (aE6 C pm ops st o.dst o.op) λ v st=>aG7 P C inl pm ops l (st.put o.dst v) k) else aG7 P C inl pm ops l (st.put o.dst aFX) k
def aLK (P:Program) (st:St):ResultVar->Option (V1 S)
 | .tmp t=>(st.tmps[t]?).bind V.v1?
 | .cell a t=>(st.tmps[a]?).bind λ a=>a.v1?.bind λ a=>(aEQ a).bind λ (b,o)=>(st.blocks[b]?).bind λ bl=>partOf P t bl.cells o
def aJK (P:Program) (st:St):List ResultVar->Option (List (V1 S))
 | []=>some []
 | r::l=>(aLK P st r).bind λ v=>(aJK P st l).bind λ vs=>some (v::vs)
def aDI (P:Program) (fn:Func) (st:St):Option (V S):=
 (aJK P st fn.results.toList).map fun | [v]=>.v1 v | vs=>.tup vs
def enters (fn:Func) (xs:List (V S)) (st:St):St:={ st with tmps:=xs++List.replicate (fn.ntmps - xs.length) aFX }
inductive Stp where
 | any (i:Nat)
 | take (i:Nat)
 | make (i:Nat)
 | only (i:Nat)
 deriving Inhabited
def Stp.on:Stp->Nat
 | .any i | .take i | .make i | .only i=>i
structure Ent where
 i:Nat
 a:Nat
 l:Nat
 d:Nat
 k:Kind
def aBm:List Nat->Nat
 | []=>0
 | i::l=>(1 <<< i) ||| aBm l
def aBs (ops:Array Oper) (o:Oper) (i:Nat):Ent:=⟨i,aBm ((o.after.toList.filter (Region.binds .any)).map (·.on)),aBm (o.looksAt ops),aBm o.dst.toList,kindOf o.op⟩
def aFY {α:Type} (n:Nat) (k:Nat->α):α:=
 match n with
 | 0=>k 0
 | n+1=>k (n+1)
def aHW {α:Type} (ops:Array Oper):List (Oper × Nat)->List Ent->(List Ent->α)->α
 | [],acc,k=>k acc.reverse
 | (o,i)::r,acc,k=>aFY (aBs ops o i).a λ a=>aFY (aBs ops o i).l λ l=>aFY (aBs ops o i).d λ d=>aHW ops r (⟨i,a,l,d,kindOf o.op⟩::acc) k
def tblOf (ops:Array Oper):List Ent:=ops.toList.zipIdx.map λ (o,i)=>aBs ops o i
def aRW (x y:Ent):Bool:=x.i == y.i || y.a.testBit x.i || x.a.testBit y.i || ((x.d &&& (y.l ||| y.d)) == 0 && (y.d &&& x.l) == 0)
def aPo (x y:Ent):Bool:=x.a.testBit y.i || ((y.d &&& x.l) == 0 && (y.i == x.i || (x.d &&& y.d) == 0))
def Kind.light:Kind->Bool
 | .val | .load=>true
 | _=>false
def Kind.isMake:Kind->Bool
 | .makes=>true
 | _=>false
def Kind.isStore:Kind->Bool
 | .store=>true
 | _=>false
def pairsB (tbl:List Ent):Bool:=tbl.all λ x=>(!x.k.light || tbl.all (aRW x)) && (!x.k.isMake || tbl.all (aPo x))
def aFc (tbl:List Ent):List Nat:=(tbl.filter (·.k.isMake)).map (·.i)
def aLL (tbl:List Ent):List Nat:=(tbl.filter (·.k.isStore)).map (·.i)
def aCD (q a:Nat):Bool:=(a &&& q) == a
def aOf (tbl:List Ent) (q mm i:Nat):Bool:=tbl.all λ y=>y.i == i || q.testBit y.i || y.k.isMake || !aCD (q ||| mm) y.a
def stpB (ops:Array Oper) (tbl:List Ent) (mm:Nat) (ds:List Nat) (q:Nat) (s:Stp):Bool:=
 match tbl.find? λ x=>x.i == s.on with
 | none=>false
 | some x=>!q.testBit x.i && aCD q x.a && match s with
  | .any _=>(match x.k with | .val=>true | _=>false)
  | .take i=>(match x.k with | .load=>true | _=>false) && ds.all λ d=>!q.testBit d && Region.reachB .any ops i ops.size d
  | .make i=>x.k.isMake && aOf tbl q (mm ^^^ (1 <<< i)) ops.size
  | .only i=>(match x.k with | .call | .val | .load=>!ds.contains i | .store=>(mm &&& q) == mm | .makes=>false) && aOf tbl q mm i
def aLc (ops:Array Oper) (tbl:List Ent) (mm:Nat) (ds:List Nat):Nat->List Stp->Bool
 | q,[]=>tbl.all λ x=>q.testBit x.i
 | q,s::ss=>stpB ops tbl mm ds q s && aFY (q ||| (1 <<< s.on)) λ q=>aLc ops tbl mm ds q ss
def aSP (q:Nat) (tbl:List Ent):Option Stp:=
 match tbl.find? λ x=>x.k.light && !q.testBit x.i && aCD q x.a with
 | some x=>match x.k with
  | .load=>some (.take x.i)
  | _=>some (.any x.i)
 | none =>
  match tbl.find? λ x=>!x.k.isMake && !q.testBit x.i && aCD q x.a with
  | some x=>some (.only x.i)
  | none=>(tbl.find? λ x=>!q.testBit x.i && aCD q x.a).map λ x=>.make x.i
def aJL (tbl:List Ent):Nat->Nat->List Stp
 | 0,_=>[]
 | n+1,q=>match aSP q tbl with
  | some s=>s::aFY (q ||| (1 <<< s.on)) λ q=>aJL tbl n q
  | none=>[]
def aER (st:St) (x:Operand):Option Nat:=(st.get1 x).bind λ a=>(aEQ a).map (·.1)
def aJM (ops:Array Oper):Bool:=ops.all λ o=>match kindOf o.op with
 | .call=>false
 | _=>true
def aJc (nd0:Nat × Bool) (rs ds:List Nat) (st:St) (s:Stp) (op:Op):Bool:=
 match s,op with
 | .take _,.load _ x=>match aER st x with
  | some b=>rs.contains b
  | none=>match st.get1 x with
   | some (.one (.eptr k _ _ _))=>k < nd0.1
   | some (.one (.vptr _ _ _ _))=>nd0.2
   | _=>false
 | .only i,.store _ x _=>ds.contains i || match aER st x with
  | some b=>!rs.contains b
  | none=>false
 | _,_=>true
def aHX (ops:Array Oper) (o:Oper) (st:St):Option Bool:=
 match o.guard with
 | none=>some true
 | some (j,want) =>
  match ((ops[j]?).bind (·.dst)).bind (st.tmps[·]?) with
  | some (.v1 (.one (.const (.bool b))))=>some (b == want)
  | some (.v1 (.one (.var i)))=>(st.known.lookup i).map (· == want)
  | some (.tup _)=>some false
  | _=>none
def aTJ (P:Program) (ops:Array Oper) (tbl:List Ent) (mm:Nat) (q:Nat) (st:St):Stp->Bool
 | .any _ | .take _=>true
 | .only _ | .make _=>tbl.all λ x=>!x.k.isMake || q.testBit x.i || match ops[x.i]? with
  | some o=>(match o.dst with
   | some d=>(match st.tmps[d]? with | some .junk | none=>true | _=>false)
   | none=>true) &&
   (!aCD (q ||| mm) x.a || (aHX ops o st == some false) || (aFW P st o.op).isSome)
  | none=>false
def aLd (P:Program) (C:Cs) (inl:Nat->Nat->Inl) (pm:Pm) (s:Stp) (o:Oper) (st:St) (k:V S->St->Option T):Option T:=
 match s with
 | .take _=>match aDT P pm st o.op with
  | some a=>aBR a st k
  | none=>aCb P C (inl st.blocks.length st.dyns.length) pm o st k
 | .only _=>match kindOf o.op with
  | .store=>match aDT P pm st o.op with
   | some a=>aBR a st k
   | none=>aCb P C (inl st.blocks.length st.dyns.length) pm o st k
  | .call=>let st:=aE6 C pm #[] st o.dst o.op;aCb P C (inl st.blocks.length st.dyns.length) pm o st k
  | _=>aCb P C (inl st.blocks.length st.dyns.length) pm o st k
 | _=>aCb P C (inl st.blocks.length st.dyns.length) pm o st k
def aFr (P:Program) (C:Cs) (inl:Nat->Nat->Inl) (pm:Pm) (ops:Array Oper) (tbl:List Ent) (mm:Nat) (nd0:Nat × Bool) (rs ds:List Nat):Nat->List Stp->St->(St->Option T)->Option T
 | _,[],st,k=>k st
 | q,s::ss,st,k =>
  if aTJ P ops tbl mm q st s then
   match ops[s.on]? with
   | none=>none
   | some o=>aHV ops o st λ b st=>if b then (if aJc nd0 rs ds st s o.op then aLd P C inl pm s o st λ v st=>aFr P C inl pm ops tbl mm nd0 rs ds (q ||| (1 <<< s.on)) ss (st.put o.dst v) k else none) else aFr P C inl pm ops tbl mm nd0 rs ds (q ||| (1 <<< s.on)) ss (st.put o.dst aFX) k
  else none
def aOg (ops:Array Oper) (ms:List Nat) (st:St):St:=ms.foldl (λ st i=>st.put ((ops[i]?).bind (·.dst)) .junk) st
def aLM (P:Program):List Oper->St->St
 | [],st=>st
 | o::l,st=>aLM P l (match kindOf o.op with
  | .makes=>st.put o.dst (.v1 (.one (.ptr 1000000 0)))
  | _=>match o.op with
   | .fieldAddr .. | .indexAddr .. | .move _ | .nilCheck _=>match aDg P st o.op with
    | some v=>st.put o.dst v
    | none=>st
   | _=>st)
def aJN (ops:Array Oper) (st:St) (n:Nat):List Nat:=ops.toList.filterMap λ o=>match o.op with
 | .load _ x=>(aER st x).bind λ b=>if b < n then some b else none
 | _=>none
def aNq (ops:Array Oper) (st:St) (rs sts:List Nat):List Nat:=sts.filter λ i=>match ops[i]? with
 | some { op:=.store _ x _,.. }=>match aER st x with
  | some b=>rs.contains b
  | none=>true
 | _=>true
def aFZ:Code->List Nat
 | .region _ ops _=>ops.toList.filterMap (·.dst)
 | .seq a b | .cond _ a b=>aFZ a++aFZ b
 | .block _ b | .loop b=>aFZ b
 | _=>[]
def aLN:Value->Value->Bool
 | .bool a,.bool b=>a == b
 | .int k a,.int l b=>k == l && a == b
 | .string a,.string b=>a.data == b.data
 | .pointer none,.pointer none=>true
 | .nilFunc,.nilFunc=>true
 | .nilIface,.nilIface=>true
 | .slice none a b,.slice none c d=>a == c && b == d
 | _,_=>false
def S.eqb:S->S->Bool
 | .var i,.var j=>i == j
 | .const a,.const b=>aLN a b
 | .ptr a b,.ptr c d=>a == c && b == d
 | .slice a b c d,.slice a' b' c' d'=>a == a' && b == b' && c == c' && d == d'
 | .func f l,.func g m=>f == g && l == m
 | .dyn a,.dyn b=>a == b
 | .eptr a b c d,.eptr a' b' c' d'=>a == a' && b == b' && c == c' && d == d'
 | .vptr a b c d,.vptr a' b' c' d'=>a == a' && b == b' && c == c' && d == d'
 | .win a b c d,.win a' b' c' d'=>a == a' && b == b' && c == c' && d == d'
 | _,_=>false
def S.free:S->Bool
 | .var _ | .const _=>true
 | _=>false
def aJO (f:S->S) (s:S):List Bool × List S × Nat->S × (List Bool × List S × Nat)
 | (m,acc,n)=>if s.free then (match m with | true::m=>(.var n,(m,acc++[s],n+1)) | false::m=>(s,(m,acc,n)) | []=>(.var n,([],acc++[s],n+1))) else (f s,(m,acc,n))
def aHv (f:S->S):List S->List Bool × List S × Nat->List S × (List Bool × List S × Nat)
 | [],g=>([],g)
 | s::l,g=>let (s,g):=aJO f s g;let (l,g):=aHv f l g;(s::l,g)
def useB (ds:List Dyn):S->Bool
 | .dyn k=>(aJa k ds 0).isSome
 | _=>false
def aQE (f:S->S) (u:S->Bool) (b:Bool) (v:V S) (g:List Bool × List S × Nat):V S × (List Bool × List S × Nat):=
 if b then match v with
  | .v1 (.one s)=>if s.free || u s then (let (s,g):=aJO f s g;(.v1 (.one s),g)) else (.junk,g)
  | .v1 (.agg ss)=>(let (ss,g):=aHv f ss g;(.v1 (.agg ss),g))
  | _=>(.junk,g)
 else (v,g)
def aJP (f:S->S) (u:S->Bool) (W:List Nat):Nat->List (V S)->List Bool × List S × Nat->List (V S) × (List Bool × List S × Nat)
 | _,[],g=>([],g)
 | t,v::l,g=>let (v,g):=aQE f u (W.contains t) v g;let (l,g):=aJP f u W (t+1) l g;(v::l,g)
def aHw (f:S->S):List Blk->List Bool × List S × Nat->List Blk × (List Bool × List S × Nat)
 | [],g=>([],g)
 | b::l,g=>let (c,g):=aHv f b.cells g;let (l,g):=aHw f l g;({ b with cells:=c }::l,g)
def aOh (i:Nat):List Bool × List S × Nat->Nat × (List Bool × List S × Nat)
 | (m,acc,n)=>match m with | true::m=>(n,(m,acc++[.var i],n+1)) | false::m=>(i,(m,acc,n)) | []=>(n,([],acc++[.var i],n+1))
def aHx (dlo:Nat) (f:Nat->Nat):Nat->List Dyn->List Bool × List S × Nat->List Dyn × (List Bool × List S × Nat)
 | _,[],g=>([],g)
 | q,y::l,g=>if y.live && Nat.ble dlo q then (let (i,g):=aOh y.cv g;let (l,g):=aHx dlo f (q+1) l g;({ y with h:=f y.h,cv:=i }::l,g)) else (let (l,g):=aHx dlo f (q+1) l g;(y::l,g))
def aPp (W:List Nat):Nat->List (V S)->List Nat
 | _,[]=>[]
 | t,v::l=>(if W.contains t then match v with | .v1 x=>aHu x.cells | _=>[] else [])++aPp W (t+1) l
def aHy (dlo:Nat) (hs:List Nat):Nat->List Dyn->List Nat
 | _,[]=>[]
 | q,y::l=>if y.live && Nat.ble dlo q && hs.contains y.h then y.h::aHy dlo hs (q+1) l else aHy dlo hs (q+1) l
def aLe (k:Nat):List Nat->Nat->Option Nat
 | [],_=>none
 | j::l,i=>if j == k then some i else aLe k l (i+1)
def aHz (mv:List Nat) (nd k:Nat):Nat:=match aLe k mv 0 with
 | some i=>nd+i
 | none=>k
def S.mov (mv:List Nat) (nd:Nat):S->S
 | .dyn k=>.dyn (aHz mv nd k)
 | s=>s
def aG8 (dlo:Nat) (W:List Nat) (st:St):List Nat:=aHy dlo (aPp W 0 st.tmps++st.blocks.flatMap λ b=>aHu b.cells) 0 st.dyns
def aG9 (dlo:Nat) (W:List Nat) (m:List Bool) (st:St):St × List S:=
 let mv:=aG8 dlo W st
 let (t,g):=aJP (S.mov mv st.nd) (useB st.dyns) W 0 st.tmps (m,[],st.nv)
 let (b,g):=aHw (S.mov mv st.nd) st.blocks g
 let (d,g):=aHx dlo (aHz mv st.nd) 0 st.dyns g
 ({ st with tmps:=t,blocks:=b,dyns:=d,nv:=g.2.2,nd:=st.nd+mv.length },g.2.1)
def S.closed (n nb nd:Nat):S->Bool
 | .var i=>i < n
 | .const _=>true
 | .ptr b _=>b < nb
 | .slice b _ _ _=>b < nb
 | .func _ l=>l.all λ p=>p.1 < nb
 | .dyn k=>k < nd
 | .eptr k j _ _=>k < nd && j < n
 | .vptr i j _ _=>i < n && j < n
 | .win k _ i j=>k < nd && (i < n && j < n)
structure Hd where
 n:Nat
 nb:Nat
 nd:Nat
 ps:List (Nat × Nat)
def aLf (h:Hd) (p s:S) (acc:List S):Option (List S):=
 if p.closed h.n h.nb h.nd then (if p.eqb s then some acc else none) else
 match p with
 | .var j=>if j=h.n+acc.length/\s.free then some (acc++[s]) else none
 | .dyn k=>match s with
  | .dyn k'=>if h.ps.lookup k=some k' then some acc else none
  | _=>none
 | _=>none
def aLg (h:Hd):List S->List S->List S->Option (List S)
 | [],[],acc=>some acc
 | p::ps,s::ss,acc=>(aLf h p s acc).bind λ acc=>aLg h ps ss acc
 | _,_,_=>none
def aOi (h:Hd):V1 S->V1 S->List S->Option (List S)
 | .one p,.one s,acc=>aLf h p s acc
 | .agg ps,.agg ss,acc=>aLg h ps ss acc
 | _,_,_=>none
def aLO (h:Hd):List (V1 S)->List (V1 S)->List S->Option (List S)
 | [],[],acc=>some acc
 | p::ps,s::ss,acc=>(aOi h p s acc).bind λ acc=>aLO h ps ss acc
 | _,_,_=>none
def aRX (h:Hd):V S->V S->List S->Option (List S)
 | .junk,_,acc=>some acc
 | .v1 p,.v1 s,acc=>aOi h p s acc
 | .tup ps,.tup ss,acc=>aLO h ps ss acc
 | _,_,_=>none
def aOj (h:Hd):List (V S)->List (V S)->List S->Option (List S)
 | [],[],acc=>some acc
 | p::ps,s::ss,acc=>(aRX h p s acc).bind λ acc=>aOj h ps ss acc
 | _,_,_=>none
def aLh (h:Hd):List Blk->List Blk->List S->Option (List S)
 | [],_,acc=>some acc
 | p::ps,s::ss,acc=>if p.elem=s.elem then (aLg h p.cells s.cells acc).bind λ acc=>aLh h ps ss acc else none
 | _,_,_=>none
def aOk (n i j:Nat) (acc:List S):Option (List S):=if i < n then (if i=j then some acc else none) else if i=n+acc.length then some (acc++[.var j]) else none
def aJd (h:Hd) (dlo:Nat):Nat->List Dyn->List Dyn->List S->Option (List S)
 | _,[],_,acc=>some acc
 | q,p::ps,s::ss,acc =>
  if p.live && Nat.ble dlo q then (if s.live=true/\s.s=p.s/\s.e=p.e/\(if p.h < h.nd then s.h=p.h else h.ps.lookup p.h=some s.h) then (aOk h.n p.cv s.cv acc).bind λ acc=>aJd h dlo (q+1) ps ss acc else none)
  else aJd h dlo (q+1) ps ss acc
 | _,_,_,_=>none
def aFs (nd dlo:Nat):Nat->List Dyn->List Dyn->List (Nat × Nat)
 | q,p::ps,s::ss=>if p.live && Nat.ble dlo q && s.live && Nat.ble nd p.h then (p.h,s.h)::aFs nd dlo (q+1) ps ss else aFs nd dlo (q+1) ps ss
 | _,_,_=>[]
def aJe (dlo n nb nd:Nat) (p s:St):Option (List S):=
 let h:Hd:=⟨n,nb,nd,aFs nd dlo 0 p.dyns s.dyns⟩
 if (List.range (p.nd - nd)).all (λ i=>(h.ps.lookup (nd+i)).isSome)/\nd<=p.nd then
  (aOj h p.tmps s.tmps []).bind λ acc=>(aLh h p.blocks s.blocks acc).bind λ acc=>(aJd h dlo 0 p.dyns s.dyns acc).bind λ acc=>if n+acc.length=p.nv then some acc else none
 else none
def orB:List Bool->List Bool->List Bool
 | a::l,b::m=>(a || b)::orB l m
 | l,_=>l
def T.turns (d n:Nat):T->List Bool->List Bool
 | .pure _ _ k,m | .call _ _ _ k,m=>k.turns d n m
 | .ite _ t e,m | .isk _ _ t e,m=>e.turns d n (t.turns d n m)
 | .loop _ _ b,m=>b.turns d n m
 | .again d' _ ss,m=>if d'=d then orB m (ss.zipIdx.map λ (s,i)=>!s.eqb (.var (n+i))) else m
 | _,m=>m
def aOl (f:Array Oper->Bool->St->(St->Option T)->Option T):Code->St->(St->Option T)->Option T
 | .seq a b,st,k=>aOl f a st λ st=>aOl f b st k
 | .region _ ops d,st,k=>f ops d st k
 | .cond c _ _,st,_=>match st.get c with
  | some (.v1 (.one (.const (.bool _))))=>some .fail
  | _=>none
 | .block _ b,st,k=>aOl f b st k
 | .skip,st,k | .label _,st,k=>k st
 | _,_,_=>none
def T.line:T->Bool
 | .fail=>true
 | .pure _ _ k | .call _ _ _ k=>k.line
 | _=>false
def aUA:Option T->Bool
 | some t=>t.line
 | none=>false
def aLi:Code->List Nat × Bool
 | .region _ ops _=>(ops.toList.flatMap λ o=>o.looksAt ops,false)
 | .seq a b=>match aLi a with
  | (r,true)=>(r,true)
  | (r,false)=>match aLi b with
   | (r2,s)=>(r++r2,s)
 | .cond _ _ _=>([],true)
 | .block _ b=>aLi b
 | _=>([],false)
def aHY (c:Bool):Code->List Nat
 | .region _ ops _=>if c then ops.toList.filterMap (·.dst) else []
 | .seq a b=>aHY c a++aHY c b
 | .cond _ a b=>aHY true a++aHY true b
 | .block _ b | .loop b=>aHY c b
 | _=>[]
def aTK (b:Code):Bool:=let w:=aHY false b;(aLi b).1.any w.contains
def aSQ:Op->Bool
 | .panic _=>true
 | _=>false
def sx (P:Program) (C:Cs):Nat->Pm->Code->St->(Ex->St->Option T)->Option T
 | 0,_,_,_,_=>none
 | n+1,pm,c,st,K =>
  let inl:Pm->Inl:=λ pm f xs st k=>(P.funcs[f]?).bind λ fn=>fn.body.bind λ c =>
   sx P C n pm c (enters fn xs st) λ e st'=>match e with
    | .exit _=>none
    | _=>(aDI P fn st').bind λ v=>k v { st' with tmps:=st.tmps }
  let reg:Array Oper->Bool->St->(St->Option T)->Option T:=λ ops d st k =>
   if d then
    (if P.follows .mixedOrders && Region.noSelect ops then aHW ops ops.toList.zipIdx [] λ tbl =>
     if pairsB tbl then
      let ms:=aFc tbl
      let sc:=aLM P ops.toList st
      let rs:=aJN ops sc st.blocks.length
      let ds:=aNq ops sc rs (aLL tbl)
      let ss:=aJL tbl ops.size 0
      if aLc ops tbl (aBm ms) ds 0 ss && rs.all (· < st.blocks.length) then aFr P C (λ lo dlo=>inl { pm with lo:=lo,dlo:=dlo }) pm ops tbl (aBm ms) (st.nd,aJM ops) rs ds 0 ss (aOg ops ms st) k else none
     else none else none)
   else aG7 P C (inl pm) pm ops (List.range ops.size) st k
  match c with
  | .skip | .label _=>K .normal st
  | .seq a b=>sx P C n pm a st λ e st=>match e with
   | .normal=>sx P C n pm b st K
   | e=>K e st
  | .cond c x y=>(st.get c).bind λ v=>aHt v st λ b st=>sx P C n pm (if b then x else y) st K
  | .block id body=>sx P C n pm body st λ e st=>match e with
   | .exit i=>if i=id then K .normal st else K (.exit i) st
   | e=>K e st
  | .loop body =>
   if !aTK body && aUA (aOl reg body st λ _=>none) then
    sx P C n pm body st λ e st=>match e with
    | .normal=>sx P C n pm (.loop body) st K
    | e=>K e st
   else
    let go:List Bool->(Ex->St->Option T)->Option (List S × T):=λ m Kx =>
     let (st',init):=aG9 pm.dlo (aFZ body) m st
     (sx P C n { pm with dep:=pm.dep+1 } body st' λ e st''=>match e with
      | .normal=>(aJe pm.dlo st.nv st.blocks.length st.nd st' st'').map λ ss=>.again pm.dep st.nv ss
      | e=>Kx e st'').map λ t=>(init,t)
    (go [] λ _ _=>some .fail).bind λ (i0,t0) =>
     (go (t0.turns pm.dep st.nv (i0.map λ _=>false)) K).bind λ (init,t)=>some (.loop pm.dep init t)
  | .exit id=>K (.exit id) st
  | .ret=>K .ret st
  | .region _ ops d=>if ops.any (λ o=>aSQ o.op) then some .fail else aOe P ops d st λ st=>reg ops d st (K .normal)
  | _=>none
def h1Of (P:Program) (t:TypeId):Option H1:=
 match quiet P (isAgg t),quiet P (sizeOf t) with
 | some true,some n=>some (.agg n)
 | some false,_=>some .one
 | _,_=>none
def h1s (P:Program):List TypeId->Option (List H1)
 | []=>some []
 | t::l=>(h1Of P t).bind λ h=>(h1s P l).map (h::·)
def aH0 (P:Program) (f:FuncId):Option Ct:=(P.funcs[f]?).bind λ fn=>(h1s P fn.params.toList).bind λ ps=>(h1s P fn.resultTypes.toList).map fun
 | [h]=>⟨ps,.v1 h⟩
 | hs=>⟨ps,.tup hs⟩
def known (P:Program) (l:List FuncId):Cs:=λ f=>if l.contains f then aH0 P f else none
def aJf (P:Program) (l:List FuncId) (n:Nat) (f:FuncId):Option T:=
 (aH0 P f).bind λ ct=>(P.funcs[f]?).bind λ fn=>fn.body.bind λ c=>sx P (known P l) n ⟨0,0,0⟩ c (enters fn ((aHs 0 ct.ps).map .v1) ⟨[],[],[],[],aD9 ct.ps,[],0⟩) λ e st=>match e with
  | .exit _=>none
  | _=>(aDI P fn (aPn st)).bind λ v=>if fits ct.h v then some (.ret (flat v)) else none
end Go.Proofs.YtjefbecmeobegaaGreatDoor.Sx
namespace Go.Proofs.YtjefbecmeobegaaGreatDoor.Sx
open Go Go.RowKit YtjefbecmeobegaaGreatDoorW.PrintLast
theorem aC4 (n o i:Nat):(⟨n,o,none⟩:Addr).add i=⟨n,o+i,none⟩:=by
 unfold Addr.add
 split
 ·rename_i h
  rw [h]
  rfl
 ·rfl
theorem run_load {P:Program} {w:World} {a:Addr} {v:Value} (h:w.cell? a=some v):(load a).run P w=.ok v w:=by
 unfold load
 simp only [Sem.run,h]
theorem cell_at {w:World} {n o:Nat} {cs:Array Value} {e:TypeId} {fr:Nat × Nat} (h:w.heap[n]?=some (.cells cs e fr)):w.cell? ⟨n,o,none⟩=cs[o]?:=by
 unfold World.cell?
 rw [h]
 rfl
theorem run_loadCells {P:Program} {w:World} {n o:Nat} {cs:Array Value} {e:TypeId} {fr:Nat × Nat} (h:w.heap[n]?=some (.cells cs e fr)) (m:Nat) :
  ∀ (i:Nat) (acc:Array Value),o+i+m<=cs.size->(loadCellsFrom ⟨n,o,none⟩ i m acc).run P w=.ok (acc++((cs.toList.drop (o+i)).take m).toArray) w:=by
 induction m with
 | zero =>
  intro i acc _
  rw [List.take_zero]
  show Result.ok acc w=.ok (acc++#[]) w
  rw [Array.append_empty]
 | succ m ih =>
  intro i acc hl
  have hi:o+i < cs.size:=by omega
  have hc:w.cell? ((⟨n,o,none⟩:Addr).add i)=some cs[o+i]:=by rw [aC4,cell_at h,Array.getElem?_eq_getElem hi]
  show ((load ((⟨n,o,none⟩:Addr).add i)).bind λ v=>loadCellsFrom ⟨n,o,none⟩ (i+1) m (acc.push v)).run P w=_
  rw [run_bind_ok (run_load hc),ih (i+1) _ kJ]
  congr 1
  have hd:cs.toList.drop (o+i)=cs[o+i]::cs.toList.drop (o+(i+1)):=by
   rw [List.drop_eq_getElem_cons (by simpa using hi)]
   rfl
  rw [hd,List.take_succ_cons]
  apply Array.ext'
  simp
theorem run_store {P:Program} {w:World} {n o:Nat} {cs:Array Value} {e:TypeId} {v:Value} (h:w.heap[n]?=some (.cells cs e (0,0))) (ho:o < cs.size) (hv:aAS v=true) :
  (store ⟨n,o,none⟩ v).run P w=.ok () (w.setCell ⟨n,o,none⟩ v):=by
 have hc:w.cell? ⟨n,o,none⟩=some cs[o]:=by rw [cell_at h,Array.getElem?_eq_getElem ho]
 have hf:w.frozen? ⟨n,o,none⟩=false:=by
  unfold World.frozen?
  rw [h]
  simp
 unfold store
 cases v<;>first | (simp [Sem.run,hc,hf];done) | cases hv
theorem setCell_at {w:World} {n o:Nat} {cs:Array Value} {e:TypeId} {v:Value} {fr:Nat × Nat} (h:w.heap[n]?=some (.cells cs e fr)) :
  (w.setCell ⟨n,o,none⟩ v).heap[n]?=some (.cells (cs.setIfInBounds o v) e fr):=by
 unfold World.setCell
 simp [Array.getElem?_modify,h]
theorem aMM {w:World} {n o k:Nat} {v:Value} (h:k≠n):(w.setCell ⟨n,o,none⟩ v).heap[k]?=w.heap[k]?:=Below.heap_setCell _ _ _ _ h
theorem aFt {α:Type}:∀ (l:List α) (c:List α) (o:Nat),(putAt c o l).length=c.length
 | [],_,_=>rfl
 | s::l,c,o=>by
  show (putAt (c.set o s) (o+1) l).length=_
  rw [aFt l,List.length_set]
theorem All2.putAt {α β:Type} {R:α->β->Prop}:∀ {l:List α} {m:List β} {c:List α} {d:List β} (o:Nat),All2 R c d->All2 R l m->All2 R (Sx.putAt c o l) (Sx.putAt d o m)
 | [],[],_,_,_,h,_=>h
 | _::_,_::_,_,_,o,h,g=>All2.putAt (o+1) (All2.set o h g.1) g.2
 | [],_::_,_,_,_,_,g=>g.elim
 | _::_,[],_,_,_,_,g=>g.elim
theorem aEi {P:Program} {n o:Nat} {e:TypeId} {B:Nat} (hB:B<=n):∀ (vs:List Value) (i:Nat) (w:World) (cs:Array Value),w.heap[n]?=some (.cells cs e (0,0))->o+i+vs.length<=cs.size->(∀ v ∈ vs,aAS v=true) ->
  ∃ w',(storeCells ⟨n,o,none⟩ vs i).run P w=.ok () w'/\w'.heap[n]?=some (.cells (putAt cs.toList (o+i) vs).toArray e (0,0))/\(∀ k,k≠n->w'.heap[k]?=w.heap[k]?)/\Below B w w'
 | [],_,w,cs,h,_,_=>⟨w,rfl,by rw [h];rfl,λ _ _=>rfl,Below.refl _ _⟩
 | v::vs,i,w,cs,h,hl,hv=>by
  rw [List.length_cons] at hl
  have hi:o+i < cs.size:=by omega
  have h1:=run_store (P:=P) h hi (hv v (List.mem_cons_self ..))
  have h2:=setCell_at (v:=v) (o:=o+i) h
  obtain ⟨w',r,hn,hf,hb⟩:=aEi (P:=P) (o:=o) hB vs (i+1) (w.setCell ⟨n,o+i,none⟩ v) (cs.setIfInBounds (o+i) v) h2 (by rw [Array.size_setIfInBounds];omega) (λ x hx=>hv x (List.mem_cons_of_mem _ hx))
  refine ⟨w',?_,?_,λ k hk=>(hf k hk).trans (aMM hk),(Below.setCell (Below.refl _ _) hB v).trans hb⟩
  ·show ((store ((⟨n,o,none⟩:Addr).add i) v).bind λ _=>storeCells ⟨n,o,none⟩ vs (i+1)).run P w=_
   rw [aC4,run_bind_ok h1,r]
  ·rw [hn,Array.toList_setIfInBounds]
   rfl
theorem All2.of_get {α β:Type} {R:α->β->Prop}:∀ {l:List α} {m:List β},l.length=m.length->(∀ (i:Nat) a b,l[i]?=some a->m[i]?=some b->R a b)->All2 R l m
 | [],[],_,_=>trivial
 | a::l,b::m,h,g=>⟨g 0 a b rfl rfl,All2.of_get (by simpa using h) λ i x y hx hy=>g (i+1) x y (by simpa using hx) (by simpa using hy)⟩
 | [],_::_,h,_=>by simp at h
 | _::_,[],h,_=>by simp at h
structure Bs where
 w0:World
 H0:Hp
 lo:Nat
 d0:List Dyn
 dn:Nat
def BlkAt (c:Cx) (w:World) (b:Blk) (n:Nat):Prop:=∃ cs:Array Value,w.heap[n]?=some (.cells cs b.elem (0,0))/\All2 (S.at c) b.cells cs.toList
def OwnAt (H:Hp) (w:World) (e:TypeId) (s:Nat) (v:Value) (d:D):Prop:=∃ n ds xs,d=.l n ds/\w.ownsRow 0 e s v n xs/\All2 (D.at H) ds xs
def ownB (c:Cx) (y:Dyn):Option Nat:=if y.live then (c.δ[y.h]?).bind Value.ownBlock else none
structure DM (B:Bs) (c:Cx) (ds:List Dyn) (w:World):Prop where
 on:∀ y ∈ ds,y.live=true->∃ v d,c.δ[y.h]?=some v/\c.env[y.cv]?=some d/\0 < y.s/\OwnAt c.H w y.e y.s v d
 free:∀ y ∈ ds,∀ g,ownB c y=some g->g ∉ c.ρ/\∀ o,c.H g o=none
 apart:∀ (i j:Nat) (x y:Dyn) (g:Nat),i≠j->ds[i]?=some x->ds[j]?=some y->ownB c x=some g->ownB c y≠some g
 base:∀ (i:Nat) (y:Dyn) (g:Nat),B.d0.length<=i->ds[i]?=some y->ownB c y=some g->B.w0.heap.size<=g
 pre:B.d0 <+: ds
def Holds (h:Hp) (w:World):Prop:=∀ b o x,h b o=some x->w.cell? ⟨b,o,none⟩=some x
structure M (B:Bs) (c:Cx) (st:St) (a:Act) (w:World):Prop where
 tm:All2 (V.at (S.at c)) st.tmps a.tmps.toList
 df:a.defers=[]
 nv:c.env.length=st.nv
 bl:All2 (BlkAt c w) st.blocks c.ρ
 nd:c.ρ.Nodup
 be:Below B.w0.heap.size B.w0 w
 wr:∀ i n,B.lo<=i->c.ρ[i]?=some n->B.w0.heap.size<=n
 hp:∀ b o x,c.H b o=some x->w.cell? ⟨b,o,none⟩=some x/\b ∉ c.ρ
 hn:∀ b o x,c.H b o=some x->B.w0.heap.size<=b\/B.H0 b o=some x
 kn:∀ p ∈ st.known,c.env[p.1]?=some (.v (.bool p.2))
 is:∀ p ∈ st.ints,∃ k,c.env[p.1]?=some (.v (.int k p.2))
 dl:c.δ.length=st.nd
 dt:∀ v ∈ c.δ,∀ g,v.ownBlock=some g->g < w.heap.size
 dr:∀ v ∈ c.δ,∀ g,v.ownBlock=some g->g ∉ c.ρ
 wd:∀ (i:Nat) (v:Value) (g:Nat),B.dn<=i->c.δ[i]?=some v->v.ownBlock=some g->B.w0.heap.size<=g
 dy:DM B c st.dyns w
theorem OwnAt.of {H:Hp} {w w':World} {e:TypeId} {s:Nat} {v:Value} {d:D} (h:OwnAt H w e s v d) (hb:∀ g,v.ownBlock=some g->w'.heap[g]?=w.heap[g]?):OwnAt H w' e s v d:=by
 obtain ⟨n,ds,xs,e1,⟨e2,e3⟩,e4⟩:=h
 refine ⟨n,ds,xs,e1,⟨e2,e3.imp id ?_⟩,e4⟩
 rintro ⟨g,cap,cur,rfl,h1,h2,h3⟩
 exact ⟨g,cap,cur,rfl,h1,(hb g rfl).trans h2,h3⟩
theorem OwnAt.mono {H H':Hp} (hH:Hp.le H H') {w:World} {e:TypeId} {s:Nat} {v:Value} {d:D}:OwnAt H w e s v d->OwnAt H' w e s v d:=
 λ ⟨n,ds,xs,e1,e2,e3⟩=>⟨n,ds,xs,e1,e2,e3.mono λ d y=>D.at_mono hH d y⟩
theorem OwnAt.lt {H:Hp} {w:World} {e:TypeId} {s:Nat} {v:Value} {d:D} {g:Nat} (h:OwnAt H w e s v d) (hg:v.ownBlock=some g):g < w.heap.size:=by
 obtain ⟨n,ds,xs,_,e2,_⟩:=h
 exact (e2.lt g hg).2
theorem aE7 {c:Cx} {y:Dyn} {g:Nat} (h:ownB c y=some g):y.live=true/\∃ v,c.δ[y.h]?=some v/\v.ownBlock=some g:=by
 unfold ownB at h
 split at h
 ·exact ⟨‹_›,Option.bind_eq_some_iff.1 h⟩
 ·cases h
theorem ownB_of {c:Cx} {y:Dyn} {v:Value} (h:y.live=true) (hv:c.δ[y.h]?=some v):ownB c y=v.ownBlock:=by
 unfold ownB
 rw [if_pos h,hv]
 rfl
theorem DM.eq {B:Bs} {c c':Cx} {ds:List Dyn} {w:World} (h:DM B c ds w) (he:c.δ <+: c'.δ) {y:Dyn} (hy:y ∈ ds):ownB c' y=ownB c y:=by
 cases hl:y.live with
 | false =>
  unfold ownB
  rw [hl]
  rfl
 | true =>
  obtain ⟨v,d,h1,_⟩:=h.on y hy hl
  rw [ownB_of hl h1,ownB_of hl (aAn he h1)]
theorem DM.mono {B:Bs} {c c':Cx} {ds:List Dyn} {w w':World} (h:DM B c ds w) (he:Ext c c') (hb:∀ y ∈ ds,∀ g,ownB c y=some g->w'.heap[g]?=w.heap[g]?) (hf:∀ y ∈ ds,∀ g,ownB c y=some g->g ∉ c'.ρ/\∀ o,c'.H g o=none):DM B c' ds w' where
 on:=λ y hy hl=>by
  obtain ⟨v,d,h1,h2,h3,h4⟩:=h.on y hy hl
  exact ⟨v,d,aAn he.δ h1,aAn he.env h2,h3,(h4.of λ g hg=>hb y hy g ((ownB_of hl h1).trans hg)).mono he.H⟩
 free:=λ y hy g hg=>hf y hy g ((h.eq he.δ hy) ▸ hg)
 apart:=λ i j x y g hij hx hy hg=>by
  rw [h.eq he.δ (List.mem_of_getElem? hy)]
  rw [h.eq he.δ (List.mem_of_getElem? hx)] at hg
  exact h.apart i j x y g hij hx hy hg
 base:=λ i y g hi hy hg=>by
  rw [h.eq he.δ (List.mem_of_getElem? hy)] at hg
  exact h.base i y g hi hy hg
 pre:=h.pre
theorem aCQ {w:World} {b o:Nat} {x:Value} (h:w.cell? ⟨b,o,none⟩=some x):b < w.heap.size:=by
 rcases Nat.lt_or_ge b w.heap.size with g | g
 ·exact g
 ·unfold World.cell? at h
  rw [Array.getElem?_eq_none g] at h
  cases h
theorem heap_lt {w:World} {b:Nat} {x:Obj} (h:w.heap[b]?=some x):b < w.heap.size:=(Array.getElem?_eq_some_iff.1 h).1
theorem aK3 {c:Cx}:∀ {l:List Value} {ss:List S},aIZ l=some ss->All2 (S.at c) ss l
 | [],ss,h=>by
  obtain rfl:=Option.some.inj h
  trivial
 | v::l,ss,h=>by
  unfold aIZ at h
  split at h
  ·rename_i hv
   obtain ⟨r,hr,rfl⟩:=Option.map_eq_some_iff.1 h
   exact ⟨⟨rfl,hv⟩,aK3 hr⟩
  ·cases h
theorem aK4 {c:Cx}:∀ l:List Value,l.all aAS=true->All2 (S.at c) (l.map .const) l
 | [],_=>trivial
 | v::l,h=>by
  rw [List.all_cons,Bool.and_eq_true] at h
  exact ⟨⟨rfl,h.1⟩,aK4 l h.2⟩
theorem aK5 {c:Cx}:∀ l:List Value,l.all aAS=true->All2 (V1.at (S.at c)) (l.map λ v=>.one (.const v)) l
 | [],_=>trivial
 | v::l,h=>by
  rw [List.all_cons,Bool.and_eq_true] at h
  exact ⟨⟨rfl,h.1⟩,aK5 l h.2⟩
theorem aOm {c:Cx} {x:Value} {v:V S} (h:ofValue x=some v):v.at (S.at c) x:=by
 cases x with
 | agg cs =>
  have h:(if cs.toList.all aAS then some (V.v1 (.agg (cs.toList.map .const))) else none)=some v:=h
  split at h
  ·rename_i hc
   obtain rfl:=Option.some.inj h
   exact ⟨cs.toList,aK4 _ hc,by simp⟩
  ·cases h
 | tuple cs =>
  have h:(if cs.toList.all aAS then some (V.tup (cs.toList.map λ v=>.one (.const v))) else none)=some v:=h
  split at h
  ·rename_i hc
   obtain rfl:=Option.some.inj h
   exact ⟨cs.toList,aK5 _ hc,by simp⟩
  ·cases h
 | _ =>
  obtain rfl:=Option.some.inj h
  exact ⟨rfl,rfl⟩
theorem aCr {c:Cx}:V.at (S.at c) aFX undef:=⟨[],trivial,rfl⟩
section
variable {B:Bs} {w w':World} {c c':Cx} {st:St} {a:Act}
theorem BlkAt.mono (h:Ext c c') {b:Blk} {n:Nat}:BlkAt c w b n->BlkAt c' w b n:=λ ⟨cs,e,g⟩=>⟨cs,e,g.mono (S.at_mono h)⟩
theorem M.get (m:M B c st a w) {x:Operand} {v:V S} (h:st.get x=some v):v.at (S.at c) (a.eval x):=by
 cases x with
 | tmp t =>
  obtain ⟨y,hy,hv⟩:=m.tm.get (show st.tmps[t]?=some v from h)
  have:a.eval (.tmp t)=y:=by
   show a.tmps.getD t undef=y
   rw [Array.getElem?_toList] at hy
   rw [Array.getD_eq_getD_getElem?,hy]
   rfl
  rw [this]
  exact hv
 | const x=>exact aOm h
 | global g=>cases h
 | func f =>
  obtain rfl:=Option.some.inj h
  exact ⟨[],trivial,rfl⟩
theorem aOn {v:V S} {x1:V1 S} {x:Value} (h:v.v1?=some x1) (hv:v.at (S.at c) x):x1.at (S.at c) x:=by
 cases v with
 | v1 y =>
  obtain rfl:=Option.some.inj h
  exact hv
 | tup _=>cases h
 | junk=>cases h
theorem M.get1 (m:M B c st a w) {x:Operand} {v:V1 S} (h:st.get1 x=some v):v.at (S.at c) (a.eval x):=by
 obtain ⟨y,hy,h⟩:=Option.bind_eq_some_iff.1 h
 exact aOn h (m.get hy)
theorem M.put (m:M B c st a w) {v:V S} {x:Value} (hv:v.at (S.at c) x) (d:Option Tmp):M B c (st.put d v) (a.put d x) w:=by
 cases d with
 | none=>exact m
 | some d =>
  refine { m with tm:=?_ }
  show All2 _ (st.tmps.set d v) (a.tmps.setIfInBounds d x).toList
  rw [Array.toList_setIfInBounds]
  exact All2.set d m.tm hv
theorem M.own_lt (m:M B c st a w) {y:Dyn} (_:y ∈ st.dyns) {g:Nat} (hg:ownB c y=some g):g < w.heap.size:=by
 obtain ⟨_,v,h1,h2⟩:=aE7 hg
 exact m.dt v (List.mem_of_getElem? h1) g h2
theorem M.grow (m:M B c st a w) (h:Below w.heap.size w w'):M B c st a w':=by
 have hs:B.w0.heap.size<=w.heap.size:=m.be.size
 refine { m with bl:=m.bl.mono ?_,be:=m.be.trans (h.mono hs),hp:=λ b o x e=>⟨?_,(m.hp b o x e).2⟩,dt:=λ v hv g hg=>Nat.lt_of_lt_of_le (m.dt v hv g hg) h.size,dy:=m.dy.mono (Ext.refl _) (λ y hy g hg=>h.block g (m.own_lt hy hg)) m.dy.free }
 ·rintro b n ⟨cs,e,g⟩
  exact ⟨cs,(h.block n (heap_lt e)).trans e,g⟩
 ·have e1:=(m.hp b o x e).1
  rw [h.cell (p:=⟨b,o,none⟩) (aCQ e1)]
  exact e1
theorem M.bind (m:M B c st a w) (ds:List D):M B ⟨c.env++ds,c.ρ,c.H,c.δ⟩ { st with nv:=st.nv+ds.length } a w:=by
 have e:Ext c ⟨c.env++ds,c.ρ,c.H,c.δ⟩:=⟨List.prefix_append _ _,List.prefix_refl _,Hp.le.refl _,List.prefix_refl _⟩
 exact {
  tm:=m.tm.mono (V.at_mono (S.at_mono e))
  df:=m.df
  nv:=by
   show (c.env++ds).length=st.nv+ds.length
   rw [List.length_append,m.nv]
  bl:=m.bl.mono λ _ _=>BlkAt.mono e
  nd:=m.nd
  be:=m.be
  wr:=m.wr
  hp:=m.hp
  hn:=m.hn
  kn:=λ p hp=>aAn e.env (m.kn p hp)
  is:=λ p hp=>let ⟨k,h⟩:=m.is p hp;⟨k,aAn e.env h⟩
  dl:=m.dl
  dt:=m.dt
  dr:=m.dr
  wd:=m.wd
  dy:=m.dy.mono e (λ _ _ _ _=>rfl) m.dy.free }
theorem Ext.bind (c:Cx) (ds:List D):Ext c ⟨c.env++ds,c.ρ,c.H,c.δ⟩:=⟨List.prefix_append _ _,List.prefix_refl _,Hp.le.refl _,List.prefix_refl _⟩
theorem M.more (m:M B c st a w) {h:Hp} (hl:Hp.le c.H h) (hw:∀ b o x,h b o=some x->w.cell? ⟨b,o,none⟩=some x/\b ∉ c.ρ) (hn:∀ b o x,h b o=some x->B.w0.heap.size<=b\/c.H b o=some x) (hf:∀ y ∈ st.dyns,∀ g,ownB c y=some g->∀ o,h g o=none):M B ⟨c.env,c.ρ,h,c.δ⟩ st a w:=by
 have e:Ext c ⟨c.env,c.ρ,h,c.δ⟩:=⟨List.prefix_refl _,List.prefix_refl _,hl,List.prefix_refl _⟩
 exact {
  tm:=m.tm.mono (V.at_mono (S.at_mono e))
  df:=m.df
  nv:=m.nv
  bl:=m.bl.mono λ _ _=>BlkAt.mono e
  nd:=m.nd
  be:=m.be
  wr:=m.wr
  hp:=hw
  hn:=λ b o x g=>(hn b o x g).elim .inl (m.hn b o x)
  kn:=m.kn
  is:=m.is
  dl:=m.dl
  dt:=m.dt
  dr:=m.dr
  wd:=m.wd
  dy:=m.dy.mono e (λ _ _ _ _=>rfl) λ y hy g hg=>⟨(m.dy.free y hy g hg).1,hf y hy g hg⟩ }
theorem M.rho_lt (m:M B c st a w) {i n:Nat} (h:c.ρ[i]?=some n):n < w.heap.size:=by
 have hi:i < st.blocks.length:=by
  rw [m.bl.length]
  exact (List.getElem?_eq_some_iff.1 h).1
 obtain ⟨n',h',cs,e,_⟩:=m.bl.get (i:=i) (List.getElem?_eq_getElem hi)
 obtain rfl:n'=n:=Option.some.inj (h'.symm.trans h)
 exact heap_lt e
theorem M.new (m:M B c st a w) {ss:List S} {cs:Array Value} {e:TypeId} (hs:All2 (S.at c) ss cs.toList) :
  M B ⟨c.env,c.ρ++[w.heap.size],c.H,c.δ⟩ (st.new ss e) a (w.alloc (.cells cs e)):=by
 have ex:Ext c ⟨c.env,c.ρ++[w.heap.size],c.H,c.δ⟩:=⟨List.prefix_refl _,List.prefix_append _ _,Hp.le.refl _,List.prefix_refl _⟩
 have hb:Below w.heap.size w (w.alloc (.cells cs e)):=(Below.refl _ _).alloc (Nat.le_refl _) _
 have g:=m.grow hb
 exact {
  tm:=g.tm.mono (V.at_mono (S.at_mono ex))
  df:=g.df
  nv:=g.nv
  bl:=(g.bl.mono λ _ _=>BlkAt.mono ex).app ⟨⟨cs,by
   show (w.heap.push _)[w.heap.size]?=_
   rw [Array.getElem?_push_size],hs.mono (S.at_mono ex)⟩,trivial⟩
  nd:=by
   rw [List.nodup_append]
   refine ⟨g.nd,List.nodup_cons.2 ⟨List.not_mem_nil,List.nodup_nil⟩,?_⟩
   intro x hx y hy
   rw [List.mem_singleton] at hy
   obtain ⟨i,hi⟩:=List.getElem?_of_mem hx
   have:=m.rho_lt hi
   omega
  be:=g.be
  wr:=λ i n hi hn=>by
   rcases Nat.lt_or_ge i c.ρ.length with h | h
   ·rw [List.getElem?_append_left h] at hn
    exact m.wr i n hi hn
   ·rw [List.getElem?_append_right h] at hn
    have h0:i - c.ρ.length=0:=by
     have:=(List.getElem?_eq_some_iff.1 hn).1
     simp at this
     omega
    rw [h0] at hn
    obtain rfl:w.heap.size=n:=by simpa using hn
    exact m.be.size
  hp:=λ b o x h=>by
   refine ⟨(g.hp b o x h).1,λ hm=>?_⟩
   rcases List.mem_append.1 hm with hm | hm
   ·exact (m.hp b o x h).2 hm
   ·rw [List.mem_singleton] at hm
    have:=aCQ (m.hp b o x h).1
    omega
  hn:=g.hn
  kn:=g.kn
  is:=g.is
  dl:=g.dl
  dt:=g.dt
  dr:=λ v hv q hq hm=>by
   rcases List.mem_append.1 hm with hm | hm
   ·exact m.dr v hv q hq hm
   ·rw [List.mem_singleton] at hm
    have:=m.dt v hv q hq
    omega
  wd:=g.wd
  dy:=g.dy.mono ex (λ _ _ _ _=>rfl) λ y hy q hq=>⟨λ hm=>by
   rcases List.mem_append.1 hm with hm | hm
   ·exact (m.dy.free y hy q hq).1 hm
   ·rw [List.mem_singleton] at hm
    have:=m.own_lt hy hq
    omega,(m.dy.free y hy q hq).2⟩ }
theorem M.rebase (m:M B c st a w):M ⟨w,c.H,st.blocks.length,st.dyns,st.nd⟩ c st a w:=
 { m with
  be:=Below.refl _ _
  wr:=λ i n hi hn=>by
   have h1:=(List.getElem?_eq_some_iff.1 hn).1
   have h2:=m.bl.length
   have h3:st.blocks.length<=i:=hi
   omega
  hn:=λ _ _ _ h=>.inr h
  wd:=λ i v g hi hv=>by
   have h1:=(List.getElem?_eq_some_iff.1 hv).1
   have h2:=m.dl
   have h3:st.nd<=i:=hi
   omega
  dy:={ m.dy with
   base:=λ i y g hi hy=>by
    have h1:=(List.getElem?_eq_some_iff.1 hy).1
    have h3:st.dyns.length<=i:=hi
    omega
   pre:=List.prefix_refl _ } }
theorem M.unbase {st':St} {a':Act} (m:M B c st a w) (m':M ⟨w,c.H,st.blocks.length,st.dyns,st.nd⟩ c' st' a' w') (h:Ext c c'):M B c' st' a' w':=
 { m' with
  be:=m.be.trans (m'.be.mono m.be.size)
  wr:=λ i n hi hn=>by
   rcases Nat.lt_or_ge i c.ρ.length with g | g
   ·obtain ⟨t,ht⟩:=h.ρ
    rw [<- ht,List.getElem?_append_left g] at hn
    exact m.wr i n hi hn
   ·have h1:w.heap.size<=n:=m'.wr i n (by show st.blocks.length<=i;rw [m.bl.length];exact g) hn
    have h2:B.w0.heap.size<=w.heap.size:=m.be.size
    omega
  hn:=λ b o x e=>by
   have h2:B.w0.heap.size<=w.heap.size:=m.be.size
   rcases m'.hn b o x e with h1 | h1
   ·have h1:w.heap.size<=b:=h1
    exact .inl (Nat.le_trans h2 h1)
   ·exact m.hn b o x h1
  wd:=λ i v g hi hv hg=>by
   rcases Nat.lt_or_ge i c.δ.length with q | q
   ·obtain ⟨t,ht⟩:=h.δ
    rw [<- ht,List.getElem?_append_left q] at hv
    exact m.wd i v g hi hv hg
   ·have h1:w.heap.size<=g:=m'.wd i v g (by show st.nd<=i;rw [<- m.dl];exact q) hv hg
    have h2:B.w0.heap.size<=w.heap.size:=m.be.size
    omega
  dy:={ m'.dy with
   base:=λ i y g hi hy hg=>by
    rcases Nat.lt_or_ge i st.dyns.length with q | q
    ·obtain ⟨t,ht⟩:=m'.dy.pre
     have ht:st.dyns++t=st'.dyns:=ht
     rw [<- ht,List.getElem?_append_left q] at hy
     rw [m.dy.eq h.δ (List.mem_of_getElem? hy)] at hg
     exact m.dy.base i y g hi hy hg
    ·have h1:w.heap.size<=g:=m'.dy.base i y g q hy hg
     have h2:B.w0.heap.size<=w.heap.size:=m.be.size
     omega
   pre:=m.dy.pre.trans m'.dy.pre } }
theorem M.own (m:M B c st a w) {row:Option Nat} {ds:List Dyn} {nv nd:Nat} (he:Ext c c') (hρ:c'.ρ=c.ρ) (hH:c'.H=c.H) (hnv:c'.env.length=nv) (hnd:c'.δ.length=nd)
  (hb:∀ k,k < w.heap.size->some k≠row->w'.heap[k]?=w.heap[k]?) (hr:∀ g,row=some g->g ∉ c.ρ/\∀ o,c.H g o=none) (be:Below B.w0.heap.size B.w0 w')
  (dt:∀ v ∈ c'.δ,∀ g,v.ownBlock=some g->g < w'.heap.size) (dr:∀ v ∈ c'.δ,∀ g,v.ownBlock=some g->g ∉ c.ρ) (wd:∀ (i:Nat) (v:Value) (g:Nat),B.dn<=i->c'.δ[i]?=some v->v.ownBlock=some g->B.w0.heap.size<=g) (dy:DM B c' ds w'):M B c' { st with nv:=nv,nd:=nd,dyns:=ds } a w' where
 tm:=m.tm.mono (V.at_mono (S.at_mono he))
 df:=m.df
 nv:=hnv
 bl:=by
  show All2 (BlkAt c' w') st.blocks c'.ρ
  rw [hρ]
  refine (All2.of_get m.bl.length ?_)
  intro i b n hi hn
  obtain ⟨n',hn',cs,e,g⟩:=m.bl.get hi
  obtain rfl:n'=n:=Option.some.inj (hn'.symm.trans hn)
  exact ⟨cs,(hb n' (heap_lt e) λ h=>(hr n' h.symm).1 (List.mem_of_getElem? hn)).trans e,g.mono (S.at_mono he)⟩
 nd:=hρ ▸ m.nd
 be:=be
 wr:=λ i n hi hn=>m.wr i n hi (hρ ▸ hn)
 hp:=λ b o x h=>by
  rw [hH] at h
  obtain ⟨h1,h2⟩:=m.hp b o x h
  refine ⟨?_,hρ ▸ h2⟩
  rw [World.cell?_of_block (w:=w) (w':=w') (a:=⟨b,o,none⟩) (hb b (aCQ h1) λ e=>by
   rw [(hr b e.symm).2 o] at h
   cases h)]
  exact h1
 hn:=λ b o x h=>m.hn b o x (hH ▸ h)
 kn:=λ p hp=>aAn he.env (m.kn p hp)
 is:=λ p hp=>let ⟨k,h⟩:=m.is p hp;⟨k,aAn he.env h⟩
 dl:=hnd
 dt:=dt
 dr:=hρ ▸ dr
 wd:=wd
 dy:=dy
end
end Go.Proofs.YtjefbecmeobegaaGreatDoor.Sx
namespace Go.Proofs.YtjefbecmeobegaaGreatDoor.Sx
open Go Go.RowKit YtjefbecmeobegaaGreatDoorW.PrintLast
section
variable {B:Bs} {w:World} {c:Cx} {st:St} {a:Act} {P:Program}
theorem aNr {t:TypeId} {ss:List S} {o:Nat} {v:V1 S} {cs:Array Value} (h:partOf P t ss o=some v) (hs:All2 (S.at c) ss cs.toList) :
  ∃ x,quiet P (part t cs o)=some x/\v.at (S.at c) x:=by
 unfold partOf at h
 have hl:=hs.length
 split at h
 ·rename_i n h1 h2
  split at h
  ·rename_i hn
   obtain rfl:=Option.some.inj h
   refine ⟨.agg (cs.extract o (o+n)),?_,((cs.toList.drop o).take n),(hs.drop o).take n,?_⟩
   ·exact aAa h1 (aAa h2 rfl)
   ·congr 1
    apply Array.ext'
    rw [Array.toList_extract,List.extract_eq_take_drop]
    simp
  ·cases h
 ·rename_i h1
  obtain ⟨s,hs1,rfl⟩:=Option.map_eq_some_iff.1 h
  obtain ⟨x,hx,hr⟩:=hs.get hs1
  refine ⟨x,?_,hr⟩
  refine aAa h1 ?_
  have:cs[o]?=some x:=by rw [<- Array.getElem?_toList];exact hx
  show quiet P (match cs[o]? with | some v => Pure.pure v | none => stuck "part: no such cell") = some x
  rw [this]
  rfl
 ·cases h
theorem aJg {v:V1 S} {b o:Nat} {x:Value} (h:aEQ v=some (b,o)) (hv:v.at (S.at c) x):∃ n,c.ρ[b]?=some n/\x=.pointer (some ⟨n,o,none⟩):=by
 unfold aEQ at h
 split at h
 ·obtain ⟨rfl,rfl⟩:=Prod.mk.injEq .. ▸ Option.some.inj h
  exact hv
 ·cases h
theorem aQF {v:V1 S} {sh:Nat->S} {x:Value} (h:aJG v=some sh) (hv:v.at (S.at c) x):∃ n o,x=.pointer (some ⟨n,o,none⟩)/\∀ q,(sh q).at c (.pointer (some ⟨n,o+q,none⟩)):=by
 unfold aJG at h
 split at h
 ·obtain rfl:=Option.some.inj h
  obtain ⟨n,hn,e⟩:=hv
  exact ⟨n,_,e,λ q=>⟨n,hn,rfl⟩⟩
 ·obtain rfl:=Option.some.inj h
  obtain ⟨b,n,m,i,q,h1,h2,h3,e⟩:=hv
  exact ⟨b,_,e,λ q'=>⟨b,n,m,i,q,h1,h2,h3,by rw [Nat.add_assoc]⟩⟩
 ·obtain rfl:=Option.some.inj h
  obtain ⟨n,ds,b,e0,x0,q,h1,h2,h3,h4,e⟩:=hv
  exact ⟨b,_,e,λ q'=>⟨n,ds,b,e0,x0,q,h1,h2,h3,h4,by rw [Nat.add_assoc,Nat.add_assoc]⟩⟩
 ·cases h
theorem aDU {α:Type} {i:Nat} {b:α}:∀ {l:List (Nat × α)},l.lookup i=some b->(i,b) ∈ l
 | [],h=>by cases h
 | (j,c)::l,h=>by
  rw [List.lookup_cons] at h
  split at h
  ·rename_i e
   have e:i=j:=by simpa using e
   rw [<- Option.some.inj h,e]
   exact List.mem_cons_self ..
  ·exact List.mem_cons_of_mem _ (aDU h)
theorem aLP (m:M B c st a w) {v:V1 S} {i:Int} {x:Value} (h:st.int? v=some i) (hv:v.at (S.at c) x):∃ k,x=.int k i:=by
 unfold St.int? at h
 split at h
 ·obtain rfl:=Option.some.inj h
  exact ⟨_,hv.1⟩
 ·obtain ⟨k,hk⟩:=m.is _ (aDU h)
  obtain ⟨d,hd,g⟩:=hv
  obtain rfl:D.v (.int k i)=d:=Option.some.inj (hk.symm.trans hd)
  exact ⟨k,(D.at_v.1 g).1⟩
 ·cases h
theorem aJh (m:M B c st a w) {s:TypeId} {x:Operand} {f:Nat} {v:V S} (h:aDg P st (.fieldAddr s x f)=some v):∃ y,quiet P (Instr.fieldAt s (a.eval x) f)=some y/\v.at (S.at c) y:=by
 obtain ⟨vx,hx,h⟩:=Option.bind_eq_some_iff.1 h
 obtain ⟨sh,hp,h⟩:=Option.bind_eq_some_iff.1 h
 obtain ⟨n,o,e,hsh⟩:=aQF hp (m.get1 hx)
 split at h
 ·rename_i fields hu
  obtain ⟨fd,hfd,h⟩:=Option.bind_eq_some_iff.1 h
  split at h
  ·rename_i q hq
   obtain rfl:=Option.some.inj h
   refine ⟨.pointer (some ⟨n,o+fd.offset,none⟩),?_,hsh _⟩
   rw [e]
   refine aAa hu ?_
   show quiet P (match fields[f]? with | some f=>_ | _=>_)=_
   rw [hfd]
   refine aAa (a:=⟨n,o,none⟩) rfl ?_
   refine aAa (a:=⟨n,o+fd.offset,none⟩) ?_ rfl
   refine aAa hq ?_
   rw [if_neg (Nat.succ_ne_zero q),aC4]
   rfl
  ·cases h
 ·cases h
theorem aMN (m:M B c st a w) {s:TypeId} {x:Operand} {f:Nat} {v:V S} (h:aDg P st (.field s x f)=some v):∃ y,quiet P (Instr.field s (a.eval x) f)=some y/\v.at (S.at c) y:=by
 obtain ⟨vx,hx,h⟩:=Option.bind_eq_some_iff.1 h
 have hv:=m.get1 hx
 split at h
 ·rename_i ss fields hu
  obtain ⟨fd,hfd,h⟩:=Option.bind_eq_some_iff.1 h
  obtain ⟨v1,h1,rfl⟩:=Option.map_eq_some_iff.1 h
  obtain ⟨vs,hs,e⟩:=hv
  obtain ⟨y,hy,hr⟩:=aNr (cs:=vs.toArray) h1 (by simpa using hs)
  refine ⟨y,?_,hr⟩
  rw [e]
  refine aAa hu ?_
  show quiet P (match fields[f]? with | some f=>_ | none=>_)=_
  rw [hfd]
  exact aAa (a:=vs.toArray) rfl hy
 ·cases h
theorem aJi (m:M B c st a w) {t:TypeId} {x i:Operand} {v:V S} (h:aDg P st (.indexAddr t x i)=some v):∃ y,quiet P (Instr.indexAt t (a.eval x) (a.eval i))=some y/\v.at (S.at c) y:=by
 obtain ⟨vx,hx,h⟩:=Option.bind_eq_some_iff.1 h
 obtain ⟨vi,hi,h⟩:=Option.bind_eq_some_iff.1 h
 obtain ⟨n,hn,h⟩:=Option.bind_eq_some_iff.1 h
 obtain ⟨k,ei⟩:=aLP m hn (m.get1 hi)
 have hv:=m.get1 hx
 rw [ei]
 split at h
 ·rename_i len e b o hu _ _
  split at h
  ·rename_i hr
   obtain ⟨s,hs,rfl⟩:=Option.map_eq_some_iff.1 h
   obtain ⟨q,hq,ev⟩:=hv
   refine ⟨.pointer (some ⟨q,o+n.toNat*s,none⟩),?_,q,hq,rfl⟩
   rw [ev]
   refine aAa (a:=(k,n)) rfl ?_
   refine aAa hu ?_
   refine aAa (a:=(⟨q,o,none⟩:Addr)) rfl ?_
   refine aAa (a:=((some (⟨q,o,none⟩:Addr),len,e):Option Addr × Nat × TypeId)) rfl ?_
   refine aAa hu ?_
   dsimp only
   rw [if_pos hr]
   refine aAa hs ?_
   rw [aC4]
   rfl
  ·cases h
 ·rename_i e b o len cap hu _ _
  split at h
  ·rename_i hr
   obtain ⟨s,hs,rfl⟩:=Option.map_eq_some_iff.1 h
   obtain ⟨q,hq,ev⟩:=hv
   refine ⟨.pointer (some ⟨q,o+n.toNat*s,none⟩),?_,q,hq,rfl⟩
   rw [ev]
   refine aAa (a:=(k,n)) rfl ?_
   refine aAa hu ?_
   refine aAa (a:=((some (⟨q,o,none⟩:Addr),len,e):Option Addr × Nat × TypeId)) rfl ?_
   refine aAa hu ?_
   dsimp only
   rw [if_pos hr]
   refine aAa hs ?_
   rw [aC4]
   rfl
  ·cases h
 ·cases h
theorem aMO (m:M B c st a w) {t:TypeId} {x i:Operand} {v:V S} (h:aDg P st (.index t x i)=some v):∃ y,quiet P (Instr.index t (a.eval x) (a.eval i))=some y/\v.at (S.at c) y:=by
 obtain ⟨vx,hx,h⟩:=Option.bind_eq_some_iff.1 h
 obtain ⟨vi,hi,h⟩:=Option.bind_eq_some_iff.1 h
 have hv:=m.get1 hx
 split at h
 ·rename_i len e ss hu _
  obtain ⟨n,hn,h⟩:=Option.bind_eq_some_iff.1 h
  obtain ⟨k,ei⟩:=aLP m hn (m.get1 hi)
  rw [ei]
  split at h
  ·rename_i hr
   obtain ⟨s,hs,h⟩:=Option.bind_eq_some_iff.1 h
   obtain ⟨v1,h1,rfl⟩:=Option.map_eq_some_iff.1 h
   obtain ⟨vs,hvs,e⟩:=hv
   obtain ⟨y,hy,hr'⟩:=aNr (cs:=vs.toArray) h1 (by simpa using hvs)
   refine ⟨y,?_,hr'⟩
   rw [e]
   refine aAa (a:=(k,n)) rfl ?_
   refine aAa hu ?_
   dsimp only
   rw [if_pos hr]
   exact aAa hs hy
  ·cases h
 ·cases h
theorem aKO (m:M B c st a w) {x:Operand} {i:Nat} {v:V S} (h:aDg P st (.extract x i)=some v):∃ y,quiet P (Instr.extract (a.eval x) i)=some y/\v.at (S.at c) y:=by
 obtain ⟨vx,hx,h⟩:=Option.bind_eq_some_iff.1 h
 have hv:=m.get hx
 split at h
 ·rename_i vs
  obtain ⟨v1,h1,rfl⟩:=Option.map_eq_some_iff.1 h
  obtain ⟨ys,hys,e⟩:=hv
  obtain ⟨y,hy,hr⟩:=hys.get h1
  refine ⟨y,?_,hr⟩
  rw [e]
  show quiet P (match ys.toArray[i]? with | some v=>Pure.pure v | none=>_)=_
  rw [show ys.toArray[i]?=some y by simpa using hy]
  rfl
 ·cases h
theorem aI9 {t:TypeId} {z:List S} (h:aHT P t=some z):∃ x,quiet P (zeroValue t)=some x/\All2 (S.at c) z x.cells.toList:=by
 obtain ⟨x,hx,h⟩:=Option.bind_eq_some_iff.1 h
 exact ⟨x,hx,aK3 h⟩
theorem aIA (m:M B c st a w):∀ {l:List (Nat × Operand)} {ps:List (Nat × V1 S)},partsOf st l=some ps->All2 (λ p q=>p.1=q.1/\p.2.at (S.at c) q.2) ps (l.map λ (i,x)=>(i,a.eval x))
 | [],ps,h=>by
  obtain rfl:=Option.some.inj h
  trivial
 | (i,x)::l,ps,h=>by
  obtain ⟨v,hv,h⟩:=Option.bind_eq_some_iff.1 h
  obtain ⟨r,hr,h⟩:=Option.bind_eq_some_iff.1 h
  obtain rfl:=Option.some.inj h
  exact ⟨⟨rfl,m.get1 hv⟩,aIA m hr⟩
theorem aLQ (off:Nat):∀ (vs:List Value) (i:Nat) (cs:Array Value),((vs.zipIdx i).foldl (λ cs (q:Value × Nat)=>cs.setIfInBounds (off+q.2) q.1) cs).toList=putAt cs.toList (off+i) vs
 | [],_,_=>rfl
 | v::vs,i,cs=>by
  rw [List.zipIdx_cons,List.foldl_cons,aLQ off vs (i+1)]
  dsimp only
  rw [Array.toList_setIfInBounds]
  rfl
theorem aJQ {place:Nat->Option (Nat × Nat)}:∀ {ps:List (Nat × V1 S)} {qs:List (Nat × Value)} {z ss:List S} {cs:Array Value},laid place z ps=some ss->All2 (λ p q=>p.1=q.1/\p.2.at (S.at c) q.2) ps qs->All2 (S.at c) z cs.toList ->
  ∃ cs',Instr.fill place cs qs=some cs'/\All2 (S.at c) ss cs'.toList
 | [],[],z,ss,cs,h,_,hz=>by
  obtain rfl:=Option.some.inj h
  exact ⟨cs,rfl,hz⟩
 | (i,v)::ps,(j,y)::qs,z,ss,cs,h,hp,hz=>by
  obtain ⟨⟨hij,hv⟩,hp⟩:=hp
  dsimp only at hij hv
  subst hij
  unfold laid at h
  unfold Instr.fill
  cases hpl:place i with
  | none =>
   rw [hpl] at h
   cases h
  | some os =>
   obtain ⟨off,size⟩:=os
   rw [hpl] at h
   dsimp only at h ⊢
   have hc:=V1.at_cells hv
   have hlen:=hc.length
   have hz':=hz.length
   have q1:y.cells.size=y.cells.toList.length:=rfl
   have q2:cs.size=cs.toList.length:=rfl
   split at h
   ·cases h
   ·rename_i hn
    rw [not_or] at hn
    obtain ⟨h1,h2⟩:=hn
    have h1:v.cells.length=size:=Decidable.not_not.1 h1
    rw [if_neg (by simp only [ne_eq,decide_not,Bool.or_eq_true,Bool.not_eq_true',decide_eq_false_iff_not,gt_iff_lt,decide_eq_true_eq];omega)]
    refine aJQ h hp ?_
    have e:=aLQ off y.cells.toList 0 cs
    rw [Nat.add_zero] at e
    have e2:(y.cells.zipIdx.foldl (λ cs (q:Value × Nat)=>cs.setIfInBounds (off+q.2) q.1) cs).toList=putAt cs.toList off y.cells.toList:=by
     rw [<- e,<- Array.foldl_toList,Array.toList_zipIdx]
    exact e2 ▸ All2.putAt off hz hc
 | [],_::_,_,_,_,_,h,_=>h.elim
 | _::_,[],_,_,_,_,h,_=>h.elim
theorem aMP (m:M B c st a w) {t:TypeId} {parts:Array (Nat × Operand)} {v:V S} (h:aDg P st (.build t parts)=some v):∃ y,quiet P (Instr.build t (parts.map λ (i,x)=>(i,a.eval x)))=some y/\v.at (S.at c) y:=by
 obtain ⟨z,hz,h⟩:=Option.bind_eq_some_iff.1 h
 obtain ⟨pl,hpl,h⟩:=Option.bind_eq_some_iff.1 h
 obtain ⟨ps,hps,h⟩:=Option.bind_eq_some_iff.1 h
 obtain ⟨ss,hss,rfl⟩:=Option.map_eq_some_iff.1 h
 obtain ⟨x,hx,hzz⟩:=aI9 (c:=c) hz
 have hp:=aIA m hps
 have hl:(parts.map λ (p:Nat × Operand)=>(p.1,a.eval p.2)).toList=parts.toList.map λ (i,x)=>(i,a.eval x):=by simp
 obtain ⟨cs',hf,hcs⟩:=aJQ hss hp hzz
 refine ⟨.agg cs',?_,cs'.toList,hcs,by simp⟩
 refine aAa hx ?_
 unfold placesOf at hpl
 split at hpl
 ·rename_i fields hu
  obtain ⟨q,hq,rfl⟩:=Option.map_eq_some_iff.1 hpl
  refine aAa hu ?_
  refine aAa hq ?_
  rw [hl]
  dsimp only
  rw [hf]
  rfl
 ·rename_i n e hu
  obtain ⟨q,hq,rfl⟩:=Option.map_eq_some_iff.1 hpl
  refine aAa hu ?_
  refine aAa hq ?_
  rw [hl]
  dsimp only
  rw [hf]
  rfl
 ·cases hpl
theorem aNs (m:M B c st a w):∀ {l:List Operand} {ps:List (Nat × Nat)},aOd st l=some ps->All2 (λ p x=>∃ n,c.ρ[p.1]?=some n/\x=Value.pointer (some ⟨n,p.2,none⟩)) ps (l.map a.eval)
 | [],ps,h=>by
  obtain rfl:=Option.some.inj h
  trivial
 | x::l,ps,h=>by
  obtain ⟨v,hv,h⟩:=Option.bind_eq_some_iff.1 h
  obtain ⟨⟨b,o⟩,hp,h⟩:=Option.bind_eq_some_iff.1 h
  obtain ⟨r,hr,h⟩:=Option.bind_eq_some_iff.1 h
  obtain rfl:=Option.some.inj h
  exact ⟨aJg hp (m.get1 hv),aNs m hr⟩
theorem aJR (m:M B c st a w) {f:Fn} {first captured:Array Operand} {v:V S} (h:aDg P st (.makeFunc f first captured)=some v):v.at (S.at c) (.func f (first.map a.eval) (captured.map a.eval)):=by
 cases f with
 | func f =>
  have h:(if first.size=0 then (aOd st captured.toList).map λ l=>V.v1 (.one (.func f l)) else none)=some v:=h
  split at h
  ·rename_i h0
   obtain ⟨l,hl,rfl⟩:=Option.map_eq_some_iff.1 h
   refine ⟨captured.toList.map a.eval,aNs m hl,?_⟩
   have:first=#[]:=Array.eq_empty_of_size_eq_zero h0
   subst this
   rw [show (captured.toList.map a.eval).toArray=captured.map a.eval from Array.ext' (by simp),Array.map_empty]
  ·cases h
 | _=>cases h
theorem aLR (m:M B c st a w) {x:Option Operand} {d n:Int} (h:aJH st x d=some n):x=none/\n=d\/∃ y k,x=some y/\a.eval y=.int k n:=by
 cases x with
 | none =>
  obtain rfl:=Option.some.inj h
  exact .inl ⟨rfl,rfl⟩
 | some y =>
  obtain ⟨v,hv,h⟩:=Option.bind_eq_some_iff.1 h
  obtain ⟨k,e⟩:=aLP m h (m.get1 hv)
  exact .inr ⟨y,k,rfl,e⟩
theorem aK6 {k:IntKind} {i:Int} {n:Nat} {code:BoundsCode} (h0:0<=i) (h1:i<=n):quiet P (Instr.sliceBound (.int k i) n code)=some i.toNat:=by
 refine aAa (a:=(k,i)) rfl ?_
 dsimp only
 rw [if_pos ⟨h0,h1⟩]
 rfl
theorem aJj {s:Bool} {len cap:Nat} {lo hi:Option Value} {l h:Int} (hl:lo=none/\l=0\/∃ k,lo=some (.int k l)) (hh:hi=none/\h=len\/∃ k,hi=some (.int k h)) (h0:0<=l) (h1:l<=h) (h2:h<=cap) :
  quiet P (Instr.sliceBounds s len cap lo hi none)=some (l.toNat,h.toNat,cap):=by
 unfold Instr.sliceBounds
 refine aAa (a:=cap) rfl ?_
 have tl:quiet P (match lo with
  | some v=>do
   let l <- Instr.sliceBound v h.toNat (if (none:Option Value).isSome then .slice3C else .sliceB)
   Pure.pure (l,h.toNat,cap)
  | none=>do
   let l <- Pure.pure 0
   Pure.pure (l,h.toNat,cap))=some (l.toNat,h.toNat,cap):=by
  rcases hl with ⟨rfl,rfl⟩ | ⟨k,rfl⟩
  ·rfl
  ·exact aAa (aK6 h0 kJ) rfl
 rcases hh with ⟨rfl,rfl⟩ | ⟨k,rfl⟩
 ·exact aAa (a:=len) rfl tl
 ·exact aAa (aK6 kJ h2) tl
theorem aMQ (m:M B c st a w) {t:TypeId} {x:Operand} {lo hi:Option Operand} {v:V S} (h:aDg P st (.slice t x lo hi none)=some v):∃ y,quiet P (Instr.sliceAt t (a.eval x) (lo.map a.eval) (hi.map a.eval) none)=some y/\v.at (S.at c) y:=by
 obtain ⟨vx,hx,h⟩:=Option.bind_eq_some_iff.1 h
 have hv:=m.get1 hx
 split at h
 ·rename_i n e b o hu
  obtain ⟨l,hl,h⟩:=Option.bind_eq_some_iff.1 h
  obtain ⟨j,hj,h⟩:=Option.bind_eq_some_iff.1 h
  split at h
  ·rename_i hr
   obtain ⟨h0,h1,h2,h3⟩:=hr
   obtain ⟨s,hs,rfl⟩:=Option.map_eq_some_iff.1 h
   obtain ⟨q,hq,ev⟩:=hv
   refine ⟨.slice (some ⟨q,o+l.toNat*s,none⟩) (j - l).toNat (n - l.toNat),?_,q,hq,rfl⟩
   rw [ev]
   refine aAa hu ?_
   refine aAa (a:=⟨q,o,none⟩) rfl ?_
   refine aAa (aJj (l:=l) (h:=j) ?_ ?_ h0 h1 h2) ?_
   ·rcases aLR m hl with ⟨rfl,e⟩ | ⟨y,k,rfl,e⟩
    ·exact .inl ⟨rfl,e⟩
    ·exact .inr ⟨k,by rw [Option.map_some,e]⟩
   ·rcases aLR m hj with ⟨rfl,e⟩ | ⟨y,k,rfl,e⟩
    ·exact .inl ⟨rfl,e⟩
    ·exact .inr ⟨k,by rw [Option.map_some,e]⟩
   ·refine aAa hs ?_
    rw [if_neg kJ,aC4,show j.toNat - l.toNat=(j - l).toNat by omega]
    rfl
  ·cases h
 ·cases h
theorem aEj {t:TypeId} {x v:Value} {args:Array Operand} {ts:Array TypeId} (ha:args.map a.eval=#[x]) (ht:ts=#[t]) (h:quiet P (Builtin.len_ #[t] t #[x])=some v) {o:Oper} (ho:o.op=.call { callee:=.builtin .len,args:=args,argTypes:=ts }) :
  (execOp a.eval o).run P w=.ok (.value v) w:=by
 unfold execOp
 rw [ho]
 subst ht
 dsimp only [resolve]
 rw [ha]
 exact aAY w h
theorem aMR (m:M B c st a w) {o:Oper} {v:V S} (h:aDg P st o.op=some v):∃ y,(∀ w,(execOp a.eval o).run P w=.ok (.value y) w)/\v.at (S.at c) y:=by
 cases hop:o.op
 all_goals rw [hop] at h
 all_goals (try cases h;done)
 case move x =>
  refine ⟨_,λ w=>?_,m.get h⟩
  unfold execOp
  rw [hop]
  rfl
 case assign x =>
  refine ⟨_,λ w=>?_,m.get h⟩
  unfold execOp
  rw [hop]
  rfl
 case build t parts =>
  obtain ⟨y,hy,hv⟩:=aMP m h
  refine ⟨y,λ w=>?_,hv⟩
  unfold execOp
  rw [hop]
  exact aAY w hy
 case nilCheck x =>
  obtain ⟨vx,hx,h⟩:=Option.bind_eq_some_iff.1 h
  have hv:=m.get1 hx
  refine ⟨a.eval x,λ w=>?_,?_⟩
  ·unfold execOp
   rw [hop]
   dsimp only at h ⊢
   split at h
   ·obtain ⟨n,_,e⟩:=hv
    rw [e]
    rfl
   ·obtain ⟨vs,_,e⟩:=hv
    rw [e]
    rfl
   ·obtain ⟨_,_,_,_,_,_,_,_,e⟩:=hv
    rw [e]
    rfl
   ·obtain ⟨_,_,_,_,_,_,_,_,_,_,e⟩:=hv
    rw [e]
    rfl
   ·cases h
  ·split at h
   ·obtain rfl:=Option.some.inj h
    exact hv
   ·obtain rfl:=Option.some.inj h
    exact hv
   ·obtain rfl:=Option.some.inj h
    exact hv
   ·obtain rfl:=Option.some.inj h
    exact hv
   ·cases h
 case fieldAddr s x f =>
  obtain ⟨y,hy,hv⟩:=aJh m h
  refine ⟨y,λ w=>?_,hv⟩
  unfold execOp
  rw [hop]
  exact aAY w hy
 case field s x f =>
  obtain ⟨y,hy,hv⟩:=aMN m h
  refine ⟨y,λ w=>?_,hv⟩
  unfold execOp
  rw [hop]
  exact aAY w hy
 case indexAddr t x i =>
  obtain ⟨y,hy,hv⟩:=aJi m h
  refine ⟨y,λ w=>?_,hv⟩
  unfold execOp
  rw [hop]
  exact aAY w hy
 case index t x i =>
  obtain ⟨y,hy,hv⟩:=aMO m h
  refine ⟨y,λ w=>?_,hv⟩
  unfold execOp
  rw [hop]
  exact aAY w hy
 case extract x i =>
  obtain ⟨y,hy,hv⟩:=aKO m h
  refine ⟨y,λ w=>?_,hv⟩
  unfold execOp
  rw [hop]
  exact aAY w hy
 case makeFunc f first captured =>
  refine ⟨_,λ w=>?_,aJR m h⟩
  unfold execOp
  rw [hop]
  rfl
 case slice t x lo hi mx =>
  cases mx with
  | some _=>cases h
  | none =>
   obtain ⟨y,hy,hv⟩:=aMQ m h
   refine ⟨y,λ w=>?_,hv⟩
   unfold execOp
   rw [hop]
   exact aAY w hy
 case call q =>
  obtain ⟨callee,args,ts⟩:=q
  cases callee with
  | builtin b =>
   cases b
   all_goals (try cases h;done)
   case len =>
    have h:(match args.toList,ts.toList with
     | [x],[t]=>(st.get1 x).bind λ v=>match v,quiet P (underlying t) with
      | .one (.slice _ _ n _),some (.slice _)=>some (V.v1 (.one (.const (.int .i64 n))))
      | .one (.const (.slice none n _)),some (.slice _)=>some (.v1 (.one (.const (.int .i64 n))))
      | _,some (.array n _)=>some (.v1 (.one (.const (.int .i64 n))))
      | _,_=>none
     | _,_=>none)=some v:=h
    split at h
    ·rename_i x t hx ht
     obtain ⟨v1,h1,h⟩:=Option.bind_eq_some_iff.1 h
     have hv:=m.get1 h1
     have ea:args.map a.eval=#[a.eval x]:=by
      apply Array.ext'
      rw [Array.toList_map,hx]
      rfl
     have et:ts=#[t]:=by
      apply Array.ext'
      rw [ht]
     split at h
     ·rename_i b o n k e hu
      obtain rfl:=Option.some.inj h
      obtain ⟨q,hq,ev⟩:=hv
      refine ⟨.int .i64 n,λ w=>aEj ea et ?_ hop,⟨rfl,rfl⟩⟩
      rw [ev]
      exact aAa hu rfl
     ·rename_i n k e hu
      obtain rfl:=Option.some.inj h
      have ev:a.eval x=.slice none n k:=hv.1
      refine ⟨.int .i64 n,λ w=>aEj ea et ?_ hop,⟨rfl,rfl⟩⟩
      rw [ev]
      exact aAa hu rfl
     ·rename_i n e hu
      obtain rfl:=Option.some.inj h
      refine ⟨.int .i64 n,λ w=>aEj ea et ?_ hop,⟨rfl,rfl⟩⟩
      exact aAa hu rfl
     ·cases h
    ·cases h
  | value _=>cases h
  | invoke _ _=>cases h
end
end Go.Proofs.YtjefbecmeobegaaGreatDoor.Sx
namespace Go.Proofs.YtjefbecmeobegaaGreatDoor.Sx
open Go Go.RowKit YtjefbecmeobegaaGreatDoorW.PrintLast
section
variable {B:Bs} {w:World} {c:Cx} {st:St} {a:Act} {P:Program}
theorem aLS (m:M B c st a w):∀ {l:List Operand} {vs:List (V1 S)},aFE st l=some vs->All2 (V1.at (S.at c)) vs (l.map a.eval)
 | [],vs,h=>by
  obtain rfl:=Option.some.inj h
  trivial
 | x::l,vs,h=>by
  obtain ⟨v,hv,h⟩:=Option.bind_eq_some_iff.1 h
  obtain ⟨r,hr,h⟩:=Option.bind_eq_some_iff.1 h
  obtain rfl:=Option.some.inj h
  exact ⟨m.get1 hv,aLS m hr⟩
theorem aNt (m:M B c st a w):∀ {l:List Operand} {vs:List (V S)},aQC st l=some vs->All2 (V.at (S.at c)) vs (l.map a.eval)
 | [],vs,h=>by
  obtain rfl:=Option.some.inj h
  trivial
 | x::l,vs,h=>by
  obtain ⟨v,hv,h⟩:=Option.bind_eq_some_iff.1 h
  obtain ⟨r,hr,h⟩:=Option.bind_eq_some_iff.1 h
  obtain rfl:=Option.some.inj h
  exact ⟨m.get hv,aNt m hr⟩
theorem aNu {h:Hp} {d:D} {y v:Value} (hd:D.at h d y) (hv:d.value=some v):y=v:=by
 cases d with
 | v x=>exact (D.at_v.1 hd).1.trans (Option.some.inj hv)
 | l _ _=>cases hv
theorem aH1 {α:Type} {f:α->Option Value} {R:α->Value->Prop} (hf:∀ a y v,R a y->f a=some v->y=v):∀ {l:List α} {ys vs:List Value},All2 R l ys->aAl f l=some vs->ys=vs
 | [],[],vs,_,e=>Option.some.inj e
 | a::l,y::ys,vs,h,e=>by
  unfold aAl at e
  obtain ⟨x,hx,e⟩:=Option.bind_eq_some_iff.1 e
  obtain ⟨r,hr,e⟩:=Option.bind_eq_some_iff.1 e
  rw [<- Option.some.inj e,hf a y x h.1 hx,aH1 hf h.2 hr]
 | [],_::_,_,h,_=>h.elim
 | _::_,[],_,h,_=>h.elim
theorem aQG {h:Hp} {d:V1 D} {y v:Value} (hd:d.at (D.at h) y) (hv:d.value=some v):y=v:=by
 cases d with
 | one d=>exact aNu hd hv
 | agg ds =>
  obtain ⟨vs,hvs,e⟩:=hd
  obtain ⟨xs,hx,hv⟩:=Option.bind_eq_some_iff.1 hv
  rw [e,<- Option.some.inj hv,aH1 (R:=D.at h) (λ _ _ _=>aNu) hvs hx]
theorem aQH (op:BinOp) (t:TypeId) (x y:Operand) (u v:Value):eqGuard op t x y u v=eqGuard op t (aB6 (aJI x || aJI y)) (aB6 (aJI x || aJI y)) u v:=by
 unfold eqGuard
 cases u<;>cases v<;>try rfl
 cases x<;>cases y<;>rfl
theorem aQI {h:Hp} {p:Pu} {ds:List (V1 D)} {ys:List Value} {d:D} (hd:All2 (V1.at (D.at h)) ds ys) (hr:p.plain P ds=some d):∃ y,quiet P (p.sem ys)=some y/\D.at h d y:=by
 obtain ⟨vs,hv,hr⟩:=Option.bind_eq_some_iff.1 hr
 obtain ⟨y,hy,hr2⟩:=Option.bind_eq_some_iff.1 hr
 obtain rfl:=aH1 (R:=V1.at (D.at h)) (λ _ _ _=>aQG) hd hv
 split at hr2
 ·rename_i hc
  obtain rfl:=Option.some.inj hr2
  exact ⟨y,hy,D.at_v.2 ⟨rfl,hc⟩⟩
 ·cases hr2
theorem aPq {p:Pu} {ds:List (V1 D)} (hp:p.isL=false):p.run P ds=p.plain P ds:=by
 cases p<;>first | rfl | cases hp
theorem aJk (m:M B c st a w) {o:Oper} {p:Pu} {xs:List (V1 S)} {ds:List (V1 D)} {d:D} (h:aPm P st o.op=some (p,xs)) (hv:aAl (V1.val (S.val c.env)) xs=some ds) (hr:p.run P ds=some d) :
  ∃ y,(∀ w,(execOp a.eval o).run P w=.ok (.value y) w)/\D.at c.H d y:=by
 have fin:∀ {ys:List Value},All2 (V1.at (S.at c)) xs ys->p.isL=false->(∀ w y,quiet P (p.sem ys)=some y->(execOp a.eval o).run P w=.ok (.value y) w)->∃ y,(∀ w,(execOp a.eval o).run P w=.ok (.value y) w)/\D.at c.H d y:=by
  intro ys hys hp he
  rw [aPq hp] at hr
  obtain ⟨y,hy,hd⟩:=aQI (aEh (R:=V1.at (S.at c)) (λ _ _ _=>V1.val_at) hys hv) hr
  exact ⟨y,λ w=>he w y hy,hd⟩
 cases hop:o.op
 all_goals rw [hop] at h
 all_goals (try cases h;done)
 case binOp op t x y yt =>
  obtain ⟨vx,hx,h⟩:=Option.bind_eq_some_iff.1 h
  obtain ⟨vy,hy,h⟩:=Option.map_eq_some_iff.1 h
  obtain ⟨rfl,rfl⟩:=Prod.mk.injEq .. ▸ h
  refine fin (ys:=[a.eval x,a.eval y]) ⟨m.get1 hx,m.get1 hy,trivial⟩ rfl λ w z hz=>?_
  unfold execOp
  rw [hop]
  refine aAY w ?_
  rw [aQH]
  exact hz
 case unOp op t x =>
  obtain ⟨vx,hx,h⟩:=Option.map_eq_some_iff.1 h
  obtain ⟨rfl,rfl⟩:=Prod.mk.injEq .. ▸ h
  refine fin (ys:=[a.eval x]) ⟨m.get1 hx,trivial⟩ rfl λ w z hz=>?_
  unfold execOp
  rw [hop]
  exact aAY w hz
 case convert src dst x =>
  have h:(match quiet P (underlying src),quiet P (underlying dst) with
   | some (.slice _),_ | _,some (.slice _)=>none
   | _,_=>(st.get1 x).map λ a=>(Pu.conv src dst,[a]))=some (p,xs):=h
  split at h
  ·cases h
  ·cases h
  ·obtain ⟨vx,hx,h⟩:=Option.map_eq_some_iff.1 h
   obtain ⟨rfl,rfl⟩:=Prod.mk.injEq .. ▸ h
   refine fin (ys:=[a.eval x]) ⟨m.get1 hx,trivial⟩ rfl λ w z hz=>?_
   unfold execOp
   rw [hop]
   exact aAY w hz
 case index t x i =>
  obtain ⟨vx,hx,h⟩:=Option.bind_eq_some_iff.1 h
  obtain ⟨vy,hy,h⟩:=Option.map_eq_some_iff.1 h
  obtain ⟨rfl,rfl⟩:=Prod.mk.injEq .. ▸ h
  refine fin (ys:=[a.eval x,a.eval i]) ⟨m.get1 hx,m.get1 hy,trivial⟩ rfl λ w z hz=>?_
  unfold execOp
  rw [hop]
  exact aAY w hz
 case slice t x lo hi mx =>
  cases mx with
  | some _=>cases h
  | none =>
   obtain ⟨vx,hx,h⟩:=Option.bind_eq_some_iff.1 h
   obtain ⟨bs,hb,h⟩:=Option.map_eq_some_iff.1 h
   obtain ⟨rfl,rfl⟩:=Prod.mk.injEq .. ▸ h
   refine fin (ys:=a.eval x::((lo.toList++hi.toList).map a.eval)) ⟨m.get1 hx,aLS m hb⟩ rfl λ w z hz=>?_
   unfold execOp
   rw [hop]
   cases lo<;>cases hi<;>exact aAY w hz
 case call q =>
  obtain ⟨callee,args,ts⟩:=q
  cases callee with
  | builtin b =>
   cases b
   all_goals (try cases h;done)
   case len =>
    have h:(match args.toList,ts.toList with
     | [x],[t]=>(st.get1 x).map λ v=>match quiet P (underlying t) with
      | some (.slice _)=>(Pu.llen,[v])
      | _=>(.blt .len t,[v])
     | _,_=>none)=some (p,xs):=h
    split at h
    ·rename_i x t hx ht
     obtain ⟨v1,h1,h⟩:=Option.map_eq_some_iff.1 h
     have hv1:=m.get1 h1
     have ea:args.map a.eval=#[a.eval x]:=by
      apply Array.ext'
      rw [Array.toList_map,hx]
      rfl
     have et:ts=#[t]:=by
      apply Array.ext'
      rw [ht]
     split at h
     ·rename_i e hu
      obtain ⟨rfl,rfl⟩:=Prod.mk.injEq .. ▸ h
      obtain ⟨d1,hd1,hv⟩:=Option.bind_eq_some_iff.1 hv
      obtain rfl:=Option.some.inj hv
      have hda:=V1.val_at hv1 hd1
      cases d1 with
      | agg _=>cases hr
      | one d1 =>
       cases d1 with
       | v _=>cases hr
       | l n dd =>
        obtain rfl:=Option.some.inj hr
        have hda:D.at c.H (.l n dd) (a.eval x):=hda
        unfold D.at at hda
        obtain ⟨ad,cp,e1,_⟩:=hda
        refine ⟨.int .i64 n,λ w=>aEj ea et ?_ hop,D.at_v.2 ⟨rfl,rfl⟩⟩
        rw [e1]
        exact aAa hu rfl
     ·obtain ⟨rfl,rfl⟩:=Prod.mk.injEq .. ▸ h
      exact fin (ys:=[a.eval x]) ⟨hv1,trivial⟩ rfl λ w z hz=>aEj ea et hz hop
    ·cases h
   case min =>
    have h:(match args.toList with
     | [x,y]=>(st.get1 x).bind λ a=>(st.get1 y).map λ b=>(Pu.blt .min 0,[a,b])
     | _=>none)=some (p,xs):=h
    split at h
    ·rename_i x y hl
     obtain ⟨vx,hx,h⟩:=Option.bind_eq_some_iff.1 h
     obtain ⟨vy,hy,h⟩:=Option.map_eq_some_iff.1 h
     obtain ⟨rfl,rfl⟩:=Prod.mk.injEq .. ▸ h
     refine fin (ys:=[a.eval x,a.eval y]) ⟨m.get1 hx,m.get1 hy,trivial⟩ rfl λ w z hz=>?_
     have ea:args.map a.eval=#[a.eval x,a.eval y]:=by
      apply Array.ext'
      rw [Array.toList_map,hl]
      rfl
     unfold execOp
     rw [hop]
     dsimp only [resolve]
     rw [ea]
     exact aAY w hz
    ·cases h
   case max =>
    have h:(match args.toList with
     | [x,y]=>(st.get1 x).bind λ a=>(st.get1 y).map λ b=>(Pu.blt .max 0,[a,b])
     | _=>none)=some (p,xs):=h
    split at h
    ·rename_i x y hl
     obtain ⟨vx,hx,h⟩:=Option.bind_eq_some_iff.1 h
     obtain ⟨vy,hy,h⟩:=Option.map_eq_some_iff.1 h
     obtain ⟨rfl,rfl⟩:=Prod.mk.injEq .. ▸ h
     refine fin (ys:=[a.eval x,a.eval y]) ⟨m.get1 hx,m.get1 hy,trivial⟩ rfl λ w z hz=>?_
     have ea:args.map a.eval=#[a.eval x,a.eval y]:=by
      apply Array.ext'
      rw [Array.toList_map,hl]
      rfl
     unfold execOp
     rw [hop]
     dsimp only [resolve]
     rw [ea]
     exact aAY w hz
    ·cases h
  | value _=>cases h
  | invoke _ _=>cases h
variable {C:Cf} {n:Nat} {L:List T} {r:List D}
structure Same (c c':Cx) (st st':St):Prop where
 ext:Ext c c'
 ρ:c'.ρ=c.ρ
 H:c'.H=c.H
 tmps:st'.tmps=st.tmps
 blocks:st'.blocks=st.blocks
 δ:c'.δ=c.δ
 dyns:st'.dyns=st.dyns
theorem Same.refl (c:Cx) (st:St):Same c c st st:=⟨Ext.refl _,rfl,rfl,rfl,rfl,rfl,rfl⟩
theorem Same.trans {c1 c2 c3:Cx} {s1 s2 s3:St} (h:Same c1 c2 s1 s2) (g:Same c2 c3 s2 s3):Same c1 c3 s1 s3:=
 ⟨h.ext.trans g.ext,g.ρ.trans h.ρ,g.H.trans h.H,g.tmps.trans h.tmps,g.blocks.trans h.blocks,g.δ.trans h.δ,g.dyns.trans h.dyns⟩
theorem aGA (m:M B c st a w) {s:V S} {k:Bool->St->Option T} {t:T} {y:Value} (hs:s.at (S.at c) y) (h:aHt s st k=some t) (hr:t.run P C n L c.env=some r) :
  ∃ b st' t',y=.bool b/\k b st'=some t'/\t'.run P C n L c.env=some r/\M B c st' a w/\Same c c st st':=by
 have unf:∀ {i:Nat} {t e:T},T.run P C n L (.ite i t e) c.env=some r->(c.env[i]?=some (.v (.bool true))/\T.run P C n L t c.env=some r)\/(c.env[i]?=some (.v (.bool false))/\T.run P C n L e c.env=some r):=by
  intro i t e hr
  cases n <;>
  ·unfold T.run T.runB at hr
   split at hr
   ·exact .inl ⟨‹_›,hr⟩
   ·exact .inr ⟨‹_›,hr⟩
   ·cases hr
 unfold aHt at h
 split at h
 ·rename_i b
  exact ⟨b,st,t,hs.1,h,hr,m,Same.refl _ _⟩
 ·rename_i i
  obtain ⟨d,hd,hy⟩:=hs
  split at h
  ·rename_i b hb
   have h1:=m.kn _ (aDU hb)
   obtain rfl:D.v (.bool b)=d:=Option.some.inj (h1.symm.trans hd)
   exact ⟨b,st,t,(D.at_v.1 hy).1,h,hr,m,Same.refl _ _⟩
  ·obtain ⟨t1,h1,h⟩:=Option.bind_eq_some_iff.1 h
   obtain ⟨t2,h2,h⟩:=Option.bind_eq_some_iff.1 h
   obtain rfl:=Option.some.inj h
   rcases unf hr with ⟨he,hr⟩ | ⟨he,hr⟩
   ·obtain rfl:D.v (.bool true)=d:=Option.some.inj (he.symm.trans hd)
    refine ⟨true,_,t1,(D.at_v.1 hy).1,h1,hr,{ m with kn:=?_ },⟨Ext.refl _,rfl,rfl,rfl,rfl,rfl,rfl⟩⟩
    intro p hp
    rcases List.mem_cons.1 hp with rfl | hp
    ·exact he
    ·exact m.kn p hp
   ·obtain rfl:D.v (.bool false)=d:=Option.some.inj (he.symm.trans hd)
    refine ⟨false,_,t2,(D.at_v.1 hy).1,h2,hr,{ m with kn:=?_ },⟨Ext.refl _,rfl,rfl,rfl,rfl,rfl,rfl⟩⟩
    intro p hp
    rcases List.mem_cons.1 hp with rfl | hp
    ·exact he
    ·exact m.kn p hp
 ·cases h
theorem aGB (m:M B c st a w) {i:Nat} {k:St->Option T}:∀ {q:Nat} {j:Int} {t:T},aLa i st k q j=some t->t.run P C n L c.env=some r ->
  ∃ st' t',k st'=some t'/\t'.run P C n L c.env=some r/\M B c st' a w/\Same c c st st'
 | 0,j,t,h,hr=>by
  obtain rfl:=Option.some.inj h
  cases n<;>· unfold T.run T.runB at hr;cases hr
 | q+1,j,t,h,hr=>by
  obtain ⟨t1,h1,h⟩:=Option.bind_eq_some_iff.1 h
  obtain ⟨t2,h2,h⟩:=Option.bind_eq_some_iff.1 h
  obtain rfl:=Option.some.inj h
  have unf:(∃ k,c.env[i]?=some (.v (.int k j))/\t1.run P C n L c.env=some r)\/t2.run P C n L c.env=some r:=by
   cases n <;>
   ·unfold T.run T.runB at hr
    split at hr
    ·split at hr
     ·rename_i kk nn he hj
      subst hj
      exact .inl ⟨kk,he,hr⟩
     ·exact .inr hr
    ·cases hr
  rcases unf with ⟨kk,he,hr⟩ | hr
  ·refine ⟨_,t1,h1,hr,{ m with is:=?_ },⟨Ext.refl _,rfl,rfl,rfl,rfl,rfl,rfl⟩⟩
   intro p hp
   rcases List.mem_cons.1 hp with rfl | hp
   ·exact ⟨kk,he⟩
   ·exact m.is p hp
  ·exact aGB m h2 hr
theorem aQJ (m:M B c st a w) {op:Op} {k:St->Option T} {t:T} (h:aLH P op st k=some t) (hr:t.run P C n L c.env=some r) :
  ∃ st' t',k st'=some t'/\t'.run P C n L c.env=some r/\M B c st' a w/\Same c c st st':=by
 unfold aLH at h
 split at h
 ·exact aGB m h hr
 ·exact ⟨st,t,h,hr,m,Same.refl _ _⟩
theorem aPr (m:M B c st a w) {ops:Array Oper} {d:Bool} {k:St->Option T} {t:T} (h:aOe P ops d st k=some t) (hr:t.run P C n L c.env=some r) :
  ∃ st' t',k st'=some t'/\t'.run P C n L c.env=some r/\M B c st' a w:=by
 unfold aOe at h
 split at h
 ·obtain ⟨st',t',h1,h2,h3,-⟩:=aGB m h hr
  exact ⟨st',t',h1,h2,h3⟩
 ·exact ⟨st,t,h,hr,m⟩
theorem aNv {env:List D}:∀ {s:S} {d:D},aQB s=some d->s.val env=some d
 | .const _,_,h=>h
 | .var _,_,h=>by cases h
 | .ptr _ _,_,h=>by cases h
 | .slice _ _ _ _,_,h=>by cases h
 | .func _ _,_,h=>by cases h
 | .dyn _,_,h=>by cases h
 | .eptr _ _ _ _,_,h=>by cases h
 | .vptr _ _ _ _,_,h=>by cases h
 | .win _ _ _ _,_,h=>by cases h
theorem aIB {α β:Type} {f g:α->Option β} (hf:∀ a b,f a=some b->g a=some b):∀ {l:List α} {m:List β},aAl f l=some m->aAl g l=some m
 | [],_,h=>h
 | a::l,m,h=>by
  unfold aAl at h ⊢
  obtain ⟨x,hx,h⟩:=Option.bind_eq_some_iff.1 h
  obtain ⟨y,hy,h⟩:=Option.bind_eq_some_iff.1 h
  rw [hf _ _ hx,Option.bind_some,aIB hf hy,Option.bind_some]
  exact h
theorem aQK {env:List D} {l:List (V1 S)} {ds:List (V1 D)} (h:aAl (V1.val aQB) l=some ds):aAl (V1.val (S.val env)) l=some ds:=
 aIB (λ x d hx=>by
  cases x with
  | one s =>
   obtain ⟨y,hy,hx⟩:=Option.bind_eq_some_iff.1 hx
   show (s.val env).bind _=_
   rw [aNv hy]
   exact hx
  | agg ss =>
   obtain ⟨y,hy,hx⟩:=Option.bind_eq_some_iff.1 hx
   show (aAl (S.val env) ss).bind _=_
   rw [aIB (λ _ _=>aNv) hy]
   exact hx) h
theorem aLT {k:Nat}:∀ {ds:List Dyn} {i q:Nat},aJa k ds i=some q->i<=q/\∃ y,ds[q - i]?=some y/\y.live=true/\y.h=k
 | [],_,_,h=>by cases h
 | y::ds,i,q,h=>by
  unfold aJa at h
  split at h
  ·rename_i hy
   obtain rfl:=Option.some.inj h
   rw [Bool.and_eq_true,beq_iff_eq] at hy
   exact ⟨Nat.le_refl _,y,by rw [Nat.sub_self];rfl,hy.1,hy.2⟩
  ·obtain ⟨h1,y',h2,h3⟩:=aLT h
   refine ⟨by omega,y',?_,h3⟩
   rw [show q - i=(q - (i+1))+1 by omega,List.getElem?_cons_succ]
   exact h2
theorem aE8 {k q:Nat} {y:Dyn} (h:st.dyn? k=some (q,y)):st.dyns[q]?=some y/\y.live=true/\y.h=k:=by
 obtain ⟨q',h1,h⟩:=Option.bind_eq_some_iff.1 h
 obtain ⟨y',h2,h⟩:=Option.map_eq_some_iff.1 h
 obtain ⟨rfl,rfl⟩:=Prod.mk.injEq .. ▸ h
 obtain ⟨_,y2,h3,h4⟩:=aLT h1
 rw [Nat.sub_zero,h2] at h3
 obtain rfl:=Option.some.inj h3
 exact ⟨h2,h4⟩
theorem aH2 {xs:List (V1 S)} {t:T}:∀ {ps:List Pu} {env:List D},(aHU ps xs t).run P C n L env=some r ->
  ∃ ds,ds.length=ps.length/\t.run P C n L (env++ds)=some r/\∀ (i:Nat) (p:Pu),ps[i]?=some p->∃ d vs e,ds[i]?=some d/\env <+: e/\aAl (V1.val (S.val e)) xs=some vs/\p.run P vs=some d
 | [],env,h=>⟨[],rfl,by rw [List.append_nil];exact h,λ i p hp=>by cases hp⟩
 | p::ps,env,h=>by
  have unf:∃ vs d,aAl (V1.val (S.val env)) xs=some vs/\p.run P vs=some d/\(aHU ps xs t).run P C n L (env++[d])=some r:=by
   cases n <;>
   ·unfold aHU T.run T.runB at h
    obtain ⟨ds,hds,h⟩:=Option.bind_eq_some_iff.1 h
    obtain ⟨d,hd,h⟩:=Option.bind_eq_some_iff.1 h
    exact ⟨ds,d,hds,hd,h⟩
  obtain ⟨vs,d,h1,h2,h3⟩:=unf
  obtain ⟨ds,h4,h5,h6⟩:=aH2 h3
  refine ⟨d::ds,by rw [List.length_cons,List.length_cons,h4],by rw [List.append_assoc] at h5;exact h5,λ i q hq=>?_⟩
  cases i with
  | zero =>
   obtain rfl:p=q:=by simpa using hq
   exact ⟨d,vs,env,rfl,List.prefix_refl _,h1,h2⟩
  | succ i =>
   obtain ⟨d',vs',e,g1,g2,g3⟩:=h6 i q (by simpa using hq)
   exact ⟨d',vs',e,by simpa using g1,(List.prefix_append _ _).trans g2,g3⟩
theorem aEk {h:Hp} {e:TypeId} {s n:Nat} {v:Value} {ds:List D} (ho:OwnAt h w e s v (.l n ds)):∃ xs:List Value,All2 (D.at h) ds xs/\xs.length=n*s/\((v=.slice none 0 0/\n=0)\/∃ g cap cur,v=.slice (some ⟨g,0,none⟩) n cap/\w.heap[g]?=some (.cells cur e (0,0))/\n<=cap/\cap<=maxLen/\cur.size=cap*s/\cur.toList.take (n*s)=xs):=by
 obtain ⟨n',ds',xs,e1,⟨e2,e3⟩,e4⟩:=ho
 obtain ⟨rfl,rfl⟩:=D.l.inj e1
 refine ⟨xs,e4,e2,e3.imp id ?_⟩
 rintro ⟨g,cap,cur,h1,_,h2,h3,h4,h5,h6⟩
 exact ⟨g,cap,cur,h1,h2,h3,h4,h5,h6⟩
theorem own_slice {h:Hp} {e:TypeId} {s:Nat} {v:Value} {d:D} (ho:OwnAt h w e s v d):∃ n ds a cap,d=.l n ds/\v=.slice a n cap:=by
 obtain ⟨n,ds,xs,rfl,h2,h3⟩:=ho
 rcases h2.2 with ⟨rfl,rfl⟩ | ⟨g,cap,cur,rfl,_⟩
 ·exact ⟨0,ds,none,0,rfl,rfl⟩
 ·exact ⟨n,ds,_,cap,rfl,rfl⟩
theorem aEK {t e:TypeId} {s q o n cap:Nat} {k:IntKind} {i:Int} (hu:quiet P (underlying t)=some (.slice e)) (hs:quiet P (sizeOf e)=some s) (h0:0<=i) (h1:i < n) :
  quiet P (Instr.indexAt t (.slice (some ⟨q,o,none⟩) n cap) (.int k i))=some (.pointer (some ⟨q,o+i.toNat*s,none⟩)):=by
 refine aAa (a:=(k,i)) rfl ?_
 refine aAa hu ?_
 refine aAa (a:=((some (⟨q,o,none⟩:Addr),n,e):Option Addr × Nat × TypeId)) rfl ?_
 refine aAa hu ?_
 dsimp only
 rw [if_pos ⟨h0,h1⟩]
 refine aAa hs ?_
 rw [aC4]
 rfl
theorem aK7 {a b:V1 D} {d:D} (h:Pu.lchk.run P [a,b]=some d):∃ n x ds k i,a=.one (.l n (x::ds))/\b=.one (.v (.int k i))/\0<=i/\i < n/\d=.v (.int k i):=by
 have h:Pu.lchk.lrun [a,b]=some d:=h
 cases a with
 | agg _=>cases h
 | one a =>
  cases a with
  | v _=>cases h
  | l n ds =>
   cases ds with
   | nil=>cases h
   | cons x ds =>
    cases b with
    | agg _=>cases h
    | one b =>
     cases b with
     | l _ _=>cases h
     | v b =>
      cases b<;>first | (cases h;done) | skip
      rename_i k i _
      have h:(if 0<=i/\i < n then some (D.v (.int k i)) else none)=some d:=h
      split at h
      ·rename_i hr
       exact ⟨n,x,ds,k,i,rfl,rfl,hr.1,hr.2,(Option.some.inj h).symm⟩
      ·cases h
theorem aEl {k:IntKind} {i:Int} {y:Nat} {code:BoundsCode} (h:0<=i/\i<=y):quiet P (Instr.sliceBound (.int k i) y code)=some i.toNat:=by
 refine aAa (a:=(k,i)) rfl ?_
 dsimp only
 rw [if_pos h]
 rfl
theorem aRY {t e:TypeId} {s n cap l h:Nat} {ad:Option Addr} {lo hi:Option Value} (hu:quiet P (underlying t)=some (.slice e)) (hs:quiet P (sizeOf e)=some s) (hb:quiet P (Instr.sliceBounds true n cap lo hi none)=some (l,h,cap)) :
  quiet P (Instr.sliceAt t (.slice ad n cap) lo hi none)=some (.slice (if cap=l then ad else ad.map (·.add (l*s))) (h - l) (cap - l)):=by
 refine aAa hu ?_
 show quiet P (Instr.slice t (.slice ad n cap) lo hi none)=_
 refine aAa hu ?_
 refine aAa hb ?_
 refine aAa hs ?_
 rfl
theorem D.ats_drop {H:Hp}:∀ {ds:List D} {b o:Nat} (j:Nat),D.ats H b o ds->D.ats H b (o+j) (ds.drop j)
 | _,_,_,0,h=>h
 | [],_,_,_+1,_=>by
  rw [List.drop_nil]
  unfold D.ats
  trivial
 | d::ds,b,o,j+1,h=>by
  unfold D.ats at h
  rw [show o+(j+1)=o+1+j by omega]
  exact D.ats_drop j h.2
theorem D.ats_take {H:Hp}:∀ {ds:List D} {b o:Nat} (j:Nat),D.ats H b o ds->D.ats H b o (ds.take j)
 | _,_,_,0,_=>by
  rw [List.take_zero]
  unfold D.ats
  trivial
 | [],_,_,_+1,h=>h
 | d::ds,b,o,j+1,h=>by
  unfold D.ats at h
  show D.ats H b o (d::ds.take j)
  unfold D.ats
  exact ⟨h.1,D.ats_take j h.2⟩
theorem aTL {H:Hp} {n s l h cap:Nat} {ds:List D} {ad:Option Addr} (hy:D.at H (.l n ds) (.slice ad n cap)) (hl:l<=h) (hh:h<=n):D.at H (.l (h - l) ((ds.drop (l*s)).take ((h - l)*s))) (.slice (if cap=l then ad else ad.map (·.add (l*s))) (h - l) (cap - l)):=by
 unfold D.at at hy ⊢
 obtain ⟨a,c,e,hc,g⟩:=hy
 obtain ⟨rfl,_,rfl⟩:=Value.slice.inj e
 refine ⟨_,cap - l,rfl,by omega,?_⟩
 by_cases hcl:cap=l
 ·exact .inl (by rw [show h - l=0 by omega,Nat.zero_mul,List.take_zero])
 ·rcases g with rfl | ⟨b,o,rfl,g⟩
  ·exact .inl (by rw [List.drop_nil,List.take_nil])
  ·refine .inr ⟨b,o+l*s,?_,D.ats_take _ (D.ats_drop _ g)⟩
   rw [if_neg hcl,Option.map_some,aC4]
theorem aGC {s n:Nat} {ds:List D} {l h:Int} {d:D} (e:aFD s n ds l h=some d):∃ l' h':Nat,l=l'/\h=h'/\l'<=h'/\h'<=n/\d=.l (h' - l') ((ds.drop (l'*s)).take ((h' - l')*s)):=by
 unfold aFD at e
 split at e
 ·rename_i g
  refine ⟨l.toNat,h.toNat,by omega,by omega,by omega,by omega,?_⟩
  rw [<- Option.some.inj e,show (h - l).toNat=h.toNat - l.toNat by omega]
 ·cases e
theorem aFu {x:V1 S} {y:V1 D} {v:Value} {k:IntKind} {i:Int} {c:Cx} (hx:x.at (S.at c) v) (hy:V1.val (S.val c.env) x=some y) (e:y=.one (.v (.int k i))):v=.int k i:=by
 subst e
 have h7:D.at c.H (.v (.int k i)) v:=V1.val_at hx hy
 exact (D.at_v.1 h7).1
theorem aPs {x y:Operand} {bs:List (V1 S)} (h:aFE st [x,y]=some bs):∃ u v,st.get1 x=some u/\st.get1 y=some v/\bs=[u,v]:=by
 obtain ⟨u,hu,h⟩:=Option.bind_eq_some_iff.1 h
 obtain ⟨l,hl,h⟩:=Option.bind_eq_some_iff.1 h
 obtain ⟨v,hv,hl⟩:=Option.bind_eq_some_iff.1 hl
 obtain ⟨l2,hl2,hl⟩:=Option.bind_eq_some_iff.1 hl
 obtain rfl:=Option.some.inj hl2
 obtain rfl:=Option.some.inj hl
 exact ⟨u,v,hu,hv,(Option.some.inj h).symm⟩
theorem aK8 {x:Operand} {bs:List (V1 S)} (h:aFE st [x]=some bs):∃ u,st.get1 x=some u/\bs=[u]:=by
 obtain ⟨u,hu,h⟩:=Option.bind_eq_some_iff.1 h
 obtain ⟨l,hl,h⟩:=Option.bind_eq_some_iff.1 h
 obtain rfl:=Option.some.inj hl
 exact ⟨u,hu,(Option.some.inj h).symm⟩
theorem aES {α β:Type} {f:α->Option β} {x y:α} {vs:List β} (h:aAl f [x,y]=some vs):∃ u v,f x=some u/\f y=some v/\vs=[u,v]:=by
 obtain ⟨u,hu,h⟩:=Option.bind_eq_some_iff.1 h
 obtain ⟨l,hl,h⟩:=Option.bind_eq_some_iff.1 h
 obtain ⟨v,hv,hl⟩:=Option.bind_eq_some_iff.1 hl
 obtain rfl:=Option.some.inj hl
 exact ⟨u,v,hu,hv,(Option.some.inj h).symm⟩
theorem aGD {α β:Type} {f:α->Option β} {x:α} {vs:List β} (h:aAl f [x]=some vs):∃ u,f x=some u/\vs=[u]:=by
 obtain ⟨u,hu,h⟩:=Option.bind_eq_some_iff.1 h
 exact ⟨u,hu,(Option.some.inj h).symm⟩
theorem aBS {env:List D} {i:Nat} {v:V1 D} (h:V1.val (S.val env) (.one (.var i))=some v):∃ d,env[i]?=some d/\v=.one d:=by
 obtain ⟨d,hd,h⟩:=Option.bind_eq_some_iff.1 h
 exact ⟨d,hd,(Option.some.inj h).symm⟩
theorem aTM {s n:Nat} {ds:List D} {u:V1 D} {d:D} (h:(Pu.lcut s false true).run P [.one (.l n ds),u]=some d):∃ k i,u=.one (.v (.int k i))/\aFD s n ds 0 i=some d:=by
 have h:(Pu.lcut s false true).lrun [.one (.l n ds),u]=some d:=h
 cases u with
 | agg _=>cases h
 | one u=>cases u with
  | l _ _=>cases h
  | v u =>
   cases u<;>first | (cases h;done) | exact ⟨_,_,rfl,h⟩
theorem aTN {s n:Nat} {ds:List D} {u:V1 D} {d:D} (h:(Pu.lcut s true false).run P [.one (.l n ds),u]=some d):∃ k i,u=.one (.v (.int k i))/\aFD s n ds i n=some d:=by
 have h:(Pu.lcut s true false).lrun [.one (.l n ds),u]=some d:=h
 cases u with
 | agg _=>cases h
 | one u=>cases u with
  | l _ _=>cases h
  | v u =>
   cases u<;>first | (cases h;done) | exact ⟨_,_,rfl,h⟩
theorem aSR {s n:Nat} {ds:List D} {u v:V1 D} {d:D} (h:(Pu.lcut s true true).run P [.one (.l n ds),u,v]=some d):∃ k i k' j,u=.one (.v (.int k i))/\v=.one (.v (.int k' j))/\aFD s n ds i j=some d:=by
 have h:(Pu.lcut s true true).lrun [.one (.l n ds),u,v]=some d:=h
 cases u with
 | agg _=>cases h
 | one u=>cases u with
  | l _ _=>cases h
  | v u =>
   cases u<;>first | (cases h;done) | skip
   cases v with
   | agg _=>cases h
   | one v=>cases v with
    | l _ _=>cases h
    | v v =>
     cases v<;>first | (cases h;done) | exact ⟨_,_,_,_,rfl,rfl,h⟩
theorem aOo (m:M B c st a w) {lo hi:Option Operand} {bs:List (V1 S)} (hbs:aFE st (lo.toList++hi.toList)=some bs) {us:List (V1 D)} (hus:aAl (V1.val (S.val c.env)) bs=some us) {s:Nat} {dv d:D} (h4:(Pu.lcut s lo.isSome hi.isSome).run P (.one dv::us)=some d) :
  ∃ n ds l h,dv=.l n ds/\l<=h/\h<=n/\d=.l (h - l) ((ds.drop (l*s)).take ((h - l)*s))/\∀ cap,n<=cap->quiet P (Instr.sliceBounds true n cap (lo.map a.eval) (hi.map a.eval) none)=some (l,h,cap):=by
 cases dv with
 | v _ =>
  exfalso
  revert h4
  cases lo<;>cases hi<;>exact λ h=>by cases h
 | l n ds =>
  refine ⟨n,ds,?_⟩
  cases lo with
  | none =>
   cases hi with
   | none =>
    have h4:(none:Option D)=some d:=h4
    cases h4
   | some hi =>
    obtain ⟨v,hv,rfl⟩:=aK8 hbs
    obtain ⟨u,hu,rfl⟩:=aGD hus
    obtain ⟨k,h0,rfl,h4⟩:=aTM h4
    obtain ⟨l,h,e1,rfl,e3,e4,rfl⟩:=aGC h4
    obtain rfl:l=0:=by omega
    refine ⟨0,h,rfl,Nat.zero_le _,e4,rfl,λ cap hc=>?_⟩
    rw [Option.map_none,Option.map_some,aFu (m.get1 hv) hu rfl]
    refine aAa (a:=cap) rfl ?_
    refine aAa (a:=h) (aEl ⟨by omega,by omega⟩) ?_
    refine aAa (a:=0) rfl ?_
    rfl
  | some lo =>
   cases hi with
   | none =>
    obtain ⟨v,hv,rfl⟩:=aK8 hbs
    obtain ⟨u,hu,rfl⟩:=aGD hus
    obtain ⟨k,l0,rfl,h4⟩:=aTN h4
    obtain ⟨l,h,rfl,e2,e3,e4,rfl⟩:=aGC h4
    obtain rfl:h=n:=by omega
    refine ⟨l,h,rfl,e3,e4,rfl,λ cap hc=>?_⟩
    rw [Option.map_none,Option.map_some,aFu (m.get1 hv) hu rfl]
    refine aAa (a:=cap) rfl ?_
    refine aAa (a:=h) rfl ?_
    refine aAa (a:=l) (aEl ⟨by omega,by omega⟩) ?_
    rfl
   | some hi =>
    obtain ⟨v,v',hv,hv',rfl⟩:=aPs hbs
    obtain ⟨u,u',hu,hu',rfl⟩:=aES hus
    obtain ⟨k1,l0,k2,h0,rfl,rfl,h4⟩:=aSR h4
    obtain ⟨l,h,rfl,rfl,e3,e4,rfl⟩:=aGC h4
    refine ⟨l,h,rfl,e3,e4,rfl,λ cap hc=>?_⟩
    rw [Option.map_some,Option.map_some,aFu (m.get1 hv) hu rfl,aFu (m.get1 hv') hu' rfl]
    refine aAa (a:=cap) rfl ?_
    refine aAa (a:=h) (aEl ⟨by omega,by omega⟩) ?_
    refine aAa (a:=l) (aEl ⟨by omega,by omega⟩) ?_
    rfl
theorem aPt {x y z:V1 D} {d:D} (h:Pu.lwlo.run P [x,y,z]=some d):∃ n x0 ds k l k' h,x=.one (.l n (x0::ds))/\y=.one (.v (.int k l))/\z=.one (.v (.int k' h))/\0<=l/\l<=h/\h<=n/\d=.v (.int .i64 (l)):=by
 have h:Pu.lwlo.lrun [x,y,z]=some d:=h
 cases x with
 | agg _=>cases h
 | one x=>cases x with
  | v _=>cases h
  | l n ds=>cases ds with
   | nil=>cases h
   | cons x0 ds=>cases y with
    | agg _=>cases h
    | one y=>cases y with
     | l _ _=>cases h
     | v y =>
      cases y<;>first | (cases h;done) | skip
      cases z with
      | agg _=>cases h
      | one z=>cases z with
       | l _ _=>cases h
       | v z =>
        cases z<;>first | (cases h;done) | skip
        rename_i k l k' h' _
        have h:(if 0<=l/\l<=h'/\h'<=n then some (D.v (.int .i64 (l))) else none)=some d:=h
        split at h
        ·rename_i g
         exact ⟨n,x0,ds,k,l,k',h',rfl,rfl,rfl,g.1,g.2.1,g.2.2,(Option.some.inj h).symm⟩
        ·cases h
theorem aOp {x y z:V1 D} {d:D} (h:Pu.lwlen.run P [x,y,z]=some d):∃ n x0 ds k l k' h,x=.one (.l n (x0::ds))/\y=.one (.v (.int k l))/\z=.one (.v (.int k' h))/\0<=l/\l<=h/\h<=n/\d=.v (.int .i64 (h - l)):=by
 have h:Pu.lwlen.lrun [x,y,z]=some d:=h
 cases x with
 | agg _=>cases h
 | one x=>cases x with
  | v _=>cases h
  | l n ds=>cases ds with
   | nil=>cases h
   | cons x0 ds=>cases y with
    | agg _=>cases h
    | one y=>cases y with
     | l _ _=>cases h
     | v y =>
      cases y<;>first | (cases h;done) | skip
      cases z with
      | agg _=>cases h
      | one z=>cases z with
       | l _ _=>cases h
       | v z =>
        cases z<;>first | (cases h;done) | skip
        rename_i k l k' h' _
        have h:(if 0<=l/\l<=h'/\h'<=n then some (D.v (.int .i64 (h' - l))) else none)=some d:=h
        split at h
        ·rename_i g
         exact ⟨n,x0,ds,k,l,k',h',rfl,rfl,rfl,g.1,g.2.1,g.2.2,(Option.some.inj h).symm⟩
        ·cases h
theorem aSS {p:Pu} (hp:p=.lwlo\/p=.lwlen) {x y z:V1 D} {d:D} (h:p.run P [x,y,z]=some d):∃ n x0 ds k l k' h,x=.one (.l n (x0::ds))/\y=.one (.v (.int k l))/\z=.one (.v (.int k' h))/\0<=l/\l<=h/\h<=n/\(p=.lwlo->d=.v (.int .i64 l))/\(p=.lwlen->d=.v (.int .i64 (h - l))):=by
 rcases hp with rfl | rfl
 ·obtain ⟨n,x0,ds,k,l,k',h',e1,e2,e3,e4,e5,e6,e7⟩:=aPt h
  exact ⟨n,x0,ds,k,l,k',h',e1,e2,e3,e4,e5,e6,λ _=>e7,λ e=>by cases e⟩
 ·obtain ⟨n,x0,ds,k,l,k',h',e1,e2,e3,e4,e5,e6,e7⟩:=aOp h
  exact ⟨n,x0,ds,k,l,k',h',e1,e2,e3,e4,e5,e6,λ e=>(by cases e),λ _=>e7⟩
theorem aPu {x y z:V1 D} {d:D} (h:Pu.lwix.run P [x,y,z]=some d):∃ k l k2 n k3 i,x=.one (.v (.int k l))/\y=.one (.v (.int k2 n))/\z=.one (.v (.int k3 i))/\0<=l/\0<=i/\i < n/\d=.v (.int .i64 (l+i)):=by
 have h:Pu.lwix.lrun [x,y,z]=some d:=h
 cases x with
 | agg _=>cases h
 | one x=>cases x with
  | l _ _=>cases h
  | v x =>
   cases x<;>first | (cases h;done) | skip
   cases y with
   | agg _=>cases h
   | one y=>cases y with
    | l _ _=>cases h
    | v y =>
     cases y<;>first | (cases h;done) | skip
     cases z with
     | agg _=>cases h
     | one z=>cases z with
      | l _ _=>cases h
      | v z =>
       cases z<;>first | (cases h;done) | skip
       rename_i k l k2 n k3 i _
       have h:(if 0<=l/\0<=i/\i < n then some (D.v (.int .i64 (l+i))) else none)=some d:=h
       split at h
       ·rename_i g
        exact ⟨k,l,k2,n,k3,i,rfl,rfl,rfl,g.1,g.2.1,g.2.2,(Option.some.inj h).symm⟩
       ·cases h
theorem rd1 (m:M B c st a w) {p:Pu} {xs:List (V1 S)} {res:Nat->V1 S} {k:V S->St->Option T} {t:T} (h:aBR (.rd [p] xs res) st k=some t) (hr:t.run P C n L c.env=some r) :
  ∃ t' d vs,k (.v1 (res st.nv)) { st with nv:=st.nv+1 }=some t'/\t'.run P C n L (c.env++[d])=some r/\aAl (V1.val (S.val c.env)) xs=some vs/\p.run P vs=some d/\M B ⟨c.env++[d],c.ρ,c.H,c.δ⟩ { st with nv:=st.nv+1 } a w/\(c.env++[d])[st.nv]?=some d:=by
 obtain ⟨t',hk,rfl⟩:=Option.map_eq_some_iff.1 h
 have unf:∃ vs d,aAl (V1.val (S.val c.env)) xs=some vs/\p.run P vs=some d/\t'.run P C n L (c.env++[d])=some r:=by
  cases n <;>
  ·unfold aHU T.run T.runB at hr
   obtain ⟨ds,hds,hr⟩:=Option.bind_eq_some_iff.1 hr
   obtain ⟨d,hd,hr⟩:=Option.bind_eq_some_iff.1 hr
   exact ⟨ds,d,hds,hd,hr⟩
 obtain ⟨vs,d,h1,h2,h3⟩:=unf
 exact ⟨t',d,vs,hk,h3,h1,h2,m.bind [d],by rw [<- m.nv,List.getElem?_append_right (Nat.le_refl _),Nat.sub_self];rfl⟩
theorem aOq (m:M B c st a w) {o:Oper} {x:Oa} {k:V S->St->Option T} {t:T} (hx:valA P st o.op=some x) (h:aBR x st k=some t) (hr:t.run P C n L c.env=some r) :
  ∃ v st' t' c' y,k v st'=some t'/\t'.run P C n L c'.env=some r/\(∀ w,(execOp a.eval o).run P w=.ok (.value y) w)/\v.at (S.at c') y/\M B c' st' a w/\Same c c' st st':=by
 have sm:∀ d,Same c ⟨c.env++[d],c.ρ,c.H,c.δ⟩ st { st with nv:=st.nv+1 }:=λ d=>⟨Ext.bind c [d],rfl,rfl,rfl,rfl,rfl,rfl⟩
 cases hop:o.op
 all_goals rw [hop] at hx
 all_goals (try cases hx;done)
 case indexAddr t x i =>
  obtain ⟨vi,hi,hx⟩:=Option.bind_eq_some_iff.1 hx
  have hiv:=m.get1 hi
  have ex:∀ (y:Value),quiet P (Instr.indexAt t (a.eval x) (a.eval i))=some y->∀ w,(execOp a.eval o).run P w=.ok (.value y) w:=by
   intro y hy w
   unfold execOp
   rw [hop]
   exact aAY w hy
  split at hx
  ·rename_i kk e hgx hu
   obtain ⟨⟨q,y⟩,hy,hx⟩:=Option.bind_eq_some_iff.1 hx
   obtain ⟨s,hs,rfl⟩:=Option.map_eq_some_iff.1 hx
   obtain ⟨t',d,vs,h1,h2,h3,h4,h5,h6⟩:=rd1 m h hr
   obtain ⟨hq,hl,rfl⟩:=aE8 hy
   obtain ⟨u1,u2,g1,g2,rfl⟩:=aES h3
   obtain ⟨d1,g3,rfl⟩:=aBS g1
   obtain ⟨n',x0,ds,ki,ii,e1,rfl,i0,i1,rfl⟩:=aK7 h4
   obtain rfl:=V1.one.inj e1
   obtain ⟨v,dv,g4,g5,g6,g7⟩:=m.dy.on y (List.mem_of_getElem? hq) hl
   obtain rfl:dv=.l n' (x0::ds):=Option.some.inj (g5.symm.trans g3)
   have hgv:=m.get1 hgx
   obtain ⟨g8,_⟩:=hgv
   obtain rfl:v=a.eval x:=Option.some.inj (g4.symm.trans g8)
   obtain ⟨xs,p1,p2,p3⟩:=aEk g7
   rcases p3 with ⟨_,rfl⟩ | ⟨g,cap,cur,p3,_⟩
   ·omega
   ·have ei:a.eval i=.int ki ii:=by
     have h7:D.at c.H (.v (.int ki ii)) (a.eval i):=V1.val_at hiv g2
     exact (D.at_v.1 h7).1
    refine ⟨_,_,t',_,.pointer (some ⟨g,0+ii.toNat*s,none⟩),h1,h2,ex _ ?_,?_,h5,sm _⟩
    ·rw [p3,ei]
     exact aEK hu hs i0 i1
    ·refine ⟨g,n',cap,ii.toNat,ki,?_,?_,by omega,by rw [Nat.zero_add,Nat.add_zero]⟩
     ·exact p3 ▸ g4
     ·show (c.env++[_])[st.nv]?=_
      rw [h6]
      congr 3
      show ii=(ii.toNat:Int)
      omega
  ·rename_i vv e hgx hu
   obtain ⟨s,hs,rfl⟩:=Option.map_eq_some_iff.1 hx
   obtain ⟨t',d,vs,h1,h2,h3,h4,h5,h6⟩:=rd1 m h hr
   obtain ⟨u1,u2,g1,g2,rfl⟩:=aES h3
   obtain ⟨d1,g3,rfl⟩:=aBS g1
   obtain ⟨n',x0,ds,ki,ii,e1,rfl,i0,i1,rfl⟩:=aK7 h4
   obtain rfl:=V1.one.inj e1
   obtain ⟨dv,g4,g5⟩:=m.get1 hgx
   obtain rfl:dv=.l n' (x0::ds):=Option.some.inj (g4.symm.trans g3)
   unfold D.at at g5
   obtain ⟨ad,cp,g6,_,g7⟩:=g5
   rcases g7 with g7 | ⟨b,e0,rfl,g7⟩
   ·cases g7
   ·have ei:a.eval i=.int ki ii:=by
     have h7:D.at c.H (.v (.int ki ii)) (a.eval i):=V1.val_at hiv g2
     exact (D.at_v.1 h7).1
    refine ⟨_,_,t',_,.pointer (some ⟨b,e0+ii.toNat*s,none⟩),h1,h2,ex _ ?_,?_,h5,sm _⟩
    ·rw [g6,ei]
     exact aEK hu hs i0 i1
    ·refine ⟨n',x0::ds,b,e0,ii.toNat,ki,aAn (List.prefix_append _ _) g4,g7,?_,by omega,by rw [Nat.add_zero]⟩
     show (c.env++[_])[st.nv]?=_
     rw [h6]
     congr 3
     show ii=(ii.toNat:Int)
     omega
  ·rename_i kk s iv jv e hgx hu
   obtain ⟨s',hs,hx⟩:=Option.bind_eq_some_iff.1 hx
   split at hx
   ·rename_i hss
    subst hss
    obtain rfl:=Option.some.inj hx
    obtain ⟨t',d,vs,h1,h2,h3,h4,h5,h6⟩:=rd1 m h hr
    obtain ⟨b,n1,m1,q,lo,len,ad,cap,w1,w2,w3,w4,w5,w6⟩:=m.get1 hgx
    obtain ⟨u1,h7,h3⟩:=Option.bind_eq_some_iff.1 h3
    obtain ⟨us,h8,h3⟩:=Option.bind_eq_some_iff.1 h3
    obtain rfl:=Option.some.inj h3
    obtain ⟨u2,u3,g1,g2,rfl⟩:=aES h8
    obtain ⟨d1,g3,rfl⟩:=aBS h7
    obtain ⟨d2,g4,rfl⟩:=aBS g1
    obtain ⟨k1,l1,k2,n2,k3,i3,e1,e2,e3,e4,e5,e6,rfl⟩:=aPu h4
    obtain ⟨rfl⟩:=V1.one.inj e1
    obtain ⟨rfl⟩:=V1.one.inj e2
    have q1:=Option.some.inj (w2.symm.trans g3)
    have q2:=Option.some.inj (w3.symm.trans g4)
    obtain ⟨_,rfl⟩:=Value.int.inj (D.v.inj q1)
    obtain ⟨_,rfl⟩:=Value.int.inj (D.v.inj q2)
    have e4:(0:Int)<=(lo:Int):=e4
    have e6:i3 < (len:Int):=e6
    rcases w5 with w5 | rfl
    ·omega
    have ei:a.eval i=.int k3 i3:=aFu hiv g2 e3
    refine ⟨_,_,t',_,.pointer (some ⟨b,lo*s'+i3.toNat*s',none⟩),h1,h2,ex _ ?_,?_,h5,sm _⟩
    ·rw [w6,ei]
     exact aEK hu hs e5 e6
    ·refine ⟨b,n1,m1,lo+i3.toNat,.i64,w1,?_,by omega,by rw [Nat.add_mul,Nat.add_zero]⟩
     show (c.env++[_])[st.nv]?=_
     rw [h6]
     congr 3
     show (lo:Int)+i3=((lo+i3.toNat:Nat):Int)
     omega
   ·cases hx
  ·cases hx
 case slice t ox lo hi mx =>
  cases mx with
  | some _=>cases hx
  | none =>
  have hx:(match st.get1 ox,quiet P (underlying t) with
   | some (.one (.var v)),some (.slice e)=>(quiet P (sizeOf e)).bind λ s=>(aFE st (lo.toList++hi.toList)).map λ bs=>Oa.rd [.lcut s lo.isSome hi.isSome] (.one (.var v)::bs) λ n=>.one (.var n)
   | some (.one (.dyn k)),some (.slice e)=>(st.dyn? k).bind λ (_,y)=>(quiet P (sizeOf e)).bind λ s=>aQD st k s y.cv lo hi
   | _,_=>none)=some x:=hx
  have ex:∀ (y:Value),quiet P (Instr.sliceAt t (a.eval ox) (lo.map a.eval) (hi.map a.eval) none)=some y->∀ w,(execOp a.eval o).run P w=.ok (.value y) w:=by
   intro y hy w
   unfold execOp
   rw [hop]
   exact aAY w hy
  split at hx
  ·rename_i vv e hgx hu
   obtain ⟨s,hs,hx⟩:=Option.bind_eq_some_iff.1 hx
   obtain ⟨bs,hbs,rfl⟩:=Option.map_eq_some_iff.1 hx
   obtain ⟨t',d,vs,h1,h2,h3,h4,h5,h6⟩:=rd1 m h hr
   obtain ⟨u1,h7,h3⟩:=Option.bind_eq_some_iff.1 h3
   obtain ⟨us,h8,h3⟩:=Option.bind_eq_some_iff.1 h3
   obtain rfl:=Option.some.inj h3
   obtain ⟨d1,g3,rfl⟩:=aBS h7
   obtain ⟨n1,ds,l,hh,rfl,c1,c2,rfl,c3⟩:=aOo m hbs h8 h4
   obtain ⟨dv,g4,g5⟩:=m.get1 hgx
   obtain rfl:dv=.l n1 ds:=Option.some.inj (g4.symm.trans g3)
   obtain ⟨ad,cp,g6,g7⟩:∃ ad cp,a.eval ox=.slice ad n1 cp/\n1<=cp:=by
    unfold D.at at g5
    obtain ⟨ad,cp,g6,g7,_⟩:=g5
    exact ⟨ad,cp,g6,g7⟩
   rw [g6] at g5
   refine ⟨_,_,t',⟨c.env++[_],c.ρ,c.H,c.δ⟩,_,h1,h2,ex _ ?_,⟨_,h6,aTL g5 c1 c2⟩,h5,sm _⟩
   rw [g6]
   exact aRY hu hs (c3 cp g7)
  ·rename_i kk e hgx hu
   obtain ⟨⟨q,y⟩,hy,hx⟩:=Option.bind_eq_some_iff.1 hx
   obtain ⟨s,hs,hx⟩:=Option.bind_eq_some_iff.1 hx
   unfold aQD at hx
   split at hx
   ·rename_i oh _ _ _
    obtain ⟨vl,hvl,hx⟩:=Option.bind_eq_some_iff.1 hx
    obtain ⟨lv,hlv,hlb⟩:∃ lv:Value,vl.at (S.at c) lv/\∀ k1 (l1:Int) k2 (h2:Int) (n0 cap:Nat),lv=.int k1 l1->0<=l1->l1<=h2->h2<=cap->quiet P (Instr.sliceBounds true n0 cap (lo.map a.eval) (some (.int k2 h2)) none)=some (l1.toNat,h2.toNat,cap):=by
     cases lo with
     | some ol =>
      refine ⟨a.eval ol,m.get1 hvl,λ k1 l1 k2 h2 n0 cap e h0 h1 h3=>?_⟩
      rw [Option.map_some,e]
      refine aAa (a:=cap) rfl ?_
      refine aAa (a:=h2.toNat) (aEl ⟨by omega,by omega⟩) ?_
      refine aAa (a:=l1.toNat) (aEl ⟨by omega,by omega⟩) ?_
      rfl
     | none =>
      obtain rfl:=Option.some.inj hvl
      refine ⟨.int .i64 0,⟨rfl,rfl⟩,λ k1 l1 k2 h2 n0 cap e h0 h1 h3=>?_⟩
      obtain ⟨_,rfl⟩:=Value.int.inj e
      refine aAa (a:=cap) rfl ?_
      refine aAa (a:=h2.toNat) (aEl ⟨by omega,by omega⟩) ?_
      rfl
    obtain ⟨vh,hvh,rfl⟩:=Option.map_eq_some_iff.1 hx
    obtain ⟨t',hk,rfl⟩:=Option.map_eq_some_iff.1 h
    obtain ⟨rs,r1,r2,r3⟩:=aH2 hr
    obtain ⟨hq,hl,rfl⟩:=aE8 hy
    obtain ⟨v,dv,g4,g5,g6,g7⟩:=m.dy.on y (List.mem_of_getElem? hq) hl
    obtain ⟨g8,_⟩:=m.get1 hgx
    obtain rfl:v=a.eval ox:=Option.some.inj (g4.symm.trans g8)
    have one:∀ {j:Nat} {p:Pu},(p=.lwlo\/p=.lwlen)->([.lwlo,.lwlen]:List Pu)[j]?=some p->∃ d n0 x0 ds0 k1 l1 k2 h2,rs[j]?=some d/\dv=.l n0 (x0::ds0)/\lv=.int k1 l1/\a.eval oh=.int k2 h2/\0<=l1/\l1<=h2/\h2<=n0/\(p=.lwlo->d=.v (.int .i64 l1))/\(p=.lwlen->d=.v (.int .i64 (h2 - l1))):=by
     intro j p hp hj
     obtain ⟨d,vs,e1,f1,f2,f3,f4⟩:=r3 j p hj
     obtain ⟨u1,h7,f3⟩:=Option.bind_eq_some_iff.1 f3
     obtain ⟨us,h8,f3⟩:=Option.bind_eq_some_iff.1 f3
     obtain rfl:=Option.some.inj f3
     obtain ⟨u2,u3,f5,f6,rfl⟩:=aES h8
     obtain ⟨d1,f7,rfl⟩:=aBS h7
     obtain ⟨n0,x0,ds0,k1,l1,k2,h2,q1,q2,q3,q4,q5,q6,q7,q8⟩:=aSS hp f4
     obtain rfl:=V1.one.inj q1
     have he:Ext c ⟨e1,c.ρ,c.H,c.δ⟩:=⟨f2,List.prefix_refl _,Hp.le.refl _,List.prefix_refl _⟩
     exact ⟨d,n0,x0,ds0,k1,l1,k2,h2,f1,Option.some.inj ((aAn f2 g5).symm.trans f7),aFu (c:=⟨e1,c.ρ,c.H,c.δ⟩) (V1.at_mono (S.at_mono he) _ _ hlv) f5 q2,aFu (c:=⟨e1,c.ρ,c.H,c.δ⟩) (V1.at_mono (S.at_mono he) _ _ (m.get1 hvh)) f6 q3,q4,q5,q6,q7,q8⟩
    obtain ⟨d0,n0,x0,ds0,k1,l1,k2,h2,b1,rfl,b2,b3,b4,b5,b6,b7,_⟩:=one (j:=0) (.inl rfl) rfl
    obtain ⟨d1,n0',x0',ds0',k1',l1',k2',h2',b1',e0,b2',b3',_,_,_,_,b8⟩:=one (j:=1) (.inr rfl) rfl
    obtain rfl:=b7 rfl
    obtain rfl:=b8 rfl
    obtain ⟨_,rfl⟩:=Value.int.inj (b2.symm.trans b2')
    obtain ⟨_,rfl⟩:=Value.int.inj (b3.symm.trans b3')
    obtain ⟨xs,p1,p2,p3⟩:=aEk g7
    rcases p3 with ⟨_,rfl⟩ | ⟨g,cap,cur,p3,_,p4,_⟩
    ·have:=p1.length
     rw [p2,Nat.zero_mul] at this
     cases this
    ·have hlen:rs.length=2:=r1
     have e0:(c.env++rs)[st.nv]?=some (.v (.int .i64 l1)):=by
      rw [<- m.nv,List.getElem?_append_right (Nat.le_refl _),Nat.sub_self]
      exact b1
     have e1:(c.env++rs)[st.nv+1]?=some (.v (.int .i64 (h2 - l1))):=by
      rw [<- m.nv,List.getElem?_append_right (Nat.le_add_right _ _),Nat.add_sub_cancel_left]
      exact b1'
     have hb:quiet P (Instr.sliceBounds true n0 cap (lo.map a.eval) (some (a.eval oh)) none)=some (l1.toNat,h2.toNat,cap):=by
      rw [b3]
      exact hlb k1 l1 k2 h2 n0 cap b2 b4 b5 kJ
     refine ⟨_,_,t',⟨c.env++rs,c.ρ,c.H,c.δ⟩,_,(by rw [<- r1] at hk;exact hk),r2,ex _ (by rw [p3];exact aRY hu hs hb),?_,m.bind rs,Ext.bind c rs,rfl,rfl,rfl,rfl,rfl,rfl⟩
     refine ⟨g,n0,cap,.i64,l1.toNat,h2.toNat - l1.toNat,if cap=l1.toNat then ⟨g,0,none⟩ else ⟨g,l1.toNat*s,none⟩,cap - l1.toNat,p3 ▸ g4,?_,?_,by omega,?_,?_⟩
     ·rw [e0]
      congr 3
      show l1=(l1.toNat:Int)
      omega
     ·rw [e1]
      congr 3
      show h2 - l1=((h2.toNat - l1.toNat:Nat):Int)
      omega
     ·by_cases hcl:cap=l1.toNat
      ·exact .inl kJ
      ·exact .inr (if_neg hcl)
     ·congr 1
      by_cases hcl:cap=l1.toNat
      ·rw [if_pos hcl,if_pos hcl]
      ·rw [if_neg hcl,if_neg hcl,Option.map_some,aC4,Nat.zero_add]
   ·cases hx
  ·cases hx
 case call q =>
  obtain ⟨callee,args,ts⟩:=q
  cases callee with
  | builtin b =>
   cases b
   all_goals (try cases hx;done)
   case len =>
    have hx:(match args.toList,ts.toList with
     | [x],[t]=>match st.get1 x,quiet P (underlying t) with
      | some (.one (.dyn k)),some (.slice _)=>(st.dyn? k).map λ (_,y)=>Oa.rd [.llen] [.one (.var y.cv)] λ n=>.one (.var n)
      | some (.one (.win _ _ _ j)),some (.slice _)=>some (.rd [] [] λ _=>.one (.var j))
      | _,_=>none
     | _,_=>none)=some x:=hx
    split at hx
    ·rename_i x0 t0 hx0 ht0
     split at hx
     ·rename_i kk e hgx hu
      obtain ⟨⟨q,y⟩,hy,rfl⟩:=Option.map_eq_some_iff.1 hx
      obtain ⟨t',d,vs,h1,h2,h3,h4,h5,h6⟩:=rd1 m h hr
      obtain ⟨hq,hl,rfl⟩:=aE8 hy
      obtain ⟨u1,g1,rfl⟩:=aGD h3
      obtain ⟨d1,g3,rfl⟩:=aBS g1
      obtain ⟨v,dv,g4,g5,g6,g7⟩:=m.dy.on y (List.mem_of_getElem? hq) hl
      obtain rfl:dv=d1:=Option.some.inj (g5.symm.trans g3)
      obtain ⟨n',ds,ad,cap,rfl,rfl⟩:=own_slice g7
      obtain ⟨g8,_⟩:=m.get1 hgx
      have ev:=Option.some.inj (g4.symm.trans g8)
      obtain rfl:D.v (.int .i64 n')=d:=Option.some.inj h4
      have ea:args.map a.eval=#[a.eval x0]:=by
       apply Array.ext'
       rw [Array.toList_map,hx0]
       rfl
      have et:ts=#[t0]:=by
       apply Array.ext'
       rw [ht0]
      refine ⟨_,_,t',_,.int .i64 n',h1,h2,λ w=>aEj ea et ?_ hop,⟨_,h6,D.at_v.2 ⟨rfl,rfl⟩⟩,h5,sm _⟩
      rw [<- ev]
      exact aAa hu rfl
     ·rename_i jv e hgx hu
      obtain rfl:=Option.some.inj hx
      obtain ⟨t',hk,rfl⟩:=Option.map_eq_some_iff.1 h
      obtain ⟨b,n1,m1,q,lo,len,ad,cap,w1,w2,w3,w4,w5,w6⟩:=m.get1 hgx
      have ea:args.map a.eval=#[a.eval x0]:=by
       apply Array.ext'
       rw [Array.toList_map,hx0]
       rfl
      have et:ts=#[t0]:=by
       apply Array.ext'
       rw [ht0]
      refine ⟨_,_,t',c,.int .i64 (len:Int),hk,hr,λ w=>aEj ea et ?_ hop,⟨_,w3,D.at_v.2 ⟨rfl,rfl⟩⟩,m,Ext.refl c,rfl,rfl,rfl,rfl,rfl,rfl⟩
      rw [w6]
      exact aAa hu rfl
     ·cases hx
    ·cases hx
  | value _=>cases hx
  | invoke _ _=>cases hx
theorem aH3 (m:M B c st a w) {o:Oper} {k:V S->St->Option T} {t:T} (h:aRV P o st k=some t) (hr:t.run P C n L c.env=some r) :
  ∃ v st' t' c' y,k v st'=some t'/\t'.run P C n L c'.env=some r/\(∀ w,(execOp a.eval o).run P w=.ok (.value y) w)/\v.at (S.at c') y/\M B c' st' a w/\Same c c' st st':=by
 obtain ⟨st1,t1,h,hr,m,hsame⟩:=aQJ m h hr
 split at h
 ·rename_i v hv
  obtain ⟨y,hy,hat⟩:=aMR m hv
  exact ⟨v,st1,t1,c,y,h,hr,hy,hat,m,hsame⟩
 ·split at h
  ·rename_i x hx
   obtain ⟨v,st',t',c',y,h1,h2,h3,h4,h5,h6⟩:=aOq m hx h hr
   exact ⟨v,st',t',c',y,h1,h2,h3,h4,h5,hsame.trans h6⟩
  split at h
  ·rename_i p xs hp
   unfold aPl at h
   split at h
   ·rename_i ds hds
    split at h
    ·rename_i x hx
     obtain ⟨y,hy,hat⟩:=aJk m hp (aQK hds) hx
     have e:=D.at_v.1 hat
     exact ⟨_,st1,t1,c,y,h,hr,hy,⟨e.1,by rw [e.1];exact e.2⟩,m,hsame⟩
    ·cases h
   ·obtain ⟨t2,h2,rfl⟩:=Option.map_eq_some_iff.1 h
    have unf:∃ ds d,aAl (V1.val (S.val c.env)) xs=some ds/\p.run P ds=some d/\t2.run P C n L (c.env++[d])=some r:=by
     cases n <;>
     ·unfold T.run T.runB at hr
      obtain ⟨ds,hds,hr⟩:=Option.bind_eq_some_iff.1 hr
      obtain ⟨d,hd,hr⟩:=Option.bind_eq_some_iff.1 hr
      exact ⟨ds,d,hds,hd,hr⟩
    obtain ⟨ds,d,hds,hd,hr⟩:=unf
    obtain ⟨y,hy,hat⟩:=aJk m hp hds hd
    refine ⟨_,_,t2,⟨c.env++[d],c.ρ,c.H,c.δ⟩,y,h2,hr,hy,⟨d,?_,hat⟩,m.bind [d],hsame.trans ⟨Ext.bind c [d],rfl,rfl,rfl,rfl,rfl,rfl⟩⟩
    show (c.env++[d])[st1.nv]?=some d
    rw [<- m.nv,List.getElem?_append_right (Nat.le_refl _),Nat.sub_self]
    rfl
  ·split at h
   ·rename_i q u v hop
    obtain ⟨vq,hq,h⟩:=Option.bind_eq_some_iff.1 h
    obtain ⟨vu,hu,h⟩:=Option.bind_eq_some_iff.1 h
    obtain ⟨vv,hv,h⟩:=Option.bind_eq_some_iff.1 h
    obtain ⟨b,st2,t2,hb,h,hr,m2,hs2⟩:=aGA m (m.get hq) h hr
    refine ⟨_,st2,t2,c,(if b then a.eval u else a.eval v),h,hr,λ w=>?_,?_,m2,hsame.trans hs2⟩
    ·unfold execOp
     rw [hop]
     dsimp only
     rw [hb]
     cases b<;>rfl
    ·cases b
     ·exact m.get hv
     ·exact m.get hu
   ·cases h
theorem aIo (m:M B c st a w) {ops:Array Oper} {o:Oper} {k:Bool->St->Option T} {t:T} (h:aHV ops o st k=some t) (hr:t.run P C n L c.env=some r) :
  ∃ b st' t',Region.wanted o (yielded ops a.tmps)=b/\k b st'=some t'/\t'.run P C n L c.env=some r/\M B c st' a w/\Same c c st st':=by
 unfold aHV at h
 split at h
 ·rename_i hg
  refine ⟨true,st,t,?_,h,hr,m,Same.refl _ _⟩
  unfold Region.wanted
  rw [hg]
 ·rename_i j want hg
  have wt:Region.wanted o (yielded ops a.tmps)=(yielded ops a.tmps j == some want):=by
   unfold Region.wanted
   rw [hg]
  have ge:∀ {v:V S},((ops[j]?).bind (·.dst)).bind (st.tmps[·]?)=some v->∃ y,((ops[j]?).bind (·.dst)).bind (a.tmps[·]?)=some y/\v.at (S.at c) y:=by
   intro v hv
   obtain ⟨d,hd,hv⟩:=Option.bind_eq_some_iff.1 hv
   obtain ⟨y,hy,hat⟩:=m.tm.get hv
   refine ⟨y,?_,hat⟩
   rw [hd,Option.bind_some,<- Array.getElem?_toList]
   exact hy
  split at h
  ·rename_i s hs
   obtain ⟨y,hy,hat⟩:=ge hs
   obtain ⟨b,st2,t2,hb,h,hr,m2,hs2⟩:=aGA m hat h hr
   refine ⟨b == want,st2,t2,?_,h,hr,m2,hs2⟩
   rw [wt]
   unfold yielded
   rw [hy,hb]
   cases b<;>cases want<;>rfl
  ·rename_i vs hs
   obtain ⟨y,hy,vv,_,hat⟩:=ge hs
   refine ⟨false,st,t,?_,h,hr,m,Same.refl _ _⟩
   rw [wt]
   unfold yielded
   rw [hy,hat]
   rfl
  ·cases h
theorem aET (m:M B c st a w) {o:Oper} {v:V1 S} (h:aJb P st o.op=some v) :
  ∃ t x b n,o.op=.load t x/\aER st x=some b/\c.ρ[b]?=some n/\∃ y,(∀ w',w'.heap[n]?=w.heap[n]?->(execOp a.eval o).run P w'=.ok (.value y) w')/\v.at (S.at c) y:=by
 unfold aJb at h
 split at h
 ·rename_i t x hop
  obtain ⟨vx,hx,h⟩:=Option.bind_eq_some_iff.1 h
  obtain ⟨⟨b,o'⟩,hp,h⟩:=Option.bind_eq_some_iff.1 h
  obtain ⟨bl,hb,h⟩:=Option.bind_eq_some_iff.1 h
  obtain ⟨n,hn,e⟩:=aJg hp (m.get1 hx)
  obtain ⟨n',hn',cs,hcs,hat⟩:=m.bl.get hb
  obtain rfl:n'=n:=Option.some.inj (hn'.symm.trans hn)
  have hbo:aER st x=some b:=by
   unfold aER
   rw [hx,Option.bind_some,hp]
   rfl
  have hex:∀ (y:Value) (w':World),(loadVar t ⟨n',o',none⟩).run P w'=.ok y w'->(execOp a.eval o).run P w'=.ok (.value y) w':=by
   intro y w' hy
   unfold execOp
   rw [hop]
   dsimp only
   rw [e]
   have h1:(Instr.loadAt t (.pointer (some ⟨n',o',none⟩))).run P w'=.ok y w':=hy
   exact (run_bind_ok h1).trans rfl
  have hl:=hat.length
  unfold partOf at h
  split at h
  ·rename_i k h1 h2
   split at h
   ·rename_i hle
    obtain rfl:=Option.some.inj h
    refine ⟨t,x,b,n',hop,hbo,hn,.agg (#[]++((cs.toList.drop (o'+0)).take k).toArray),λ w' hw=>hex _ _ ?_,⟨(cs.toList.drop o').take k,(hat.drop o').take k,by simp⟩⟩
    have hw2:w'.heap[n']?=some (.cells cs bl.elem (0,0)):=hw.trans hcs
    unfold loadVar
    refine (run_bind_ok (aBl _ w' h1)).trans ?_
    refine (run_bind_ok (aBl _ w' h2)).trans ?_
    refine (run_bind_ok (run_loadCells hw2 k 0 #[] ?_)).trans rfl
    rw [hl] at hle
    show o'+0+k<=cs.size
    exact hle
   ·cases h
  ·rename_i h1
   obtain ⟨s,hs,rfl⟩:=Option.map_eq_some_iff.1 h
   obtain ⟨y,hy,hat2⟩:=hat.get hs
   refine ⟨t,x,b,n',hop,hbo,hn,y,λ w' hw=>hex _ _ ?_,hat2⟩
   have hw2:w'.heap[n']?=some (.cells cs bl.elem (0,0)):=hw.trans hcs
   unfold loadVar
   refine (run_bind_ok (aBl _ w' h1)).trans ?_
   exact run_load ((cell_at hw2).trans (by rw [<- Array.getElem?_toList];exact hy))
  ·cases h
 ·cases h
theorem aUB {z:List S} {cs:Array Value} (h:All2 (S.at c) z cs.toList) (hz:z≠[]) (n:Nat) :
  All2 (S.at c) ((List.range n).map λ i=>z.getD (i % z.length) default) ((Array.range n).map (cs[· % cs.size]!)).toList:=by
 have hl:=h.length
 have hl2:z.length=cs.size:=hl
 have hpos:0 < z.length:=List.length_pos_iff.2 hz
 rw [Array.toList_map,Array.toList_range]
 generalize List.range n=l
 induction l with
 | nil=>exact trivial
 | cons i l ih =>
  refine ⟨?_,ih⟩
  have hi:i % z.length < z.length:=Nat.mod_lt _ hpos
  obtain ⟨y,hy,hat⟩:=h.get (List.getElem?_eq_getElem hi)
  have e1:z.getD (i % z.length) default=z[i % z.length]:=by rw [List.getD_eq_getElem?_getD,List.getElem?_eq_getElem hi];rfl
  have e2:cs[i % cs.size]! = y:=by
   rw [<- hl2]
   rw [Array.getElem?_toList] at hy
   rw [getElem!_def,hy]
  show S.at c (z.getD (i % z.length) default) (cs[i % cs.size]!)
  rw [e1,e2]
  exact hat
theorem aFN (m:M B c st a w) {o:Oper} {e:TypeId} {ss:List S} {mk:Nat->S} (h:aFW P st o.op=some (e,ss,mk)) :
  ∃ (cs:Array Value) (mkv:Nat->Value),(∀ w,(execOp a.eval o).run P w=.ok (.value (mkv w.heap.size)) (w.alloc (.cells cs e)))/\All2 (S.at c) ss cs.toList/\∀ (c':Cx) b n,c'.ρ[b]?=some n->(mk b).at c' (mkv n):=by
 unfold aFW at h
 split at h
 ·rename_i t hop
  obtain ⟨z,hz,h⟩:=Option.map_eq_some_iff.1 h
  obtain ⟨rfl,rfl,rfl⟩:t=e/\z=ss/\(λ b=>S.ptr b 0)=mk:=by simpa using h
  obtain ⟨x,hx,hat⟩:=aI9 (c:=c) hz
  refine ⟨x.cells,λ n=>.pointer (some ⟨n,0,none⟩),λ w=>?_,hat,λ c' b n hn=>⟨n,hn,rfl⟩⟩
  unfold execOp
  rw [hop]
  have h1:(Instr.alloc t true (.tuple #[])).run P w=.ok (.pointer (some ⟨w.heap.size,0,none⟩)) (w.alloc (.cells x.cells t)):=by
   unfold Instr.alloc
   refine (run_bind_ok (aBl _ w hx)).trans ?_
   rfl
  exact (run_bind_ok h1).trans rfl
 ·rename_i t x hop
  obtain ⟨v,hv,h⟩:=Option.map_eq_some_iff.1 h
  obtain ⟨rfl,rfl,rfl⟩:t=e/\v.cells=ss/\(λ b=>S.ptr b 0)=mk:=by simpa using h
  refine ⟨(a.eval x).cells,λ n=>.pointer (some ⟨n,0,none⟩),λ w=>?_,V1.at_cells (m.get1 hv),λ c' b n hn=>⟨n,hn,rfl⟩⟩
  unfold execOp
  rw [hop]
  rfl
 ·rename_i t n parts hop
  split at h
  ·rename_i el hu
   obtain ⟨s,hs,h⟩:=Option.bind_eq_some_iff.1 h
   split at h
   ·cases h
   ·rename_i hlim
    obtain ⟨z,hz,h⟩:=Option.bind_eq_some_iff.1 h
    split at h
    ·cases h
    rename_i hz0
    have hz0:z≠[]:=λ e=>hz0 (by rw [e];rfl)
    obtain ⟨ps,hps,h⟩:=Option.bind_eq_some_iff.1 h
    obtain ⟨ss',hss,h⟩:=Option.map_eq_some_iff.1 h
    obtain ⟨rfl,rfl,rfl⟩:el=e/\ss'=ss/\(λ b=>S.slice b 0 n n)=mk:=by simpa using h
    obtain ⟨x,hx,hat⟩:=aI9 (c:=c) hz
    have hp:=aIA m hps
    have hl:(parts.map λ (p:Nat × Operand)=>(p.1,a.eval p.2)).toList=parts.toList.map λ (i,x)=>(i,a.eval x):=by simp
    have key:∀ zc:Array Value,All2 (S.at c) ((List.range (n*s)).map λ i=>z.getD (i % z.length) default) ((Array.range (n*s)).map (zc[· % zc.size]!)).toList ->
      (n*s=0/\zc=#[]\/n*s≠0/\zc=x.cells) ->
      ∃ (cs:Array Value) (mkv:Nat->Value),(∀ w,(execOp a.eval o).run P w=.ok (.value (mkv w.heap.size)) (w.alloc (.cells cs el)))/\All2 (S.at c) ss' cs.toList/\∀ (c':Cx) b k,c'.ρ[b]?=some k->((λ b=>S.slice b 0 n n) b).at c' (mkv k):=by
     intro zc hzc hq
     obtain ⟨cs',hf,hcs⟩:=aJQ hss hp hzc
     refine ⟨cs',λ k=>.slice (some ⟨k,0,none⟩) n n,λ w=>?_,hcs,λ c' b k hk=>⟨k,hk,rfl⟩⟩
     unfold execOp
     rw [hop]
     have h1:(Instr.buildSlice t n (parts.map λ (i,x)=>(i,a.eval x))).run P w=.ok (.slice (some ⟨w.heap.size,0,none⟩) n n) (w.alloc (.cells cs' el)):=by
      unfold Instr.buildSlice
      refine (run_bind_ok (aBl _ w hu)).trans ?_
      refine (run_bind_ok (aBl _ w hs)).trans ?_
      rw [if_neg (by have:(2:Nat) ^ 16<=2 ^ 24:=kQ;omega)]
      have tl:(match Instr.fill (λ i=>some (i*s,s)) ((Array.range (n*s)).map (zc[· % zc.size]!)) (parts.map λ (p:Nat × Operand)=>(p.1,a.eval p.2)).toList with
       | some cells=>(do
        let r <- newRow el cells
        Pure.pure (Value.slice (some r) n n):Sem Value)
       | _ => stuck "buildSlice: a part of the wrong size").run P w = .ok (.slice (some ⟨w.heap.size, 0, none⟩) n n) (w.alloc (.cells cs' el)) := by
       rw [hl,hf]
       rfl
      rcases hq with ⟨h0,rfl⟩ | ⟨h0,rfl⟩
      ·dsimp only
       rw [if_pos h0]
       exact (run_bind_ok (a:=#[]) rfl).trans tl
      ·dsimp only
       rw [if_neg h0]
       exact (run_bind_ok (aBl _ w hx)).trans ((run_bind_ok (a:=x.cells) rfl).trans tl)
     exact (run_bind_ok h1).trans rfl
    by_cases h0:n*s=0
    ·refine key #[] ?_ (.inl ⟨h0,rfl⟩)
     rw [h0]
     simp [All2]
    ·exact key x.cells (aUB hat hz0 _) (.inr ⟨h0,rfl⟩)
  ·cases h
 ·cases h
end
end Go.Proofs.YtjefbecmeobegaaGreatDoor.Sx
namespace Go.Proofs.YtjefbecmeobegaaGreatDoor.Sx
open Go Go.RowKit YtjefbecmeobegaaGreatDoorW.PrintLast
section
variable {B:Bs} {w w':World} {c c':Cx} {st:St} {a:Act} {P:Program}
theorem aH4 {b o:Nat}:∀ (xs:List Value) (i:Nat) (acc:Array Value),(∀ (j:Nat) u,xs[j]?=some u->w.cell? ⟨b,o+i+j,none⟩=some u)->(loadCellsFrom ⟨b,o,none⟩ i xs.length acc).run P w=.ok (acc++xs.toArray) w
 | [],i,acc,_=>by
  show Result.ok acc w=.ok (acc++#[]) w
  rw [Array.append_empty]
 | x::xs,i,acc,h=>by
  have hc:w.cell? ((⟨b,o,none⟩:Addr).add i)=some x:=by
   rw [aC4]
   exact h 0 x rfl
  show ((load ((⟨b,o,none⟩:Addr).add i)).bind λ v=>loadCellsFrom ⟨b,o,none⟩ (i+1) xs.length (acc.push v)).run P w=_
  rw [run_bind_ok (run_load hc),aH4 xs (i+1) (acc.push x) (λ j u hj=>by
   rw [show o+(i+1)+j=o+i+(j+1) by omega]
   exact h (j+1) u (by simpa using hj))]
  congr 1
  apply Array.ext'
  simp
theorem aPv {ad:Option Addr} {n cap:Nat} {ns:List Int} (hl:ns.length=n) (h:n=0\/∃ b o,ad=some ⟨b,o,none⟩/\∀ (j:Nat) u,(ns.map (Value.int .u8))[j]?=some u->w.cell? ⟨b,o+j,none⟩=some u) :
  (Conv.bytesToString (.slice ad n cap)).run P w=.ok (.string (strOf ns)) w:=by
 cases ad with
 | none =>
  rcases h with h | ⟨_,_,h,_⟩
  ·obtain rfl:ns=[]:=List.eq_nil_of_length_eq_zero (hl.trans h)
   rfl
  ·cases h
 | some ad =>
  refine run_bytesToString w ad n cap ns ?_
  rcases h with h | ⟨b,o,h,g⟩
  ·obtain rfl:ns=[]:=List.eq_nil_of_length_eq_zero (hl.trans h)
   subst h
   rfl
  ·obtain rfl:=Option.some.inj h
   have:=aH4 (P:=P) (ns.map (Value.int .u8)) 0 #[] (by simpa using g)
   rw [List.length_map,hl,Array.empty_append] at this
   exact this
theorem aH5 {e:TypeId} {g n s:Nat} {cur:Array Value} {xs:List Value} (hg:w.heap[g]?=some (.cells cur e (0,0))) (hx:cur.toList.take (n*s)=xs) {j:Nat} {u:Value} (h:xs[j]?=some u):w.cell? ⟨g,j,none⟩=some u:=by
 rw [cell_at hg]
 rw [<- hx,List.getElem?_take] at h
 split at h
 ·rw [<- Array.getElem?_toList]
  exact h
 ·cases h
theorem aCL {ds:List Dyn} {q i:Nat} {y z:Dyn} (h:(ds.set q y)[i]?=some z):(i=q/\z=y)\/(i≠q/\ds[i]?=some z):=by
 by_cases hi:q=i
 ·subst hi
  obtain ⟨h1,h2⟩:=List.getElem?_eq_some_iff.1 h
  rw [List.getElem_set_self] at h2
  exact .inl ⟨rfl,h2.symm⟩
 ·rw [List.getElem?_set_ne hi] at h
  exact .inr ⟨Ne.symm hi,h⟩
theorem DM.put (m:M B c st a w) {q:Nat} {y y':Dyn} (hq:st.dyns[q]?=some y) (he:Ext c c') (hρ:c'.ρ=c.ρ) (hH:c'.H=c.H) (hlo:B.d0.length<=q)
  (hb:∀ k,k < w.heap.size->some k≠ownB c y->w'.heap[k]?=w.heap[k]?) (hl:y'.live=true) {v:Value} {d:D} (h1:c'.δ[y'.h]?=some v) (h2:c'.env[y'.cv]?=some d) (h3:0 < y'.s) (h4:OwnAt c'.H w' y'.e y'.s v d) (h5:v.ownBlock=ownB c y\/v.ownBlock=some w.heap.size):DM B c' (st.dyns.set q y') w':=by
 have ho:ownB c' y'=v.ownBlock:=ownB_of hl h1
 have old:∀ i z g,i≠q->st.dyns[i]?=some z->ownB c' z=some g->ownB c z=some g/\g < w.heap.size/\ownB c y≠some g:=by
  intro i z g hi hz hg
  rw [m.dy.eq he.δ (List.mem_of_getElem? hz)] at hg
  exact ⟨hg,m.own_lt (List.mem_of_getElem? hz) hg,m.dy.apart i q z y g hi hz hq hg⟩
 have new:∀ g,ownB c' y'=some g->ownB c y=some g\/g=w.heap.size:=by
  intro g hg
  rw [ho] at hg
  rcases h5 with h5 | h5
  ·exact .inl (h5 ▸ hg)
  ·exact .inr (Option.some.inj (hg.symm.trans h5))
 exact {
  on:=λ z hz hlz=>by
   obtain ⟨i,hi⟩:=List.getElem?_of_mem hz
   rcases aCL hi with ⟨_,rfl⟩ | ⟨hne,hi⟩
   ·exact ⟨v,d,h1,h2,h3,h4⟩
   ·obtain ⟨v1,d1,g1,g2,g3,g4⟩:=m.dy.on z (List.mem_of_getElem? hi) hlz
    refine ⟨v1,d1,aAn he.δ g1,aAn he.env g2,g3,?_⟩
    rw [hH]
    refine g4.of λ g hg=>?_
    have hg':ownB c z=some g:=(ownB_of hlz g1).trans hg
    exact hb g (g4.lt hg) λ e=>m.dy.apart i q z y g hne hi hq hg' e.symm
  free:=λ z hz g hg=>by
   rw [hρ,hH]
   obtain ⟨i,hi⟩:=List.getElem?_of_mem hz
   rcases aCL hi with ⟨_,rfl⟩ | ⟨hne,hi⟩
   ·rcases new g hg with h | rfl
    ·exact m.dy.free y (List.mem_of_getElem? hq) g h
    ·refine ⟨λ hm=>?_,λ o=>?_⟩
     ·obtain ⟨i,hi⟩:=List.getElem?_of_mem hm
      exact Nat.lt_irrefl _ (m.rho_lt hi)
     ·cases hc:c.H w.heap.size o with
      | none=>rfl
      | some x=>exact absurd (aCQ (m.hp _ _ _ hc).1) (Nat.lt_irrefl _)
   ·exact m.dy.free z (List.mem_of_getElem? hi) g (old i z g hne hi hg).1
  apart:=λ i j x z g hij hx hz hg hg2=>by
   rcases aCL hx with ⟨rfl,rfl⟩ | ⟨hne,hx⟩
   ·rcases aCL hz with ⟨rfl,_⟩ | ⟨hne2,hz⟩
    ·exact hij rfl
    ·obtain ⟨g1,g2,g3⟩:=old j z g hne2 hz hg2
     rcases new g hg with h | rfl
     ·exact g3 h
     ·omega
   ·obtain ⟨g1,g2,g3⟩:=old i x g hne hx hg
    rcases aCL hz with ⟨rfl,rfl⟩ | ⟨hne2,hz⟩
    ·rcases new g hg2 with h | rfl
     ·exact g3 h
     ·omega
    ·exact m.dy.apart i j x z g hij hx hz g1 (old j z g hne2 hz hg2).1
  base:=λ i z g hi hz hg=>by
   rcases aCL hz with ⟨rfl,rfl⟩ | ⟨hne,hz⟩
   ·rcases new g hg with h | rfl
    ·exact m.dy.base i y g hi hq h
    ·exact m.be.size
   ·exact m.dy.base i z g hi hz (old i z g hne hz hg).1
  pre:=by
   obtain ⟨t,ht⟩:=m.dy.pre
   rw [<- ht,List.set_append_right _ _ hlo]
   exact List.prefix_append _ _ }
theorem DM.add (m:M B c st a w) {y':Dyn} (he:Ext c c') (hρ:c'.ρ=c.ρ) (hH:c'.H=c.H) (hb:∀ k,k < w.heap.size->w'.heap[k]?=w.heap[k]?) (hl:y'.live=true) {v:Value} {d:D} (h1:c'.δ[y'.h]?=some v) (h2:c'.env[y'.cv]?=some d) (h3:0 < y'.s) (h4:OwnAt c'.H w' y'.e y'.s v d)
  (h5:v.ownBlock=none\/v.ownBlock=some w.heap.size):DM B c' (st.dyns++[y']) w':=by
 have ho:ownB c' y'=v.ownBlock:=ownB_of hl h1
 have at1:∀ {i:Nat} {z:Dyn},(st.dyns++[y'])[i]?=some z->st.dyns[i]?=some z\/(i=st.dyns.length/\z=y'):=by
  intro i z h
  rcases Nat.lt_or_ge i st.dyns.length with q | q
  ·rw [List.getElem?_append_left q] at h
   exact .inl h
  ·rw [List.getElem?_append_right q] at h
   have:i - st.dyns.length=0:=by
    have:=(List.getElem?_eq_some_iff.1 h).1
    simp at this
    omega
   rw [this] at h
   exact .inr ⟨by omega,(by simpa using h.symm)⟩
 have new:∀ g,ownB c' y'=some g->g=w.heap.size:=by
  intro g hg
  rw [ho] at hg
  rcases h5 with h5 | h5
  ·rw [h5] at hg
   cases hg
  ·exact Option.some.inj (hg.symm.trans h5)
 have old:∀ (i:Nat) (z:Dyn) (g:Nat),st.dyns[i]?=some z->ownB c' z=some g->ownB c z=some g/\g < w.heap.size:=by
  intro i z g hz hg
  rw [m.dy.eq he.δ (List.mem_of_getElem? hz)] at hg
  exact ⟨hg,m.own_lt (List.mem_of_getElem? hz) hg⟩
 exact {
  on:=λ z hz hlz=>by
   obtain ⟨i,hi⟩:=List.getElem?_of_mem hz
   rcases at1 hi with hi | ⟨_,rfl⟩
   ·obtain ⟨v1,d1,g1,g2,g3,g4⟩:=m.dy.on z (List.mem_of_getElem? hi) hlz
    refine ⟨v1,d1,aAn he.δ g1,aAn he.env g2,g3,?_⟩
    rw [hH]
    exact g4.of λ g hg=>hb g (g4.lt hg)
   ·exact ⟨v,d,h1,h2,h3,h4⟩
  free:=λ z hz g hg=>by
   rw [hρ,hH]
   obtain ⟨i,hi⟩:=List.getElem?_of_mem hz
   rcases at1 hi with hi | ⟨_,rfl⟩
   ·exact m.dy.free z (List.mem_of_getElem? hi) g (old i z g hi hg).1
   ·obtain rfl:=new g hg
    refine ⟨λ hm=>?_,λ o=>?_⟩
    ·obtain ⟨i,hi⟩:=List.getElem?_of_mem hm
     exact Nat.lt_irrefl _ (m.rho_lt hi)
    ·cases hc:c.H w.heap.size o with
     | none=>rfl
     | some x=>exact absurd (aCQ (m.hp _ _ _ hc).1) (Nat.lt_irrefl _)
  apart:=λ i j x z g hij hx hz hg hg2=>by
   rcases at1 hx with hx | ⟨rfl,rfl⟩
   ·obtain ⟨g1,g2⟩:=old i x g hx hg
    rcases at1 hz with hz | ⟨rfl,rfl⟩
    ·exact m.dy.apart i j x z g hij hx hz g1 (old j z g hz hg2).1
    ·have:=new g hg2
     omega
   ·rcases at1 hz with hz | ⟨rfl,_⟩
    ·have:=(old j z g hz hg2).2
     have:=new g hg
     omega
    ·exact hij rfl
  base:=λ i z g hi hz hg=>by
   rcases at1 hz with hz | ⟨rfl,rfl⟩
   ·exact m.dy.base i z g hi hz (old i z g hz hg).1
   ·obtain rfl:=new g hg
    exact m.be.size
  pre:=m.dy.pre.trans (List.prefix_append _ _) }
theorem aEm {α:Type} {l:List α} {x:α} {n:Nat} (h:l.length=n):(l++[x])[n]?=some x:=by
 rw [<- h,List.getElem?_append_right (Nat.le_refl _),Nat.sub_self]
 rfl
theorem aJS {α:Type} {l:List α} {x:α} {i:Nat} {z:α} (h:(l++[x])[i]?=some z):(i < l.length/\l[i]?=some z)\/(i=l.length/\z=x):=by
 rcases Nat.lt_or_ge i l.length with q | q
 ·rw [List.getElem?_append_left q] at h
  exact .inl ⟨q,h⟩
 ·rw [List.getElem?_append_right q] at h
  have:i - l.length=0:=by
   have:=(List.getElem?_eq_some_iff.1 h).1
   simp at this
   omega
  rw [this] at h
  exact .inr ⟨by omega,(by simpa using h.symm)⟩
theorem M.app (m:M B c st a w) {q:Nat} {y:Dyn} (hq:st.dyns[q]?=some y) (hl:y.live=true) (hs:0 < y.s) (hlo:B.d0.length<=q) {v:Value} {d:D} (hg:w.grownBy w' (ownB c y)) (h4:OwnAt c.H w' y.e y.s v d) (h5:v.ownBlock=ownB c y\/v.ownBlock=some w.heap.size) :
  M B ⟨c.env++[d],c.ρ,c.H,c.δ++[v]⟩ { st with nv:=st.nv+1,nd:=st.nd+1,dyns:=st.dyns.set q { y with h:=st.nd,cv:=st.nv } } a w':=by
 have he:Ext c ⟨c.env++[d],c.ρ,c.H,c.δ++[v]⟩:=⟨List.prefix_append _ _,List.prefix_refl _,Hp.le.refl _,List.prefix_append _ _⟩
 have hb:∀ g,v.ownBlock=some g->B.w0.heap.size<=g:=by
  intro g hg
  rcases h5 with h5 | h5
  ·exact m.dy.base q y g hlo hq (h5 ▸ hg)
  ·rw [h5] at hg
   rw [<- Option.some.inj hg]
   exact m.be.size
 refine m.own (row:=ownB c y) he rfl rfl ?_ ?_ (λ k hk hne=>hg.block k hk hne) (m.dy.free y (List.mem_of_getElem? hq)) (m.be.grown hg m.be.size (λ k hk=>m.dy.base q y k hlo hq hk)) ?_ ?_ ?_ ?_
 ·show (c.env++[d]).length=_
  rw [List.length_append,m.nv]
  rfl
 ·show (c.δ++[v]).length=_
  rw [List.length_append,m.dl]
  rfl
 ·intro u hu g hg2
  rcases List.mem_append.1 hu with hu | hu
  ·exact Nat.lt_of_lt_of_le (m.dt u hu g hg2) hg.size
  ·rw [List.mem_singleton] at hu
   subst hu
   exact h4.lt hg2
 ·intro u hu g hg2 hm
  rcases List.mem_append.1 hu with hu | hu
  ·exact m.dr u hu g hg2 hm
  ·rw [List.mem_singleton] at hu
   subst hu
   rcases h5 with h5 | h5
   ·exact (m.dy.free y (List.mem_of_getElem? hq) g (h5 ▸ hg2)).1 hm
   ·rw [h5] at hg2
    obtain ⟨i,hi⟩:=List.getElem?_of_mem hm
    have:=m.rho_lt hi
    have:=Option.some.inj hg2
    omega
 ·intro i u g hi hu hg2
  rcases aJS hu with ⟨_,hu⟩ | ⟨_,rfl⟩
  ·exact m.wd i u g hi hu hg2
  ·exact hb g hg2
 ·exact DM.put m hq he rfl rfl hlo (λ k hk hne=>hg.block k hk hne) hl (aEm m.dl) (aEm m.nv) hs h4 h5
theorem M.sto (m:M B c st a w) {q:Nat} {y:Dyn} (hq:st.dyns[q]?=some y) (hl:y.live=true) (hs:0 < y.s) (hlo:B.d0.length<=q) {v:Value} {d:D} (hv:c.δ[y.h]?=some v) (hb:∀ k,k < w.heap.size->some k≠ownB c y->w'.heap[k]?=w.heap[k]?) (hsz:w.heap.size<=w'.heap.size) (be:Below B.w0.heap.size B.w0 w') (h4:OwnAt c.H w' y.e y.s v d) :
  M B ⟨c.env++[d],c.ρ,c.H,c.δ⟩ { st with nv:=st.nv+1,dyns:=st.dyns.set q { y with cv:=st.nv } } a w':=by
 have he:Ext c ⟨c.env++[d],c.ρ,c.H,c.δ⟩:=Ext.bind c [d]
 refine m.own (row:=ownB c y) he rfl rfl ?_ m.dl hb (m.dy.free y (List.mem_of_getElem? hq)) be ?_ ?_ m.wd ?_
 ·show (c.env++[d]).length=_
  rw [List.length_append,m.nv]
  rfl
 ·exact λ u hu g hg2=>Nat.lt_of_lt_of_le (m.dt u hu g hg2) hsz
 ·exact m.dr
 ·exact DM.put m hq he rfl rfl hlo hb hl hv (aEm m.nv) hs h4 (.inl (ownB_of hl hv).symm)
theorem M.mk' (m:M B c st a w) {s:Nat} {e:TypeId} {v:Value} {d:D} (hs:0 < s) (hb:Below w.heap.size w w') (h4:OwnAt c.H w' e s v d) (h5:v.ownBlock=none\/v.ownBlock=some w.heap.size) :
  M B ⟨c.env++[d],c.ρ,c.H,c.δ++[v]⟩ { st with nv:=st.nv+1,nd:=st.nd+1,dyns:=st.dyns++[⟨st.nd,st.nv,s,e,true⟩] } a w':=by
 have he:Ext c ⟨c.env++[d],c.ρ,c.H,c.δ++[v]⟩:=⟨List.prefix_append _ _,List.prefix_refl _,Hp.le.refl _,List.prefix_append _ _⟩
 refine m.own (row:=none) he rfl rfl ?_ ?_ (λ k hk _=>hb.block k hk) (λ g h=>by cases h) (m.be.trans (hb.mono m.be.size)) ?_ ?_ ?_ ?_
 ·show (c.env++[d]).length=_
  rw [List.length_append,m.nv]
  rfl
 ·show (c.δ++[v]).length=_
  rw [List.length_append,m.dl]
  rfl
 ·intro u hu g hg2
  rcases List.mem_append.1 hu with hu | hu
  ·exact Nat.lt_of_lt_of_le (m.dt u hu g hg2) hb.size
  ·rw [List.mem_singleton] at hu
   subst hu
   exact h4.lt hg2
 ·intro u hu g hg2 hm
  rcases List.mem_append.1 hu with hu | hu
  ·exact m.dr u hu g hg2 hm
  ·rw [List.mem_singleton] at hu
   subst hu
   rcases h5 with h5 | h5
   ·rw [h5] at hg2
    cases hg2
   ·rw [h5] at hg2
    obtain ⟨i,hi⟩:=List.getElem?_of_mem hm
    have:=m.rho_lt hi
    have:=Option.some.inj hg2
    omega
 ·intro i u g hi hu hg2
  rcases aJS hu with ⟨_,hu⟩ | ⟨_,rfl⟩
  ·exact m.wd i u g hi hu hg2
  ·rcases h5 with h5 | h5
   ·rw [h5] at hg2
    cases hg2
   ·rw [h5] at hg2
    rw [<- Option.some.inj hg2]
    exact m.be.size
 ·exact DM.add m he rfl rfl (λ k hk=>hb.block k hk) rfl (aEm m.dl) (aEm m.nv) hs h4 h5
end
end Go.Proofs.YtjefbecmeobegaaGreatDoor.Sx
namespace Go.Proofs.YtjefbecmeobegaaGreatDoor.Sx
open Go Go.RowKit YtjefbecmeobegaaGreatDoorW.PrintLast
def aEL (B:Bs) (pm:Pm):Prop:=B.lo=pm.lo/\B.d0.length=pm.dlo
theorem aFd {P:Program} {t:TypeId} {d:TypeDesc} (h:quiet P (underlying t)=some d):P.underlying t=some d:=by
 cases hp:P.underlying t with
 | none =>
  have:quiet P (underlying t)=none:=by
   show quiet P (match P.underlying t with | some d => Pure.pure d | none => stuck "no such type") = none
   rw [hp]
   rfl
  rw [this] at h
  cases h
 | some d' =>
  have:quiet P (underlying t)=some d':=by
   show quiet P (match P.underlying t with | some d => Pure.pure d | none => stuck "no such type") = some d'
   rw [hp]
   rfl
  rw [this] at h
  exact h
theorem aLU {P:Program} {t:TypeId} {i:TypeInfo} {s:Nat} (hi:P.info? t=some i) (h:quiet P (sizeOf t)=some s):i.size=s:=by
 have e:quiet P (typeInfo t)=some i:=by
  show quiet P (match P.info? t with | some i => Pure.pure i | none => stuck "no such type") = some i
  rw [hi]
  rfl
 have:quiet P (sizeOf t)=some i.size:=aAa e rfl
 exact Option.some.inj (this.symm.trans h)
theorem aLV {P:Program} {t:TypeId} {i:TypeInfo} {z:Value} (hi:P.info? t=some i) (h:quiet P (zeroValue t)=some z):i.zero=some z:=by
 have e:quiet P (typeInfo t)=some i:=by
  show quiet P (match P.info? t with | some i => Pure.pure i | none => stuck "no such type") = some i
  rw [hi]
  rfl
 cases hz:i.zero with
 | none =>
  have h2 : quiet P (zeroValue t) = quiet P (match i.zero with | some v => Pure.pure v | none => unsupported (.resourceLimit "a value of more than 2^22 cells")) := aG5 _ _ e
  rw [hz] at h2
  rw [h] at h2
  cases h2
 | some v =>
  have h2 : quiet P (zeroValue t) = quiet P (match i.zero with | some v => Pure.pure v | none => unsupported (.resourceLimit "a value of more than 2^22 cells")) := aG5 _ _ e
  rw [hz,h] at h2
  exact h2.symm
theorem D.ats_get {H:Hp}:∀ {ds:List D} {b o j:Nat} {d:D},D.ats H b o ds->ds[j]?=some d->∃ x,H b (o+j)=some x/\D.at H d x
 | [],_,_,_,_,_,h=>by cases h
 | x::ds,b,o,j,d,h,g=>by
  unfold D.ats at h
  cases j with
  | zero =>
   obtain rfl:x=d:=by simpa using g
   exact h.1
  | succ j =>
   rw [show o+(j+1)=o+1+j by omega]
   exact D.ats_get h.2 (by simpa using g)
theorem aNw {α:Type} {Q:Nat->α->Prop}:∀ {n:Nat},(∀ q,q < n->∃ x,Q q x)->∃ vs:List α,vs.length=n/\∀ (q:Nat) x,vs[q]?=some x->Q q x
 | 0,_=>⟨[],rfl,λ q x h=>by cases h⟩
 | n+1,h=>by
  obtain ⟨vs,h1,h2⟩:=aNw (n:=n) (Q:=Q) λ q hq=>h q kJ
  obtain ⟨x,hx⟩:=h n (Nat.lt_succ_self n)
  refine ⟨vs++[x],by rw [List.length_append,h1];rfl,λ q y hy=>?_⟩
  rcases aJS hy with ⟨_,hy⟩ | ⟨e,rfl⟩
  ·exact h2 q y hy
  ·rw [e,h1]
   exact hx
theorem aJl {α:Type} {k:Nat}:∀ (vs l:List α) (o:Nat),(putAt l o vs).take k=putAt (l.take k) o vs
 | [],_,_=>rfl
 | v::vs,l,o=>by
  show (putAt (l.set o v) (o+1) vs).take k=putAt ((l.take k).set o v) (o+1) vs
  rw [aJl vs,List.take_set]
theorem aLW {α β:Type} {f:α->Option β}:∀ {l:List α} {r:List β},aAl f l=some r->r.length=l.length
 | [],r,h=>by rw [<- Option.some.inj h];rfl
 | a::l,r,h=>by
  obtain ⟨x,hx,h⟩:=Option.bind_eq_some_iff.1 h
  obtain ⟨y,hy,h⟩:=Option.bind_eq_some_iff.1 h
  rw [<- Option.some.inj h,List.length_cons,List.length_cons,aLW hy]
theorem aLX {α β:Type} {f:α->Option β}:∀ {l:List α} {r:List β} {i:Nat} {a:α},aAl f l=some r->l[i]?=some a->∃ b,r[i]?=some b/\f a=some b
 | [],_,_,_,_,h=>by cases h
 | x::l,r,i,a,h,g=>by
  obtain ⟨y,hy,h⟩:=Option.bind_eq_some_iff.1 h
  obtain ⟨ys,hys,h⟩:=Option.bind_eq_some_iff.1 h
  obtain rfl:=Option.some.inj h
  cases i with
  | zero =>
   obtain rfl:x=a:=by simpa using g
   exact ⟨y,rfl,hy⟩
  | succ i =>
   obtain ⟨b,hb,hf⟩:=aLX (i:=i) hys (by simpa using g)
   exact ⟨b,by simpa using hb,hf⟩
theorem D1.at_cells {h:Hp}:∀ {x:V1 D} {v:Value},x.at (D.at h) v->All2 (D.at h) x.cells v.cells.toList
 | .one s,v,e=>by
  rw [aI8 (D.at_cell e)]
  exact ⟨e,trivial⟩
 | .agg ss,v,⟨vs,e,g⟩=>by
  subst g
  exact e
section
variable {B:Bs} {w:World} {c:Cx} {st:St} {a:Act} {P:Program} {C:Cf} {n:Nat} {L:List T} {r:List D}
theorem aOr {p:Pu} {xs:List (V1 S)} {t:T} {env:List D} (h:(T.pure p xs t).run P C n L env=some r):∃ vs d,aAl (V1.val (S.val env)) xs=some vs/\p.run P vs=some d/\t.run P C n L (env++[d])=some r:=by
 cases n <;>
 ·unfold T.run T.runB at h
  obtain ⟨ds,hds,h⟩:=Option.bind_eq_some_iff.1 h
  obtain ⟨d,hd,h⟩:=Option.bind_eq_some_iff.1 h
  exact ⟨ds,d,hds,hd,h⟩
def OwnR (P:Program) (C:Cf) (n:Nat) (L:List T) (r:List D) (B:Bs) (c:Cx) (st:St) (a:Act) (w:World) (o:Oper) (k:V S->St->Option T):Prop:=
 ∃ v st' t' c' y w' nx,k v st'=some t'/\t'.run P C n L c'.env=some r/\(execOp a.eval o).run P w=.ok nx w'/\(nx=.value y\/nx=.skip/\y=undef)/\v.at (S.at c') y/\M B c' st' a w'/\Ext c c'/\c'.ρ=c.ρ/\c'.H=c.H/\st'.tmps=st.tmps/\st'.blocks=st.blocks
theorem OwnR.mk' {o:Oper} {k:V S->St->Option T} {t:T} {p:Pu} {xs:List (V1 S)} {s:Nat} {e:TypeId} (m:M B c st a w) (h:aBR (.mk p xs s e) st k=some t) (hr:t.run P C n L c.env=some r) (hs:0 < s)
  (hg:∀ vs d,aAl (V1.val (S.val c.env)) xs=some vs->p.run P vs=some d->∃ v w',(execOp a.eval o).run P w=.ok (.value v) w'/\Below w.heap.size w w'/\OwnAt c.H w' e s v d/\(v.ownBlock=none\/v.ownBlock=some w.heap.size)):OwnR P C n L r B c st a w o k:=by
 obtain ⟨t',hk,rfl⟩:=Option.map_eq_some_iff.1 h
 obtain ⟨vs,d,h1,h2,h3⟩:=aOr hr
 obtain ⟨v,w',g1,g2,g3,g4⟩:=hg vs d h1 h2
 refine ⟨_,_,t',_,v,w',_,hk,h3,g1,.inl rfl,?_,m.mk' hs g2 g3 g4,⟨List.prefix_append _ _,List.prefix_refl _,Hp.le.refl _,List.prefix_append _ _⟩,rfl,rfl,rfl,rfl⟩
 obtain ⟨_,_,ad,cap,_,e⟩:=own_slice g3
 exact ⟨aEm m.dl,ad,_,cap,e⟩
theorem OwnR.rd {o:Oper} {k:V S->St->Option T} {t:T} {p:Pu} {xs:List (V1 S)} (m:M B c st a w) (h:aBR (.rd [p] xs λ n=>.one (.var n)) st k=some t) (hr:t.run P C n L c.env=some r)
  (hg:∀ vs d,aAl (V1.val (S.val c.env)) xs=some vs->p.run P vs=some d->∃ v,(execOp a.eval o).run P w=.ok (.value v) w/\D.at c.H d v):OwnR P C n L r B c st a w o k:=by
 obtain ⟨t',d,vs,h1,h2,h3,h4,h5,h6⟩:=rd1 m h hr
 obtain ⟨v,g1,g2⟩:=hg vs d h3 h4
 exact ⟨_,_,t',⟨c.env++[d],c.ρ,c.H,c.δ⟩,v,w,_,h1,h2,g1,.inl rfl,⟨d,h6,g2⟩,h5,Ext.bind c [d],rfl,rfl,rfl,rfl⟩
theorem aPw (m:M B c st a w) {pm:Pm} {o:Oper} {x:Oa} {k:V S->St->Option T} {t:T} {t0:TypeId} {n0:Nat} {ps:Array (Nat × Operand)} (ho:o.op=.buildSlice t0 n0 ps) (hx:aDT P pm st o.op=some x) (h:aBR x st k=some t) (hr:t.run P C n L c.env=some r):OwnR P C n L r B c st a w o k:=by
 rw [ho] at hx
 cases n0 with
 | succ _=>cases hx
 | zero =>
  have hx:(match quiet P (underlying t0) with
   | some (.slice e)=>match quiet P (sizeOf e) with
    | some s=>if 0 < s/\ps.size=0 then some (Oa.mk .lnil [] s e) else none
    | _=>none
   | _=>none)=some x:=hx
  split at hx
  ·rename_i e hu
   split at hx
   ·rename_i s hs
    split at hx
    ·rename_i hps
     obtain rfl:=Option.some.inj hx
     refine OwnR.mk' m h hr hps.1 ?_
     intro vs d h1 h2
     obtain rfl:=Option.some.inj h1
     obtain rfl:=Option.some.inj h2
     obtain rfl:ps=#[]:=Array.eq_empty_of_size_eq_zero hps.2
     refine ⟨.slice (some ⟨w.heap.size,0,none⟩) 0 0,w.alloc (.cells #[] e),?_,(Below.refl _ _).alloc (Nat.le_refl _) _,⟨0,[],[],rfl,World.ownsRow_made w #[] 0 (Nat.zero_le _) kQ (by simp),trivial⟩,.inr rfl⟩
     unfold execOp
     rw [ho]
     have h1:(Instr.buildSlice t0 0 ((#[]:Array (Nat × Operand)).map λ (i,x)=>(i,a.eval x))).run P w=.ok (.slice (some ⟨w.heap.size,0,none⟩) 0 0) (w.alloc (.cells #[] e)):=by
      unfold Instr.buildSlice
      refine (run_bind_ok (aBl _ w hu)).trans ?_
      refine (run_bind_ok (aBl _ w hs)).trans ?_
      rw [if_neg (by rw [Nat.zero_mul];decide)]
      dsimp only
      rw [if_pos (Nat.zero_mul s)]
      refine (run_bind_ok (a:=#[]) rfl).trans ?_
      have e0:(Array.range (0*s)).map (λ i=>(#[]:Array Value)[i % (#[]:Array Value).size]!)=#[]:=by
       rw [Nat.zero_mul]
       simp
      rw [e0,Array.map_empty]
      rfl
     exact (run_bind_ok h1).trans rfl
    ·cases hx
   ·cases hx
  ·cases hx
theorem aPx (z:Value) (n:Nat):(madeCells #[z] n).toList=List.replicate n z:=by
 unfold madeCells
 rw [Array.toList_map,Array.toList_range]
 refine List.eq_replicate_iff.2 ⟨by simp,?_⟩
 intro b hb
 obtain ⟨i,_,rfl⟩:=List.mem_map.1 hb
 simp [Nat.mod_one]
theorem aNx {h:Hp} {z:Value} (hz:aAS z=true):∀ n:Nat,All2 (D.at h) (List.replicate n (.v z)) (List.replicate n z)
 | 0=>trivial
 | n+1=>⟨D.at_v.2 ⟨rfl,hz⟩,aNx hz n⟩
theorem room_le {n b:Nat} (h:aCh n b=true):n*b<=140737488355328/\n<=140737488355328:=by
 unfold aCh at h
 rw [Bool.and_eq_true,decide_eq_true_eq,decide_eq_true_eq] at h
 exact h
theorem aOs {z:Value} {b:Nat} {x y:V1 D} {d:D} (h:(Pu.lmake z b).run P [x,y]=some d):∃ k l q m,x=.one (.v (.int k l))/\y=.one (.v (.int q m))/\0<=l/\l<=m/\aCh m.toNat b=true/\d=.l l.toNat (List.replicate l.toNat (.v z)):=by
 have h:(Pu.lmake z b).lrun [x,y]=some d:=h
 cases x with
 | agg _=>cases h
 | one x =>
  cases x with
  | l _ _=>cases h
  | v x =>
   cases x<;>first | (cases h;done) | skip
   rename_i k l _
   cases y with
   | agg _=>cases h
   | one y =>
    cases y with
    | l _ _=>cases h
    | v y =>
     cases y<;>first | (cases h;done) | skip
     rename_i q m _
     have h:(if 0<=l/\l<=m/\aCh m.toNat b=true then some (D.l l.toNat (List.replicate l.toNat (.v z))) else none)=some d:=h
     split at h
     ·rename_i hc
      exact ⟨k,l,q,m,rfl,rfl,hc.1,hc.2.1,hc.2.2,(Option.some.inj h).symm⟩
     ·cases h
theorem aQL (m:M B c st a w) {pm:Pm} {o:Oper} {x:Oa} {k:V S->St->Option T} {t:T} {t0:TypeId} {l q:Operand} (ho:o.op=.makeSlice t0 l q) (hx:aDT P pm st o.op=some x) (h:aBR x st k=some t) (hr:t.run P C n L c.env=some r):OwnR P C n L r B c st a w o k:=by
 rw [ho] at hx
 have hx:(match quiet P (underlying t0) with
  | some (.slice e)=>match quiet P (sizeOf e),quiet P (zeroValue e),P.info? e with
   | some 1,some z,some i=>if aAS z then (st.get1 l).bind λ vl=>(st.get1 q).map λ vc=>Oa.mk (.lmake z i.bytes) [vl,vc] 1 e else none
   | _,_,_=>none
  | _=>none)=some x:=hx
 split at hx
 ·rename_i e hu
  split at hx
  ·rename_i z i hs hz hi
   split at hx
   ·rename_i hcz
    obtain ⟨vl,hl,hx⟩:=Option.bind_eq_some_iff.1 hx
    obtain ⟨vc,hc,rfl⟩:=Option.map_eq_some_iff.1 hx
    refine OwnR.mk' m h hr kQ ?_
    intro vs d h1 h2
    obtain ⟨u1,u2,g1,g2,rfl⟩:=aES h1
    obtain ⟨kl,li,kc,ci,rfl,rfl,i0,i1,i2,rfl⟩:=aOs h2
    have el:a.eval l=.int kl li:=by
     have h7:D.at c.H (.v (.int kl li)) (a.eval l):=V1.val_at (m.get1 hl) g1
     exact (D.at_v.1 h7).1
    have ec:a.eval q=.int kc ci:=by
     have h7:D.at c.H (.v (.int kc ci)) (a.eval q):=V1.val_at (m.get1 hc) g2
     exact (D.at_v.1 h7).1
    obtain ⟨r1,r2⟩:=room_le i2
    have r1':(ci.toNat:Int)*i.bytes<=140737488355328:=by
     have h9:((ci.toNat*i.bytes:Nat):Int)<=((140737488355328:Nat):Int):=Int.ofNat_le.2 r1
     rwa [Int.natCast_mul] at h9
    have ecn:(ci.toNat:Int)=ci:=by omega
    rw [ecn,Int.mul_comm] at r1'
    have hrun:=run_make (P:=P) w t0 e i z (aFd hu) hi (aLV hi hz) kl kc li ci i0 i1 kJ kJ
    have hsz:i.size=1:=aLU hi hs
    rw [hsz,aI8 hcz] at hrun
    refine ⟨.slice (some ⟨w.heap.size,0,none⟩) li.toNat ci.toNat,w.alloc (.cells (madeCells #[z] (ci.toNat*1)) e),?_,(Below.refl _ _).alloc (Nat.le_refl _) _,⟨li.toNat,_,List.replicate li.toNat z,rfl,⟨by rw [List.length_replicate,Nat.mul_one],.inr ⟨w.heap.size,ci.toNat,madeCells #[z] (ci.toNat*1),rfl,Nat.zero_le _,heap_alloc_new _ _,Int.toNat_le_toNat i1,?_,size_madeCells _ _,?_⟩⟩,aNx hcz _⟩,.inr rfl⟩
    ·unfold execOp
     rw [ho]
     dsimp only
     rw [el,ec]
     exact (run_bind_ok hrun).trans rfl
    ·exact Nat.le_trans r2 kQ
    ·rw [aPx,List.take_replicate,Nat.mul_one,Nat.mul_one,Nat.min_eq_left (Int.toNat_le_toNat i1)]
   ·cases hx
  ·cases hx
 ·cases hx
theorem aH6 {h:Hp}:∀ {ds:List D} {ns:List Int} {xs:List Value},aAl aD8 ds=some ns->All2 (D.at h) ds xs->xs=ns.map (Value.int .u8)
 | [],ns,[],e,_=>by
  obtain rfl:=Option.some.inj e
  rfl
 | d::ds,ns,x::xs,e,g=>by
  obtain ⟨b,hb,e⟩:=Option.bind_eq_some_iff.1 e
  obtain ⟨bs,hbs,e⟩:=Option.bind_eq_some_iff.1 e
  obtain rfl:=Option.some.inj e
  rw [List.map_cons,aH6 hbs g.2]
  congr 1
  unfold aD8 at hb
  split at hb
  ·obtain rfl:=Option.some.inj hb
   exact (D.at_v.1 g.1).1
  ·cases hb
 | [],_,_::_,_,g=>g.elim
 | _::_,_,[],_,g=>g.elim
theorem aK9 {x:V1 D} {d:D} (h:Pu.lstr.run P [x]=some d):∃ n ds ns,x=.one (.l n ds)/\ds.length=n/\aAl aD8 ds=some ns/\d=.v (.string (strOf ns)):=by
 have h:Pu.lstr.lrun [x]=some d:=h
 cases x with
 | agg _=>cases h
 | one x =>
  cases x with
  | v _=>cases h
  | l n ds =>
   have h:(if ds.length=n then (aAl aD8 ds).map λ ns=>D.v (.string (strOf ns)) else none)=some d:=h
   split at h
   ·obtain ⟨ns,h1,rfl⟩:=Option.map_eq_some_iff.1 h
    exact ⟨n,ds,ns,rfl,‹_›,h1,rfl⟩
   ·cases h
theorem aOt {x:V1 D} {d:D} (h:Pu.lbstr.run P [x]=some d):∃ ds ns,x=.agg ds/\aAl aD8 ds=some ns/\d=.v (.string (strOf ns)):=by
 have h:Pu.lbstr.lrun [x]=some d:=h
 cases x with
 | one _=>cases h
 | agg ds =>
  obtain ⟨ns,h1,rfl⟩:=Option.map_eq_some_iff.1 h
  exact ⟨ds,ns,rfl,h1,rfl⟩
theorem aH7 (m:M B c st a w) {b o q:Nat} {cs:List S} (h:cellsOf st b o q=some cs) {nb:Nat} (hb:c.ρ[b]?=some nb) :
  ∃ vs:List Value,All2 (S.at c) cs vs/\vs.length=q/\∀ (j:Nat) u,vs[j]?=some u->w.cell? ⟨nb,o+j,none⟩=some u:=by
 obtain ⟨bl,hbl,h⟩:=Option.bind_eq_some_iff.1 h
 split at h
 ·rename_i hle
  obtain rfl:=Option.some.inj h
  obtain ⟨n',hn',cur,hc,hat⟩:=m.bl.get hbl
  obtain rfl:n'=nb:=Option.some.inj (hn'.symm.trans hb)
  have hl:=hat.length
  refine ⟨(cur.toList.drop o).take q,(hat.drop o).take q,by rw [List.length_take,List.length_drop];omega,λ j u hj=>?_⟩
  rw [List.getElem?_take] at hj
  split at hj
  ·rw [List.getElem?_drop] at hj
   rw [cell_at hc,<- Array.getElem?_toList]
   exact hj
  ·cases hj
 ·cases h
theorem aJT {env:List D} {ss:List S} {v:V1 D} (h:V1.val (S.val env) (.agg ss)=some v):∃ ds,aAl (S.val env) ss=some ds/\v=.agg ds:=by
 obtain ⟨d,hd,h⟩:=Option.bind_eq_some_iff.1 h
 exact ⟨d,hd,(Option.some.inj h).symm⟩
theorem aQM (m:M B c st a w) {pm:Pm} {o:Oper} {x:Oa} {k:V S->St->Option T} {t:T} {src dst:TypeId} {q:Operand} (ho:o.op=.convert src dst q) (hx:aDT P pm st o.op=some x) (h:aBR x st k=some t) (hr:t.run P C n L c.env=some r):OwnR P C n L r B c st a w o k:=by
 rw [ho] at hx
 have hx:(match quiet P (underlying src),quiet P (underlying dst) with
  | some (.slice e),some .string=>match quiet P (underlying e),st.get1 q with
   | some (.int .u8),some (.one (.dyn k))=>(st.dyn? k).bind λ (_,y)=>if y.s=1 then some (Oa.rd [.lstr] [.one (.var y.cv)] λ n=>.one (.var n)) else none
   | some (.int .u8),some (.one (.var v))=>some (.rd [.lstr] [.one (.var v)] λ n=>.one (.var n))
   | some (.int .u8),some (.one (.slice b o n _))=>(cellsOf st b o n).map λ cs=>.rd [.lbstr] [.agg cs] λ n=>.one (.var n)
   | _,_=>none
  | _,_=>none)=some x:=hx
 split at hx
 ·rename_i e hsrc hdst
  have fin:∀ {ad:Option Addr} {l cap:Nat} {ns:List Int},quiet P (underlying e)=some (.int .u8)->a.eval q=.slice ad l cap->ns.length=l->(l=0\/∃ b o,ad=some ⟨b,o,none⟩/\∀ (j:Nat) u,(ns.map (Value.int .u8))[j]?=some u->w.cell? ⟨b,o+j,none⟩=some u) ->
    (execOp a.eval o).run P w=.ok (.value (.string (strOf ns))) w:=by
   intro ad l cap ns he hq hl hc
   have h1:(convert src dst (a.eval q)).run P w=.ok (.string (strOf ns)) w:=by
    rw [hq,run_convert_bytes_string w src dst e ad l cap (aFd hsrc) (aFd he) (aFd hdst)]
    exact aPv hl hc
   unfold execOp
   rw [ho]
   exact (run_bind_ok h1).trans rfl
  split at hx
  ·rename_i kk he hg
   obtain ⟨⟨qq,y⟩,hy,hx⟩:=Option.bind_eq_some_iff.1 hx
   dsimp only at hx
   split at hx
   ·rename_i hs1
    obtain rfl:=Option.some.inj hx
    refine OwnR.rd m h hr ?_
    intro vs d h1 h2
    obtain ⟨hqq,hl,rfl⟩:=aE8 hy
    obtain ⟨u1,g1,rfl⟩:=aGD h1
    obtain ⟨d1,g2,rfl⟩:=aBS g1
    obtain ⟨n',ds,ns,e1,e2,e3,rfl⟩:=aK9 h2
    obtain rfl:=V1.one.inj e1
    obtain ⟨v,dv,g4,g5,g6,g7⟩:=m.dy.on y (List.mem_of_getElem? hqq) hl
    obtain rfl:dv=.l n' ds:=Option.some.inj (g5.symm.trans g2)
    obtain ⟨g8,_⟩:=m.get1 hg
    obtain rfl:v=a.eval q:=Option.some.inj (g4.symm.trans g8)
    obtain ⟨xs,p1,p2,p3⟩:=aEk g7
    have hxs:=aH6 e3 p1
    have hln:ns.length=n':=by
     have h1:xs.length=ns.length:=by rw [hxs,List.length_map]
     have h2:=p1.length
     omega
    refine ⟨_,?_,D.at_v.2 ⟨rfl,rfl⟩⟩
    rcases p3 with ⟨p3,p4⟩ | ⟨g,cap,cur,p3,p4,_,_,_,p5⟩
    ·exact fin he p3 kJ (.inl rfl)
    ·refine fin he p3 hln (.inr ⟨g,0,rfl,λ j u hj=>?_⟩)
     rw [Nat.zero_add]
     rw [<- hxs] at hj
     exact aH5 p4 p5 hj
   ·cases hx
  ·rename_i vv he hg
   obtain rfl:=Option.some.inj hx
   refine OwnR.rd m h hr ?_
   intro vs d h1 h2
   obtain ⟨u1,g1,rfl⟩:=aGD h1
   obtain ⟨d1,g2,rfl⟩:=aBS g1
   obtain ⟨n',ds,ns,e1,e2,e3,rfl⟩:=aK9 h2
   obtain rfl:=V1.one.inj e1
   obtain ⟨dv,g4,g5⟩:=m.get1 hg
   obtain rfl:dv=.l n' ds:=Option.some.inj (g4.symm.trans g2)
   unfold D.at at g5
   obtain ⟨ad,cp,g6,_,g7⟩:=g5
   have hln:ns.length=n':=(aLW e3).trans e2
   refine ⟨_,?_,D.at_v.2 ⟨rfl,rfl⟩⟩
   rcases g7 with rfl | ⟨b,o0,rfl,g7⟩
   ·exact fin he g6 hln (.inl e2.symm)
   ·refine fin he g6 hln (.inr ⟨b,o0,rfl,λ j u hj=>?_⟩)
    rw [List.getElem?_map] at hj
    obtain ⟨i,hi,rfl⟩:=Option.map_eq_some_iff.1 hj
    have hjl:j < ds.length:=by
     have:=(List.getElem?_eq_some_iff.1 hi).1
     omega
    obtain ⟨xx,hx1,hx2⟩:=D.ats_get g7 (List.getElem?_eq_getElem hjl)
    obtain ⟨bb,hb1,hb2⟩:=aLX e3 (List.getElem?_eq_getElem hjl)
    obtain rfl:bb=i:=Option.some.inj (hb1.symm.trans hi)
    have hxv:xx=.int .u8 bb:=by
     unfold aD8 at hb2
     split at hb2
     ·rename_i hd
      obtain rfl:=Option.some.inj hb2
      rw [hd] at hx2
      exact (D.at_v.1 hx2).1
     ·cases hb2
    rw [<- hxv]
    exact (m.hp _ _ _ hx1).1
  ·rename_i b o' l cap he hg
   obtain ⟨cs,hcs,rfl⟩:=Option.map_eq_some_iff.1 hx
   refine OwnR.rd m h hr ?_
   intro vs d h1 h2
   obtain ⟨u1,g1,rfl⟩:=aGD h1
   obtain ⟨ds,g2,rfl⟩:=aJT g1
   obtain ⟨ds',ns,e1,e3,rfl⟩:=aOt h2
   obtain rfl:=V1.agg.inj e1
   obtain ⟨nb,hnb,ev⟩:=m.get1 hg
   obtain ⟨xs,p1,p2,p3⟩:=aH7 m hcs hnb
   have p4:=aEh (R:=S.at c) (λ _ _ _=>S.val_at) p1 g2
   have hxs:=aH6 e3 p4
   refine ⟨_,fin he ev (by rw [<- p2,hxs,List.length_map]) (.inr ⟨nb,o',rfl,λ j u hj=>?_⟩),D.at_v.2 ⟨rfl,rfl⟩⟩
   rw [<- hxs] at hj
   exact p3 j u hj
  ·cases hx
 ·cases hx
end
end Go.Proofs.YtjefbecmeobegaaGreatDoor.Sx
