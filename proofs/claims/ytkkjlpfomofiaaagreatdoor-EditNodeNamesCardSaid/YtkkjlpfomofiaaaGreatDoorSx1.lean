/- MERGED by merge.py: SxA SxB SxC SxD SxE SxM SxO -/
import Derived.WalkKit
import Derived.Calls
import Derived.OrdersHeld
import Derived.Test.YtkkjlpfomofiaaaGreatDoorXWords
import Derived.Laws.Sem
import Derived.Below
import Derived.Maps.AppendAt
import Derived.Laws.MakeOwn
import Derived.Laws.BytesString
import Derived.Lib.ConvBytes
import Derived.Lib.AppendStr
namespace Go.Proofs.YtkkjlpfomofiaaaGreatDoor.Sx
open Go
def quiet {α:Type} (P:Program):Sem α→Option α
 | .pure a=>some a
 | .program k=>quiet P (k P)
 | _=>none
theorem aA1 {α:Type} {P:Program} (s:Sem α):∀ {a:α} (w:World),quiet P s=some a→s.run P w=.ok a w:=by
 induction s with
 | pure b =>
  intro a w h
  obtain rfl:=Option.some.inj h
  rfl
 | program k ih =>
  intro a w h
  show (k P).run P w=.ok a w
  exact ih P w h
 | _=>intro a w h;cases h
theorem aEz {α β:Type} {P:Program} (s:Sem α) (f:α→Sem β):∀ {a:α},quiet P s=some a→quiet P (s.bind f)=quiet P (f a):=by
 induction s with
 | pure b =>
  intro a h
  obtain rfl:=Option.some.inj h
  rfl
 | program k ih =>
  intro a h
  show quiet P ((k P).bind f)=_
  exact ih P h
 | _=>intro a h;cases h
theorem aAa {α β:Type} {P:Program} {s:Sem α} {f:α→Sem β} {a:α} {b:β} (h:quiet P s=some a) (g:quiet P (f a)=some b):quiet P (s >>= f)=some b:=by
 show quiet P (s.bind f)=some b
 rw [aEz s f h,g]
theorem aA2 {P:Program} {s:Sem Value} {v:Value} (w:World) (h:quiet P s=some v):(do Pure.pure (Next.value (← s)):Sem Next).run P w=.ok (.value v) w:=
 aA1 _ w (aAa h rfl)
theorem run_bind_ok {α β:Type} {P:Program} {s:Sem α} {f:α→Sem β} {w w':World} {a:α} (h:s.run P w=.ok a w'):(s.bind f).run P w=(f a).run P w':=by
 have:=Sem.run_bind' P s f w
 rw [h] at this
 exact this
def All2 {α β:Type} (R:α→β→Prop):List α→List β→Prop
 | [],[]=>True
 | a::l,b::m=>R a b∧All2 R l m
 | _,_=>False
namespace All2
variable {α β:Type} {R R':α→β→Prop}
theorem length:∀ {l:List α} {m:List β},All2 R l m→l.length=m.length
 | [],[],_=>rfl
 | _::_,_::_,h=>by rw [List.length_cons,List.length_cons,length h.2]
 | [],_::_,h=>h.elim
 | _::_,[],h=>h.elim
theorem mono (hR:∀ a b,R a b→R' a b):∀ {l:List α} {m:List β},All2 R l m→All2 R' l m
 | [],[],_=>trivial
 | _::_,_::_,h=>⟨hR _ _ h.1,mono hR h.2⟩
 | [],_::_,h=>h.elim
 | _::_,[],h=>h.elim
theorem get:∀ {l:List α} {m:List β} {i:Nat} {a:α},All2 R l m→l[i]?=some a→∃ b,m[i]?=some b∧R a b
 | x::_,y::_,0,a,h,e=>⟨y,rfl,by rw [← (show x=a by simpa using e)];exact h.1⟩
 | _::l,_::m,i+1,a,h,e=>by
  obtain ⟨b,hb,hr⟩:=get (i:=i) h.2 (by simpa using e)
  exact ⟨b,by simpa using hb,hr⟩
 | [],[],_,_,_,e=>by simp at e
 | [],_::_,_,_,h,_=>h.elim
 | _::_,[],_,_,h,_=>h.elim
theorem app:∀ {l l':List α} {m m':List β},All2 R l m→All2 R l' m'→All2 R (l++l') (m++m')
 | [],_,[],_,_,h=>h
 | _::_,_,_::_,_,h,h'=>⟨h.1,app h.2 h'⟩
 | [],_,_::_,_,h,_=>h.elim
 | _::_,_,[],_,h,_=>h.elim
theorem set:∀ {l:List α} {m:List β} {a:α} {b:β} (i:Nat),All2 R l m→R a b→All2 R (l.set i a) (m.set i b)
 | [],[],_,_,_,_,_=>trivial
 | _::_,_::_,_,_,0,h,r=>⟨r,h.2⟩
 | _::_,_::_,_,_,i+1,h,r=>⟨h.1,set i h.2 r⟩
 | [],_::_,_,_,_,h,_=>h.elim
 | _::_,[],_,_,_,h,_=>h.elim
theorem drop:∀ {l:List α} {m:List β} (i:Nat),All2 R l m→All2 R (l.drop i) (m.drop i)
 | _,_,0,h=>h
 | [],[],_+1,h=>h
 | _::_,_::_,i+1,h=>drop i h.2
 | [],_::_,_,h=>h.elim
 | _::_,[],_,h=>h.elim
theorem take:∀ {l:List α} {m:List β} (i:Nat),All2 R l m→All2 R (l.take i) (m.take i)
 | _,_,0,_=>trivial
 | [],[],_+1,h=>h
 | _::_,_::_,i+1,h=>⟨h.1,take i h.2⟩
 | [],_::_,_,h=>h.elim
 | _::_,[],_,h=>h.elim
theorem split:∀ {l:List α} {m:List β} {l':List α},All2 R (l++l') m→∃ m1 m2,m=m1++m2∧All2 R l m1∧All2 R l' m2
 | [],m,_,h=>⟨[],m,rfl,trivial,h⟩
 | _::_,b::m,_,h=>by
  obtain ⟨m1,m2,rfl,h1,h2⟩:=split h.2
  exact ⟨b::m1,m2,rfl,⟨h.1,h1⟩,h2⟩
 | _::_,[],_,h=>h.elim
theorem of_map {γ:Type} {f:γ→α}:∀ {l:List γ} {m:List β},All2 (fun c b=>R (f c) b) l m→All2 R (l.map f) m
 | [],[],_=>trivial
 | _::_,_::_,h=>⟨h.1,of_map h.2⟩
 | [],_::_,h=>h.elim
 | _::_,[],h=>h.elim
end All2
theorem aAd {α:Type} {l m:List α} {i:Nat} {a:α} (h:l <+: m) (e:l[i]?=some a):m[i]?=some a:=by
 obtain ⟨t,rfl⟩:=h
 rw [List.getElem?_append_left (List.getElem?_eq_some_iff.1 e).1]
 exact e
def aA5:Value→Bool
 | .agg _ | .tuple _=>false
 | _=>true
theorem aGh {v:Value} (h:aA5 v=true):v.cells=#[v]:=by
 cases v<;>first | rfl | cases h
inductive D where
 | v (x:Value)
 | l (n:Nat) (ds:List D)
 | err
 deriving Inhabited
abbrev Hp:=Nat→Nat→Option Value
mutual
def D.at (H:Hp):D→Value→Prop
 | .v x,y=>y=x∧aA5 x=true
 | .l n ds,y=>∃ a c,y=.slice a n c∧n≤c∧(ds=[]∨∃ b o,a=some ⟨b,o,none⟩∧D.ats H b o ds)
 | .err,y=>∃ t x,y=.iface t x
def D.ats (H:Hp) (b o:Nat):List D→Prop
 | []=>True
 | d::ds=>(∃ x,H b o=some x∧D.at H d x)∧D.ats H b (o+1) ds
end
def Hp.le (H H':Hp):Prop:=∀ b o x,H b o=some x→H' b o=some x
theorem Hp.le.refl (H:Hp):Hp.le H H:=fun _ _ _ h=>h
theorem Hp.le.trans {A B C:Hp} (h:Hp.le A B) (g:Hp.le B C):Hp.le A C:=fun b o x e=>g b o x (h b o x e)
mutual
theorem D.at_mono {H H':Hp} (h:Hp.le H H'):∀ (d:D) (y:Value),D.at H d y→D.at H' d y
 | .v _,_,e=>e
 | .l n ds,y,e=>by
  unfold D.at at e ⊢
  obtain ⟨a,c,e1,e0,e2⟩:=e
  refine ⟨a,c,e1,e0,?_⟩
  rcases e2 with e2 | ⟨b,o,e2,e3⟩
  ·exact .inl e2
  ·exact .inr ⟨b,o,e2,D.ats_mono h ds b o e3⟩
 | .err,_,e=>by
  unfold D.at at e ⊢
  exact e
theorem D.ats_mono {H H':Hp} (h:Hp.le H H'):∀ (ds:List D) (b o:Nat),D.ats H b o ds→D.ats H' b o ds
 | [],_,_,_=>by unfold D.ats;trivial
 | d::ds,b,o,e=>by
  unfold D.ats at e ⊢
  obtain ⟨⟨x,e1,e2⟩,e3⟩:=e
  exact ⟨⟨x,h _ _ _ e1,D.at_mono h d x e2⟩,D.ats_mono h ds b (o+1) e3⟩
end
theorem D.at_cell {H:Hp}:∀ {d:D} {y:Value},D.at H d y→aA5 y=true
 | .v _,_,e=>by
  unfold D.at at e
  rw [e.1]
  exact e.2
 | .l _ _,_,e=>by
  unfold D.at at e
  obtain ⟨a,c,e1,_⟩:=e
  rw [e1]
  rfl
 | .err,_,e=>by
  unfold D.at at e
  obtain ⟨t,x,e1⟩:=e
  rw [e1]
  rfl
theorem D.at_v {H:Hp} {x y:Value}:D.at H (.v x) y ↔ y=x∧aA5 x=true:=by unfold D.at;exact Iff.rfl
inductive S where
 | var (i:Nat)
 | const (v:Value)
 | ptr (b o:Nat)
 | slice (b o len cap:Nat)
 | func (f:FuncId) (cap:List (Nat × Nat))
 | dyn (k:Nat)
 | eptr (k j s o:Nat)
 | vptr (i j s o:Nat)
 | win (k s i j:Nat)
 deriving Inhabited
inductive V1 (α:Type) where
 | one (s:α)
 | agg (ss:List α)
 deriving Inhabited
inductive V (α:Type) where
 | v1 (v:V1 α)
 | tup (vs:List (V1 α))
 | junk
 deriving Inhabited
structure Cx where
 env:List D
 ρ:List Nat
 H:Hp
 δ:List Value
def S.at (c:Cx):S→Value→Prop
 | .var i,v=>∃ d,c.env[i]?=some d∧D.at c.H d v
 | .const x,v=>v=x∧aA5 v=true
 | .ptr b o,v=>∃ n,c.ρ[b]?=some n∧v=.pointer (some ⟨n,o,none⟩)
 | .slice b o l k,v=>∃ n,c.ρ[b]?=some n∧v=.slice (some ⟨n,o,none⟩) l k
 | .func f cap,v=>∃ vs:List Value,All2 (fun p x=>∃ n,c.ρ[p.1]?=some n∧x=Value.pointer (some ⟨n,p.2,none⟩)) cap vs∧v=.func (.func f) #[] vs.toArray
 | .dyn k,v=>c.δ[k]?=some v∧∃ a n m,v=.slice a n m
 | .eptr k j s o,v=>∃ b n m i q,c.δ[k]?=some (.slice (some ⟨b,0,none⟩) n m)∧c.env[j]?=some (.v (.int q (Int.ofNat i)))∧i < n∧v=.pointer (some ⟨b,i*s+o,none⟩)
 | .vptr i j s o,v=>∃ n ds b e x q,c.env[i]?=some (.l n ds)∧D.ats c.H b e ds∧c.env[j]?=some (.v (.int q (Int.ofNat x)))∧x < n∧v=.pointer (some ⟨b,e+(x*s+o),none⟩)
 | .win k s i j,v=>∃ b n m q lo len ad cap,c.δ[k]?=some (.slice (some ⟨b,0,none⟩) n m)∧c.env[i]?=some (.v (.int q (Int.ofNat lo)))∧c.env[j]?=some (.v (.int .i64 (Int.ofNat len)))∧lo+len≤n∧(len=0∨ad=⟨b,lo*s,none⟩)∧v=.slice (some ad) len cap
def V1.at {α:Type} (R:α→Value→Prop):V1 α→Value→Prop
 | .one s,v=>R s v
 | .agg ss,v=>∃ vs:List Value,All2 R ss vs∧v=.agg vs.toArray
def V.at {α:Type} (R:α→Value→Prop):V α→Value→Prop
 | .v1 x,v=>x.at R v
 | .tup xs,v=>∃ vs:List Value,All2 (V1.at R) xs vs∧v=.tuple vs.toArray
 | .junk,_=>True
structure Ext (c c':Cx):Prop where
 env:c.env <+: c'.env
 ρ:c.ρ <+: c'.ρ
 H:Hp.le c.H c'.H
 δ:c.δ <+: c'.δ
theorem Ext.refl (c:Cx):Ext c c:=⟨List.prefix_refl _,List.prefix_refl _,Hp.le.refl _,List.prefix_refl _⟩
theorem Ext.trans {a b c:Cx} (h:Ext a b) (g:Ext b c):Ext a c:=⟨h.env.trans g.env,h.ρ.trans g.ρ,h.H.trans g.H,h.δ.trans g.δ⟩
theorem S.at_mono {c c':Cx} (h:Ext c c'):∀ (s:S) (v:Value),s.at c v→s.at c' v
 | .var _,_,⟨d,e,g⟩=>⟨d,aAd h.env e,D.at_mono h.H _ _ g⟩
 | .const _,_,e=>e
 | .ptr _ _,_,⟨n,g,e⟩=>⟨n,aAd h.ρ g,e⟩
 | .slice _ _ _ _,_,⟨n,g,e⟩=>⟨n,aAd h.ρ g,e⟩
 | .func _ _,_,⟨vs,g,e⟩=>⟨vs,g.mono fun _ _ ⟨n,g,e⟩=>⟨n,aAd h.ρ g,e⟩,e⟩
 | .dyn _,_,⟨g,e⟩=>⟨aAd h.δ g,e⟩
 | .eptr _ _ _ _,_,⟨b,n,m,i,q,g1,g2,e⟩=>⟨b,n,m,i,q,aAd h.δ g1,aAd h.env g2,e⟩
 | .vptr _ _ _ _,_,⟨n,ds,b,e,x,q,g1,g2,g3,e2⟩=>⟨n,ds,b,e,x,q,aAd h.env g1,D.ats_mono h.H _ _ _ g2,aAd h.env g3,e2⟩
 | .win _ _ _ _,_,⟨b,n,m,q,lo,len,ad,cap,g1,g2,g3,e⟩=>⟨b,n,m,q,lo,len,ad,cap,aAd h.δ g1,aAd h.env g2,aAd h.env g3,e⟩
theorem V1.at_mono {α:Type} {R R':α→Value→Prop} (h:∀ a b,R a b→R' a b):∀ (s:V1 α) (v:Value),s.at R v→s.at R' v
 | .one s,v,e=>h s v e
 | .agg _,_,⟨vs,g,e⟩=>⟨vs,g.mono h,e⟩
theorem V.at_mono {α:Type} {R R':α→Value→Prop} (h:∀ a b,R a b→R' a b):∀ (s:V α) (v:Value),s.at R v→s.at R' v
 | .v1 s,v,e=>V1.at_mono h s v e
 | .tup _,_,⟨vs,g,e⟩=>⟨vs,g.mono (V1.at_mono h),e⟩
 | .junk,_,_=>trivial
theorem S.at_cell {c:Cx}:∀ {s:S} {v:Value},s.at c v→aA5 v=true
 | .var _,_,⟨_,_,g⟩=>D.at_cell g
 | .const _,_,h=>h.2
 | .ptr _ _,_,⟨_,_,e⟩=>by rw [e];rfl
 | .slice _ _ _ _,_,⟨_,_,e⟩=>by rw [e];rfl
 | .func _ _,_,⟨_,_,e⟩=>by rw [e];rfl
 | .dyn _,_,⟨_,_,_,_,e⟩=>by rw [e];rfl
 | .eptr _ _ _ _,_,⟨_,_,_,_,_,_,_,_,e⟩=>by rw [e];rfl
 | .vptr _ _ _ _,_,⟨_,_,_,_,_,_,_,_,_,_,e⟩=>by rw [e];rfl
 | .win _ _ _ _,_,⟨_,_,_,_,_,_,_,_,_,_,_,_,_,e⟩=>by rw [e];rfl
def V1.cells {α:Type}:V1 α→List α
 | .one s=>[s]
 | .agg ss=>ss
theorem V1.at_cells {c:Cx}:∀ {x:V1 S} {v:Value},x.at (S.at c) v→All2 (S.at c) x.cells v.cells.toList
 | .one s,v,h=>by
  rw [aGh (S.at_cell h)]
  exact ⟨h,trivial⟩
 | .agg ss,v,⟨vs,h,e⟩=>by
  subst e
  exact h
theorem S.cells_cell {c:Cx}:∀ {l:List S} {vs:List Value},All2 (S.at c) l vs→∀ v ∈ vs,aA5 v=true
 | _::_,x::vs,h,v,hv=>by
  rcases List.mem_cons.1 hv with rfl | hv
  ·exact S.at_cell h.1
  ·exact S.cells_cell h.2 v hv
 | _,[],_,v,hv=>by cases hv
 | [],_::_,h,_,_=>h.elim
def aAc {α β:Type} (f:α→Option β):List α→Option (List β)
 | []=>some []
 | a::l=>(f a).bind fun v=>(aAc f l).bind fun vs=>some (v::vs)
def S.val (env:List D):S→Option D
 | .var i=>env[i]?
 | .const v=>some (.v v)
 | _=>none
def V1.val {α β:Type} (f:α→Option β):V1 α→Option (V1 β)
 | .one s=>(f s).bind fun d=>some (.one d)
 | .agg ss=>(aAc f ss).bind fun ds=>some (.agg ds)
theorem S.val_at {c:Cx}:∀ {s:S} {v:Value} {d:D},s.at c v→s.val c.env=some d→D.at c.H d v
 | .var _,_,_,⟨d,h,g⟩,e=>by rw [← Option.some.inj (h.symm.trans e)];exact g
 | .const _,_,_,h,e=>by rw [← Option.some.inj e];exact D.at_v.2 ⟨h.1,h.1 ▸ h.2⟩
 | .ptr _ _,_,_,_,e=>by cases e
 | .slice _ _ _ _,_,_,_,e=>by cases e
 | .func _ _,_,_,_,e=>by cases e
 | .dyn _,_,_,_,e=>by cases e
 | .eptr _ _ _ _,_,_,_,e=>by cases e
 | .vptr _ _ _ _,_,_,_,e=>by cases e
 | .win _ _ _ _,_,_,_,e=>by cases e
theorem aCe {α β γ:Type} {f:α→Option β} {R:α→γ→Prop} {Q:β→γ→Prop} (hf:∀ a v d,R a v→f a=some d→Q d v):∀ {l:List α} {m:List γ} {ds:List β},All2 R l m→aAc f l=some ds→All2 Q ds m
 | [],[],ds,_,e=>by rw [← Option.some.inj e];trivial
 | a::l,v::m,xs,h,e=>by
  unfold aAc at e
  obtain ⟨x,hx,e⟩:=Option.bind_eq_some_iff.1 e
  obtain ⟨ys,hy,e⟩:=Option.bind_eq_some_iff.1 e
  rw [← Option.some.inj e]
  exact ⟨hf a v x h.1 hx,aCe hf h.2 hy⟩
 | [],_::_,_,h,_=>h.elim
 | _::_,[],_,h,_=>h.elim
theorem V1.val_at {c:Cx}:∀ {x:V1 S} {v:Value} {y:V1 D},x.at (S.at c) v→x.val (S.val c.env)=some y→y.at (D.at c.H) v
 | .one s,v,y,h,e=>by
  obtain ⟨d,hd,e⟩:=Option.bind_eq_some_iff.1 e
  rw [← Option.some.inj e]
  exact S.val_at h hd
 | .agg ss,v,y,⟨vs,h,ev⟩,e=>by
  obtain ⟨ds,hd,e⟩:=Option.bind_eq_some_iff.1 e
  rw [← Option.some.inj e]
  exact ⟨vs,aCe (R:=S.at c) (fun _ _ _=>S.val_at) h hd,ev⟩
end Go.Proofs.YtkkjlpfomofiaaaGreatDoor.Sx
namespace Go.Proofs.YtkkjlpfomofiaaaGreatDoor.Sx
open Go YtkkjlpfomofiaaaGreatDoorW.PrintLast
inductive Pu where
 | bin (op:BinOp) (t:TypeId) (k:Bool)
 | un (op:UnOp)
 | conv (src dst:TypeId)
 | idx (t:TypeId)
 | slc (t:TypeId) (lo hi:Bool)
 | blt (b:Builtin) (t:TypeId)
 | llen
 | lnil
 | lnew (m s b:Nat)
 | lmake (z:Value) (b:Nat)
 | lstr
 | lbstr
 | lstr1
 | lapps (b:Nat)
 | lnews (b:Nat)
 | lbytes (b:Nat)
 | enil (k:Bool)
 | lchk
 | lidx (s o:Nat)
 | lset (s o:Nat)
 | lapp (m s b:Nat)
 | lcut (s:Nat) (lo hi:Bool)
 | lwlo
 | lwlen
 | lwix
 deriving Inhabited
def aAK (k:Bool):Operand:=if k then .const .nilIface else .tmp 0
def Pu.sem:Pu→List Value→Sem Value
 | .bin op t k,[a,b]=>do eqGuard op t (aAK k) (aAK k) a b;binOp op t a b
 | .un op,[a]=>Op.unary op a
 | .conv src dst,[a]=>convert src dst a
 | .idx t,[a,i]=>Instr.index t a i
 | .slc t true true,[a,i,j]=>Instr.sliceAt t a (some i) (some j) none
 | .slc t true false,[a,i]=>Instr.sliceAt t a (some i) none none
 | .slc t false true,[a,j]=>Instr.sliceAt t a none (some j) none
 | .slc t false false,[a]=>Instr.sliceAt t a none none none
 | .blt .len t,[a]=>Builtin.len_ #[t] t #[a]
 | .blt .min t,[a,b]=>Builtin.min_ #[t,t] t #[a,b]
 | .blt .max t,[a,b]=>Builtin.max_ #[t,t] t #[a,b]
 | _, _ => stuck ""
def D.value:D→Option Value
 | .v x=>some x
 | _=>none
def V1.value:V1 D→Option Value
 | .one d=>d.value
 | .agg ds=>(aAc D.value ds).bind fun vs=>some (.agg vs.toArray)
def Pu.plain (P:Program) (p:Pu) (xs:List (V1 D)):Option D:=
 (aAc V1.value xs).bind fun vs=>(quiet P (p.sem vs)).bind fun v=>if aA5 v then some (.v v) else none
def Pu.isL:Pu→Bool
 | .llen | .lnil | .lnew .. | .lmake .. | .lstr | .lbstr | .lstr1 | .lapps _ | .lnews _ | .lbytes _ | .enil _ | .lchk | .lidx .. | .lset .. | .lapp .. | .lcut .. | .lwlo | .lwlen | .lwix=>true
 | _=>false
def aBE:D→Option Int
 | .v (.int .u8 n)=>some n
 | _=>none
def strOf (ns:List Int):ByteArray:=ns.foldl (fun r n=>r.push (UInt8.ofNat n.toNat)) ByteArray.empty
def putAt {α:Type} (cells:List α) (o:Nat):List α→List α
 | []=>cells
 | s::l=>putAt (cells.set o s) (o+1) l
def aA9 (n b:Nat):Bool:=n*b≤140737488355328 && n≤140737488355328
def bytesD (x:ByteArray):List D:=x.data.toList.map fun b=>.v (.int .u8 b.toNat)
def aDB (s n:Nat) (ds:List D) (l h:Int):Option D:=if 0≤l∧l≤h∧h≤n∧ds.length=n*s then some (.l (h - l).toNat ((ds.drop (l.toNat*s)).take ((h - l).toNat*s))) else none
def Pu.lrun:Pu→List (V1 D)→Option D
 | .llen,[.one (.l n _)]=>some (.v (.int .i64 n))
 | .lnil,[]=>some (.l 0 [])
 | .lnew m s b,[.agg es]=>if es.length=m*s∧aA9 m b=true then some (.l m es) else none
 | .lmake z b,[.one (.v (.int _ l)),.one (.v (.int _ c))]=>if 0≤l∧l≤c∧aA9 c.toNat b=true then some (.l l.toNat (List.replicate l.toNat (.v z))) else none
 | .lstr,[.one (.l n ds)]=>if ds.length=n then (aAc aBE ds).map fun ns=>.v (.string (strOf ns)) else none
 | .lbstr,[.agg ds]=>(aAc aBE ds).map fun ns=>.v (.string (strOf ns))
 | .lstr1,[.one (.l n (d::ds))]=>if ds.length+1=n then (aAc aBE (d::ds)).bind fun ns=>if ns.all (fun x=>decide (0≤x∧x < 256)) then some (.v (.string (strOf ns))) else none else none
 | .lapps b,[.one (.l n ds),.one (.v (.string x))]=>if aA9 (n+x.size) b then some (.l (n+x.size) (ds++bytesD x)) else none
 | .lnews b,[.one (.v (.string x))]=>if aA9 x.size b then some (.l x.size (bytesD x)) else none
 | .lbytes b,[.one (.v (.string x))]=>if aA9 x.size b then some (.l x.size (bytesD x)) else none
 | .enil k,[.one .err]=>some (.v (.bool !k))
 | .enil k,[.one (.v .nilIface)]=>some (.v (.bool k))
 | .lchk,[.one (.l n (_::_)),.one (.v (.int k i))]=>if 0≤i∧i < n then some (.v (.int k i)) else none
 | .lidx s o,[.one (.l _ ds),.one (.v (.int _ i))]=>ds[i.toNat*s+o]?
 | .lset s o,[.one (.l n ds),.one (.v (.int _ i)),x]=>if i.toNat*s+o+x.cells.length≤ds.length then some (.l n (putAt ds (i.toNat*s+o) x.cells)) else none
 | .lapp m s b,[.one (.l n ds),.agg es]=>if es.length=m*s∧aA9 (n+m) b=true then some (.l (n+m) (ds++es)) else none
 | .lcut s true true,[.one (.l n ds),.one (.v (.int _ l)),.one (.v (.int _ h))]=>aDB s n ds l h
 | .lcut s true false,[.one (.l n ds),.one (.v (.int _ l))]=>aDB s n ds l n
 | .lcut s false true,[.one (.l n ds),.one (.v (.int _ h))]=>aDB s n ds 0 h
 | .lwlo,[.one (.l n (_::_)),.one (.v (.int _ l)),.one (.v (.int _ h))]=>if 0≤l∧l≤h∧h≤n then some (.v (.int .i64 l)) else none
 | .lwlen,[.one (.l n (_::_)),.one (.v (.int _ l)),.one (.v (.int _ h))]=>if 0≤l∧l≤h∧h≤n then some (.v (.int .i64 (h - l))) else none
 | .lwix,[.one (.v (.int _ l)),.one (.v (.int _ n)),.one (.v (.int _ i))]=>if 0≤l∧0≤i∧i < n then some (.v (.int .i64 (l+i))) else none
 | _,_=>none
def Pu.run (P:Program) (p:Pu) (xs:List (V1 D)):Option D:=
 match p.isL with
 | true=>p.lrun xs
 | false=>p.plain P xs
inductive H1 where
 | one
 | agg (n:Nat)
 deriving Inhabited
inductive H where
 | v1 (h:H1)
 | tup (hs:List H1)
 deriving Inhabited
def H1.sym (n:Nat):H1→V1 S
 | .one=>.one (.var n)
 | .agg m=>.agg ((List.range m).map fun i=>.var (n+i))
def H1.size:H1→Nat
 | .one=>1
 | .agg m=>m
def aEQ:Nat→List H1→List (V1 S)
 | _,[]=>[]
 | n,h::l=>h.sym n::aEQ (n+h.size) l
def H.sym (n:Nat):H→V S
 | .v1 h=>.v1 (h.sym n)
 | .tup hs=>.tup (aEQ n hs)
def aCm:List H1→Nat
 | []=>0
 | h::l=>h.size+aCm l
def H.size:H→Nat
 | .v1 h=>h.size
 | .tup hs=>aCm hs
def fits1:H1→V1 S→Bool
 | .one,.one _=>true
 | .agg n,.agg ss=>ss.length == n
 | _,_=>false
def aDC:List H1→List (V1 S)→Bool
 | [],[]=>true
 | h::hs,v::vs=>fits1 h v && aDC hs vs
 | _,_=>false
def fits:H→V S→Bool
 | .v1 h,.v1 v=>fits1 h v
 | .tup hs,.tup vs=>aDC hs vs
 | _,_=>false
def aE0:List (V1 S)→List S
 | []=>[]
 | v::l=>v.cells++aE0 l
def flat:V S→List S
 | .v1 v=>v.cells
 | .tup vs=>aE0 vs
 | .junk=>[]
structure Ct where
 ps:List H1
 h:H
 deriving Inhabited
inductive T where
 | ret (ss:List S)
 | pure (p:Pu) (xs:List (V1 S)) (k:T)
 | call (f:FuncId) (ss:List S) (n:Nat) (k:T)
 | ite (i:Nat) (t e:T)
 | isk (i:Nat) (j:Int) (t e:T)
 | fail
 | loop (d:Nat) (init:List S) (body:T)
 | again (d n:Nat) (ss:List S)
 | sub (ss:List S) (n:Nat) (b k:T)
 deriving Inhabited
def T.runB (P:Program) (C:FuncId→List D→Option (List D)) (R:List T→T→List D→Option (List D)):List T→T→List D→Option (List D)
 | _,.ret ss,env=>aAc (S.val env) ss
 | L,.pure p xs k,env=>(aAc (V1.val (S.val env)) xs).bind fun vs=>(p.run P vs).bind fun d=>k.runB P C R L (env++[d])
 | L,.call f ss n k,env=>(aAc (S.val env) ss).bind fun ds=>(C f ds).bind fun rs=>if rs.length=n then k.runB P C R L (env++rs) else none
 | L,.ite i t e,env=>match env[i]? with
  | some (.v (.bool true))=>t.runB P C R L env
  | some (.v (.bool false))=>e.runB P C R L env
  | _=>none
 | L,.isk i j t e,env=>match env[i]? with
  | some (.v (.int _ n))=>if n=j then t.runB P C R L env else e.runB P C R L env
  | _=>none
 | _,.fail,_=>none
 | L,.loop d init body,env=>(aAc (S.val env) init).bind fun vs=>body.runB P C R (L.take d++[body]) (env++vs)
 | L,.again d n ss,env=>(aAc (S.val env) ss).bind fun vs=>match L[d]? with
  | some b=>R (L.take (d+1)) b (env.take n++vs)
  | none=>none
 | L,.sub ss n b k,env=>(aAc (S.val env) ss).bind fun ds=>(b.runB P C R [] ds).bind fun rs=>if rs.length=n then k.runB P C R L (env++rs) else none
def T.run (P:Program) (C:FuncId→List D→Option (List D)):Nat→List T→T→List D→Option (List D)
 | 0=>T.runB P C fun _ _ _=>none
 | n+1=>T.runB P C (T.run P C n)
structure Blk where
 cells:List S
 elem:TypeId
 deriving Inhabited
structure Dyn where
 h:Nat
 cv:Nat
 s:Nat
 e:TypeId
 live:Bool
 w:Nat
 deriving Inhabited
structure St where
 tmps:List (V S)
 blocks:List Blk
 known:List (Nat × Bool)
 ints:List (Nat × Int)
 nv:Nat
 dyns:List Dyn
 nd:Nat
 defs:List (Nat × BinOp × Nat × Int)
 deriving Inhabited
def CcOk (P:Program) (T:TypeId) (f:FuncId):Prop:=∀ (w:World) (b:Nat),
 (w.cell? ⟨b,0,none⟩=some (.pointer (some ⟨b,0,none⟩))→Calls P f #[.pointer (some ⟨b,0,none⟩)] w fun e w'=>e=.returned (.tuple #[])∧w'=w) ∧
 (w.cell? ⟨b,0,none⟩=some (.pointer none)→w.shape? b=some (T,2)→w.frozen? ⟨b,0,none⟩=false→Calls P f #[.pointer (some ⟨b,0,none⟩)] w fun e w'=>e=.returned (.tuple #[])∧w'=w.setCell ⟨b,0,none⟩ (.pointer (some ⟨b,0,none⟩)))
def StrOk (P:Program) (T e:TypeId) (f:FuncId):Prop:=∀ (w:World) (b g cap:Nat) (p:Value) (cur:Array Value) (fr fr':Nat × Nat) (l:List UInt8),
 w.heap[b]?=some (.cells #[p,.slice (some ⟨g,0,none⟩) l.length cap] T fr')→w.heap[g]?=some (.cells cur e fr)→l≠[]→l.length≤cap→cap≤maxLen→cur.size=cap→cur.toList.take l.length=l.map (fun x=>.int .u8 x.toNat) →
 Calls P f #[.pointer (some ⟨b,0,none⟩)] w fun e' w'=>e'=.returned (.string ⟨l.toArray⟩)∧∃ n,n≤l.length∧w'=(w.drew).freeze ⟨g,0,none⟩ n
structure Opt (P:Program) where
 sb:List FuncId:=[]
 gl:List FuncId:=[]
 rom:List (Nat × List Value):=[]
 bt:TypeId:=0
 be:TypeId:=0
 cc:List FuncId:=[]
 str:List FuncId:=[]
 hcc:∀ f ∈ cc,CcOk P bt f:=by intro f h;cases h
 hstr:∀ f ∈ str,StrOk P bt be f:=by intro f h;cases h
structure Pm (P:Program) where
 dep:Nat
 lo:Nat
 dlo:Nat
 gen:Bool
 o:Opt P
def ofValue:Value→Option (V S)
 | .agg cs=>if cs.toList.all aA5 then some (.v1 (.agg (cs.toList.map .const))) else none
 | .tuple vs=>if vs.toList.all aA5 then some (.tup (vs.toList.map fun v=>.one (.const v))) else none
 | v=>some (.v1 (.one (.const v)))
def St.get (st:St):Operand→Option (V S)
 | .tmp t=>st.tmps[t]?
 | .const v=>ofValue v
 | .func f=>some (.v1 (.one (.func f [])))
 | .global g=>some (.v1 (.one (.const (.pointer (some ⟨g,0,none⟩)))))
def V.v1?:V S→Option (V1 S)
 | .v1 x=>some x
 | _=>none
def St.get1 (st:St) (x:Operand):Option (V1 S):=(st.get x).bind V.v1?
def St.put (st:St) (d:Option Tmp) (v:V S):St:=
 match d with
 | some d=>{ st with tmps:=st.tmps.set d v }
 | none=>st
def St.new (st:St) (cells:List S) (elem:TypeId):St:={ st with blocks:=st.blocks++[⟨cells,elem⟩] }
def St.int? (st:St):V1 S→Option Int
 | .one (.const (.int _ n))=>some n
 | .one (.var i)=>st.ints.lookup i
 | _=>none
def partOf (P:Program) (t:TypeId) (cells:List S) (o:Nat):Option (V1 S):=
 match quiet P (isAgg t),quiet P (sizeOf t) with
 | some true,some n=>if o+n≤cells.length then some (.agg ((cells.drop o).take n)) else none
 | some false,_=>(cells[o]?).map .one
 | _,_=>none
def laid (place:Nat→Option (Nat × Nat)) (cells:List S):List (Nat × V1 S)→Option (List S)
 | []=>some cells
 | (i,v)::l =>
  match place i with
  | none=>none
  | some (off,size)=>if v.cells.length≠size∨off+v.cells.length > cells.length then none else laid place (putAt cells off v.cells) l
def partsOf (st:St):List (Nat × Operand)→Option (List (Nat × V1 S))
 | []=>some []
 | (i,x)::l=>(st.get1 x).bind fun v=>(partsOf st l).bind fun r=>some ((i,v)::r)
def placesOf (P:Program) (t:TypeId):Option (Nat→Option (Nat × Nat)):=
 match quiet P (underlying t) with
 | some (.struct fields)=>(quiet P (fields.mapM fun f=>do Pure.pure (f.offset,← sizeOf f.type))).map fun pl=>(pl[·]?)
 | some (.array _ e)=>(quiet P (sizeOf e)).map fun n i=>some (i*n,n)
 | _=>none
def aCn:List Value→Option (List S)
 | []=>some []
 | v::l=>if aA5 v then (aCn l).map (.const v::·) else none
def aFy (P:Program) (t:TypeId):Option (List S):=(quiet P (zeroValue t)).bind fun z=>aCn z.cells.toList
inductive Ex where
 | normal
 | exit (id:Nat)
 | ret
 deriving Inhabited
def aDb:V1 S→Option (Nat × Nat)
 | .one (.ptr b o)=>some (b,o)
 | _=>none
def aHt:V1 S→Option (Nat→S)
 | .one (.ptr b o)=>some fun q=>.ptr b (o+q)
 | .one (.eptr k j s o)=>some fun q=>.eptr k j s (o+q)
 | .one (.vptr i j s o)=>some fun q=>.vptr i j s (o+q)
 | _=>none
def aLu (st:St):List Operand→Option (List (Nat × Nat))
 | []=>some []
 | x::l=>(st.get1 x).bind fun v=>(aDb v).bind fun p=>(aLu st l).bind fun ps=>some (p::ps)
def aN0:S→Option D
 | .const v=>some (.v v)
 | _=>none
def aHu (st:St) (x:Option Operand) (d:Int):Option Int:=
 match x with
 | none=>some d
 | some x=>(st.get1 x).bind st.int?
def aQs (n:Nat):Pu→List (V1 S)→List (Nat × BinOp × Nat × Int)
 | .bin op _ _,[.one (.var a),.one (.const (.int _ c))]=>[(n,op,a,c)]
 | _,_=>[]
def aMo (P:Program) (p:Pu) (xs:List (V1 S)) (st:St) (k:V S→St→Option T):Option T:=
 match aAc (V1.val aN0) xs with
 | some ds=>match p.run P ds with
  | some (.v v)=>k (.v1 (.one (.const v))) st
  | _=>none
 | none=>(k (.v1 (.one (.var st.nv))) { st with nv:=st.nv+1,defs:=aQs st.nv p xs++st.defs }).map fun t=>.pure p xs t
def aER (s:V S) (st:St) (k:Bool→St→Option T):Option T:=
 match s with
 | .v1 (.one (.const (.bool b)))=>k b st
 | .v1 (.one (.var i)) =>
  match st.known.lookup i with
  | some b=>k b st
  | none=>(k true { st with known:=(i,true)::st.known }).bind fun t=>(k false { st with known:=(i,false)::st.known }).bind fun e=>some (.ite i t e)
 | _=>none
def aOl (l:List (Nat × BinOp × Nat × Int)):Nat→Nat→Nat→Bool
 | 0,i,j=>i == j
 | n+1,i,j=>i == j || match l.lookup i,l.lookup j with
  | some (o,a,c),some (o',a',c')=>o == o' && c == c' && aOl l n a a'
  | _,_=>false
def aPB (st:St) (j:Nat):Option Int:=(st.ints.find? fun p=>aOl st.defs 5 p.1 j).map (·.2)
def aGC (i:Nat) (st:St) (k:St→Option T):Nat→Int→Option T
 | 0,_=>some .fail
 | n+1,j=>(k { st with ints:=(i,j)::st.ints }).bind fun t=>(aGC i st k n (j+1)).bind fun e=>some (.isk i j t e)
def conS:S→Bool
 | .const _=>true
 | _=>false
def isIx (P:Program) (st:St):Op→Option (Nat × Nat)
 | .indexAddr t x i | .index t x i =>
  match st.get1 i with
  | some (.one (.var j))=>if (st.ints.lookup j).isSome then none else
   match st.get1 x,quiet P (underlying t) with
   | some (.one (.ptr _ _)),some (.array n _)=>some (j,n)
   | some (.agg ss),some (.array n _)=>if ss.length == n && ss.all conS then none else some (j,n)
   | some (.one (.slice _ _ n _)),some (.slice _)=>some (j,n)
   | _,_=>none
  | _=>none
 | _=>none
def aJl (P:Program) (op:Op) (st:St) (k:St→Option T):Option T:=
 match isIx P st op with
 | some (j,n)=>match aPB st j with
  | some v=>aGC j st k 1 v
  | none=>aGC j st k n 0
 | none=>k st
def aQt (P:Program) (st:St) (ops:List Oper):Op→Option (Nat × Nat)
 | .indexAddr t x i =>
  let i:=match i with
   | .tmp q=>match ops.find? (fun o=>o.dst == some q) with
    | some o=>match o.op with
     | .move y=>y
     | _=>i
    | none=>i
   | _=>i
  match st.get1 i with
  | some (.one (.var j))=>if (st.ints.lookup j).isSome then none else
   match st.get1 x,quiet P (underlying t) with
   | some (.one (.ptr _ _)),some (.array n _)=>some (j,n)
   | _,_=>none
  | _=>none
 | _=>none
def aLv (P:Program) (ops:Array Oper) (d:Bool) (st:St) (k:St→Option T):Option T:=
 match d,ops.toList.findSome? (fun o=>aQt P st ops.toList o.op) with
 | true,some (j,n)=>aGC j st k n 0
 | _,_=>k st
abbrev Cs:=FuncId→Option Ct
abbrev Cf:=FuncId→List D→Option (List D)
abbrev Inl:=FuncId→List (V S)→St→(V S→St→Option T)→Option T
def capV (l:List (Nat × Nat)):List (V S):=l.map fun p=>.v1 (.one (.ptr p.1 p.2))
def aI7 (P:Program) (f:FuncId):Bool:=
 match P.funcs[f]? with
 | some fn => fn.name != "runtime.NumGoroutine" && fn.body.isSome
 | none=>false
def aB4:List H1→List (V S)→Option (List S)
 | [],[]=>some []
 | h::hs,.v1 v::vs=>if fits1 h v then (aB4 hs vs).map (v.cells++·) else none
 | _,_=>none
def aES:S→Bool
 | .const (.slice none 0 0)=>true
 | _=>false
def aHv (n:Nat) (s:S):S:=if aES s then .var n else s
def aJm (P:Program) (C:Cs) (inl:Inl) (f:FuncId) (cap:List (Nat × Nat)) (xs:List (V S)) (st:St) (k:V S→St→Option T):Option T:=
 if aI7 P f then
  match C f,cap with
  | some ct,[]=>(aB4 ct.ps xs).bind fun ss=>if ss.any aES then
    (k (ct.h.sym (st.nv+1)) { st with nv:=st.nv+1+ct.h.size }).map fun t=>.pure .lnil [] (.call f (ss.map (aHv st.nv)) ct.h.size t)
   else (k (ct.h.sym st.nv) { st with nv:=st.nv+ct.h.size }).map fun t=>.call f ss ct.h.size t
  | _,_=>inl f (xs++capV cap) st k
 else none
def aBG (P:Program) (st:St):Op→Option (V S)
 | .move x | .assign x=>st.get x
 | .build t parts=>(aFy P t).bind fun z=>(placesOf P t).bind fun pl=>(partsOf st parts.toList).bind fun ps=>(laid pl z ps).map fun ss=>.v1 (.agg ss)
 | .nilCheck x=>(st.get1 x).bind fun v=>match v with
  | .one (.ptr _ _) | .one (.func _ _) | .one (.eptr _ _ _ _) | .one (.vptr _ _ _ _)=>some (.v1 v)
  | _=>none
 | .fieldAddr s x f=>(st.get1 x).bind fun a=>(aHt a).bind fun sh =>
  match quiet P (underlying s) with
  | some (.struct fields)=>(fields[f]?).bind fun fd=>match quiet P (sizeOf fd.type) with
   | some (_+1)=>some (.v1 (.one (sh fd.offset)))
   | _=>none
  | _=>none
 | .field s x f=>(st.get1 x).bind fun v=>match v,quiet P (underlying s) with
  | .agg ss,some (.struct fields)=>(fields[f]?).bind fun fd=>(partOf P fd.type ss fd.offset).map .v1
  | _,_=>none
 | .indexAddr t x i=>(st.get1 x).bind fun v=>(st.get1 i).bind fun i=>(st.int? i).bind fun i=>match quiet P (underlying t),v with
  | some (.array n e),.one (.ptr b o)=>if 0≤i∧i < n then (quiet P (sizeOf e)).map fun s=>.v1 (.one (.ptr b (o+i.toNat*s))) else none
  | some (.slice e),.one (.slice b o n _)=>if 0≤i∧i < n then (quiet P (sizeOf e)).map fun s=>.v1 (.one (.ptr b (o+i.toNat*s))) else none
  | _,_=>none
 | .index t x i=>(st.get1 x).bind fun v=>(st.get1 i).bind fun i=>match quiet P (underlying t),v with
  | some (.array n e),.agg ss=>(st.int? i).bind fun i=>if 0≤i∧i < n then (quiet P (sizeOf e)).bind fun s=>(partOf P e ss (i.toNat*s)).map .v1 else none
  | _,_=>none
 | .extract x i=>(st.get x).bind fun v=>match v with
  | .tup vs=>(vs[i]?).map .v1
  | _=>none
 | .makeFunc (.func f) first captured=>if first.size=0 then (aLu st captured.toList).map fun l=>.v1 (.one (.func f l)) else none
 | .slice t x lo hi none=>(st.get1 x).bind fun v=>match quiet P (underlying t),v with
  | some (.array n e),.one (.ptr b o) =>
   (aHu st lo 0).bind fun l=>(aHu st hi n).bind fun h =>
   if 0≤l∧l≤h∧h≤n∧l < n then (quiet P (sizeOf e)).map fun s=>.v1 (.one (.slice b (o+l.toNat*s) (h - l).toNat (n - l.toNat))) else none
  | _,_=>none
 | .call { callee:=.builtin .len,args,argTypes }=>match args.toList,argTypes.toList with
  | [x],[t]=>(st.get1 x).bind fun v=>match v,quiet P (underlying t) with
   | .one (.slice _ _ n _),some (.slice _)=>some (.v1 (.one (.const (.int .i64 n))))
   | .one (.const (.slice none n _)),some (.slice _)=>some (.v1 (.one (.const (.int .i64 n))))
   | _,some (.array n _)=>some (.v1 (.one (.const (.int .i64 n))))
   | _,_=>none
  | _,_=>none
 | _=>none
def aHw:Operand→Bool
 | .const _=>true
 | _=>false
def aDD (st:St):List Operand→Option (List (V1 S))
 | []=>some []
 | x::l=>(st.get1 x).bind fun v=>(aDD st l).bind fun vs=>some (v::vs)
def aN1 (st:St):List Operand→Option (List (V S))
 | []=>some []
 | x::l=>(st.get x).bind fun v=>(aN1 st l).bind fun vs=>some (v::vs)
def aET (P:Program) (op:BinOp) (t:TypeId):Operand→Option Bool
 | .const .nilIface=>match op,quiet P (underlying t) with
  | .eql,some (.interface _)=>some true
  | .neq,some (.interface _)=>some false
  | _,_=>none
 | _=>none
def aMp (P:Program) (st:St):Op→Option (Pu × List (V1 S))
 | .binOp op t x y _=>(st.get1 x).bind fun a=>match aET P op t y with
  | some k=>some (.enil k,[a])
  | none=>(st.get1 y).map fun b=>(.bin op t (aHw x || aHw y),[a,b])
 | .unOp op _ x=>(st.get1 x).map fun a=>(.un op,[a])
 | .convert src dst x=>match quiet P (underlying src),quiet P (underlying dst) with
  | some (.slice _),_ | _,some (.slice _)=>none
  | _,_=>(st.get1 x).map fun a=>(.conv src dst,[a])
 | .index t x i=>(st.get1 x).bind fun v=>(st.get1 i).map fun i=>(.idx t,[v,i])
 | .slice t x lo hi none=>(st.get1 x).bind fun v=>(aDD st (lo.toList++hi.toList)).map fun bs=>(.slc t lo.isSome hi.isSome,v::bs)
 | .call { callee:=.builtin .len,args,argTypes }=>match args.toList,argTypes.toList with
  | [x],[t]=>(st.get1 x).map fun v=>match quiet P (underlying t) with
   | some (.slice _)=>(.llen,[v])
   | _=>(.blt .len t,[v])
  | _,_=>none
 | .call { callee:=.builtin .min,args,.. }=>match args.toList with
  | [x,y]=>(st.get1 x).bind fun a=>(st.get1 y).map fun b=>(.blt .min 0,[a,b])
  | _=>none
 | .call { callee:=.builtin .max,args,.. }=>match args.toList with
  | [x,y]=>(st.get1 x).bind fun a=>(st.get1 y).map fun b=>(.blt .max 0,[a,b])
  | _=>none
 | _=>none
def aGD (k:Nat):List Dyn→Nat→Option Nat
 | [],_=>none
 | y::l,i=>if y.live && y.h == k then some i else aGD k l (i+1)
def St.dyn? (st:St) (k:Nat):Option (Nat × Dyn):=(aGD k st.dyns 0).bind fun q=>(st.dyns[q]?).map fun y=>(q,y)
def aFz:List Pu→List (V1 S)→T→T
 | [],_,t=>t
 | p::l,xs,t=>.pure p xs (aFz l xs t)
inductive Oa where
 | rd (ps:List Pu) (xs:List (V1 S)) (res:Nat→V1 S)
 | mk (p:Pu) (xs:List (V1 S)) (s:Nat) (e:TypeId)
 | app (q:Nat) (y:Dyn) (p:Pu) (xs:List (V1 S))
 | sto (q:Nat) (y:Dyn) (p:Pu) (xs:List (V1 S))
def lvOf:Pu→Nat
 | .lbytes _=>1
 | _=>2
def aAE (a:Oa) (st:St) (k:V S→St→Option T):Option T:=
 match a with
 | .rd ps xs res=>(k (.v1 (res st.nv)) { st with nv:=st.nv+ps.length }).map (aFz ps xs)
 | .mk p xs s e=>(k (.v1 (.one (.dyn st.nd))) { st with nv:=st.nv+1,nd:=st.nd+1,dyns:=st.dyns++[⟨st.nd,st.nv,s,e,true,lvOf p⟩] }).map (.pure p xs)
 | .app q y p xs=>(k (.v1 (.one (.dyn st.nd))) { st with nv:=st.nv+1,nd:=st.nd+1,dyns:=st.dyns.set q { y with h:=st.nd,cv:=st.nv } }).map (.pure p xs)
 | .sto q y p xs=>(k (.tup []) { st with nv:=st.nv+1,dyns:=st.dyns.set q { y with cv:=st.nv } }).map (.pure p xs)
def aN2 (st:St) (k s cv:Nat) (lo:Option Operand):Option Operand→Option Oa
 | some hi=>(match lo with | some lo=>st.get1 lo | none=>some (.one (.const (.int .i64 0)))).bind fun vl=>(st.get1 hi).map fun vh=>.rd [.lwlo,.lwlen] [.one (.var cv),vl,vh] fun n=>.one (.win k s n (n+1))
 | _=>none
def valA (P:Program) (st:St):Op→Option Oa
 | .indexAddr t x i=>(st.get1 i).bind fun vi=>match st.get1 x,quiet P (underlying t) with
  | some (.one (.dyn k)),some (.slice e)=>(st.dyn? k).bind fun (_,y)=>(quiet P (sizeOf e)).map fun s=>.rd [.lchk] [.one (.var y.cv),vi] fun n=>.one (.eptr k n s 0)
  | some (.one (.var v)),some (.slice e)=>(quiet P (sizeOf e)).map fun s=>.rd [.lchk] [.one (.var v),vi] fun n=>.one (.vptr v n s 0)
  | some (.one (.win k s i j)),some (.slice e)=>(quiet P (sizeOf e)).bind fun s'=>if s'=s then some (.rd [.lwix] [.one (.var i),.one (.var j),vi] fun n=>.one (.eptr k n s 0)) else none
  | _,_=>none
 | .slice t x lo hi none=>match st.get1 x,quiet P (underlying t) with
  | some (.one (.var v)),some (.slice e)=>(quiet P (sizeOf e)).bind fun s=>(aDD st (lo.toList++hi.toList)).map fun bs=>.rd [.lcut s lo.isSome hi.isSome] (.one (.var v)::bs) fun n=>.one (.var n)
  | some (.one (.dyn k)),some (.slice e)=>(st.dyn? k).bind fun (_,y)=>(quiet P (sizeOf e)).bind fun s=>aN2 st k s y.cv lo hi
  | _,_=>none
 | .call { callee:=.builtin .len,args,argTypes }=>match args.toList,argTypes.toList with
  | [x],[t]=>match st.get1 x,quiet P (underlying t) with
   | some (.one (.dyn k)),some (.slice _)=>(st.dyn? k).map fun (_,y)=>.rd [.llen] [.one (.var y.cv)] fun n=>.one (.var n)
   | some (.one (.win _ _ _ j)),some (.slice _)=>some (.rd [] [] fun _=>.one (.var j))
   | _,_=>none
  | _,_=>none
 | _=>none
def cellsOf (st:St) (b o n:Nat):Option (List S):=(st.blocks[b]?).bind fun bl=>if o+n≤bl.cells.length then some ((bl.cells.drop o).take n) else none
def aCV (P:Program) (t:TypeId) (s o:Nat):Option (List Pu × (Nat→V1 S)):=
 match quiet P (isAgg t),quiet P (sizeOf t) with
 | some true,some n=>some ((List.range n).map fun i=>.lidx s (o+i),fun m=>.agg ((List.range n).map fun i=>.var (m+i)))
 | some false,_=>some ([.lidx s o],fun m=>.one (.var m))
 | _,_=>none
def aI8 (P:Program) (e:TypeId):Bool:=match P.info? e with
 | some i=>(i.size == 1 && i.bytes == 1) && match i.zero with
  | some (.int .u8 0)=>true
  | _=>false
 | none=>false
def aBH (P:Program) (pm:Pm P) (st:St):Op→Option Oa
 | .buildSlice t 0 ps=>match quiet P (underlying t) with
  | some (.slice e)=>match quiet P (sizeOf e) with
   | some s=>if 0 < s∧ps.size=0 then some (.mk .lnil [] s e) else none
   | _=>none
  | _=>none
 | .makeSlice t l c=>match quiet P (underlying t) with
  | some (.slice e)=>match quiet P (sizeOf e),quiet P (zeroValue e),P.info? e with
   | some 1,some z,some i=>if aA5 z then (st.get1 l).bind fun vl=>(st.get1 c).map fun vc=>.mk (.lmake z i.bytes) [vl,vc] 1 e else none
   | _,_,_=>none
  | _=>none
 | .convert src dst x=>match quiet P (underlying src),quiet P (underlying dst) with
  | some (.slice e),some .string=>match quiet P (underlying e),st.get1 x with
   | some (.int .u8),some (.one (.dyn k))=>(st.dyn? k).bind fun (_,y)=>if y.s=1 then some (.rd [.lstr] [.one (.var y.cv)] fun n=>.one (.var n)) else none
   | some (.int .u8),some (.one (.var v))=>some (.rd [.lstr] [.one (.var v)] fun n=>.one (.var n))
   | some (.int .u8),some (.one (.slice b o n _))=>(cellsOf st b o n).map fun cs=>.rd [.lbstr] [.agg cs] fun n=>.one (.var n)
   | _,_=>none
  | some .string,some (.slice e)=>match quiet P (underlying e),P.info? e,st.get1 x with
   | some (.int .u8),some i,some v=>some (.mk (.lbytes i.bytes) [v] 1 e)
   | _,_,_=>none
  | _,_=>none
 | .call { callee:=.builtin .append,args,argTypes }=>match args.toList,argTypes.toList with
  | [x,y],[t,t']=>if t=t' then match quiet P (underlying t) with
   | some (.slice e)=>match quiet P (sizeOf e),quiet P (zeroValue e),P.info? e,st.get1 y with
    | some s,some z,some i,some (.one (.slice b o m _))=>if 0 < s∧z.cells.size=s then (cellsOf st b o (m*s)).bind fun cs=>match st.get1 x with
     | some (.one (.dyn k))=>(st.dyn? k).bind fun (q,y)=>if pm.dlo≤q∧y.s=s∧y.e=e then some (.app q y (.lapp m s i.bytes) [.one (.var y.cv),.agg cs]) else none
     | some (.one (.const (.slice none 0 0)))=>some (.mk (.lnew m s i.bytes) [.agg cs] s e)
     | _=>none
     else none
    | _,_,_,_=>none
   | _=>none
   else match quiet P (underlying t),quiet P (underlying t') with
   | some (.slice e),some .string=>match aI8 P e,st.get1 y with
    | true,some vy=>match st.get1 x with
     | some (.one (.dyn k))=>(st.dyn? k).bind fun (q,y)=>if pm.dlo≤q∧y.s=1∧y.e=e then some (.app q y (.lapps 1) [.one (.var y.cv),vy]) else none
     | some (.one (.const (.slice none 0 0)))=>some (.mk (.lnews 1) [vy] 1 e)
     | _=>none
    | _,_=>none
   | _,_=>none
  | _,_=>none
 | .load t x=>match st.get1 x with
  | some (.one (.const (.pointer (some ⟨g,o,none⟩))))=>(pm.o.rom.lookup g).bind fun cs=>(aCn cs).bind fun ss=>(partOf P t ss o).map fun v=>.rd [] [] fun _=>v
  | some (.one (.eptr k j s o))=>(st.dyn? k).bind fun (_,y)=>(aCV P t s o).map fun (ps,f)=>.rd ps [.one (.var y.cv),.one (.var j)] f
  | some (.one (.vptr i j s o))=>(aCV P t s o).map fun (ps,f)=>.rd ps [.one (.var i),.one (.var j)] f
  | _=>none
 | .store t x v=>match st.get1 x with
  | some (.one (.eptr k j s o))=>(st.dyn? k).bind fun (q,y)=>(st.get1 v).bind fun v=>if pm.dlo≤q∧0 < y.w∧quiet P (sizeOf t)=some v.cells.length then some (.sto q y (.lset s o) [.one (.var y.cv),.one (.var j),v]) else none
  | _=>none
 | _=>none
def S.sub (k i:Nat):S→S
 | .dyn j=>if j=k then .var i else .dyn j
 | s=>s
def V1.mapS (f:S→S):V1 S→V1 S
 | .one s=>.one (f s)
 | .agg ss=>.agg (ss.map f)
def V.mapS (f:S→S):V S→V S
 | .v1 v=>.v1 (v.mapS f)
 | .tup vs=>.tup (vs.map (V1.mapS f))
 | .junk=>.junk
def St.ren (f:S→S) (st:St):St:={ st with tmps:=st.tmps.map (V.mapS f),blocks:=st.blocks.map fun b=>{ b with cells:=b.cells.map f } }
def aGi (dlo:Nat) (st:St) (k:Nat):St:=
 match st.dyn? k with
 | some (q,y)=>if dlo≤q then { st.ren (S.sub k y.cv) with dyns:=st.dyns.set q { y with live:=false } } else st
 | none=>st
def aEU:List S→List Nat
 | []=>[]
 | .dyn k::l=>k::aEU l
 | _::l=>aEU l
def aEa (st:St):St:=(st.dyns.map (·.h)).foldl (aGi 0) st
def aK7 (C:FuncId→Option Ct) (ops:Array Oper) (t:Tmp):Bool:=ops.any fun o=>match o.op with
 | .call { callee:=.value (.func f),args,.. }=>(C f).isSome && args.any fun a=>match a with | .tmp u=>u == t | _=>false
 | _=>false
def aCo (P:Program) (st:St):Op→Option (TypeId × List S × (Nat→S))
 | .alloc t=>(aFy P t).map fun z=>(t,z,fun b=>.ptr b 0)
 | .box t x=>(st.get1 x).map fun v=>(t,v.cells,fun b=>.ptr b 0)
 | .buildSlice t n parts =>
  match quiet P (underlying t) with
  | some (.slice e)=>(quiet P (sizeOf e)).bind fun s=>if n*s > 2 ^ 16 then none else
   (aFy P e).bind fun z=>if z.isEmpty then none else (partsOf st parts.toList).bind fun ps=>(laid (fun i=>some (i*s,s)) ((List.range (n*s)).map fun i=>z.getD (i % z.length) default) ps).map fun ss=>(e,ss,fun b=>.slice b 0 n n)
  | _=>none
 | _=>none
def aOO (C:FuncId→Option Ct) (ops:Array Oper):Option Tmp→Bool
 | some d=>aK7 C ops d
 | none=>false
def aEV (P:Program) (t:TypeId):Option (Nat × TypeId):=match quiet P (underlying t) with
 | some (.slice e)=>(quiet P (sizeOf e)).map fun s=>(s,e)
 | _=>none
def aN3 (P:Program) (C:FuncId→Option Ct) (ops:Array Oper) (st:St) (o:Oper):Option (Oa × TypeId):=
 match o.op with
 | .buildSlice t (n+1) parts=>if aOO C ops o.dst then (aEV P t).bind fun p=>(aCo P st (.buildSlice t (n+1) parts)).bind fun q=>if 0 < p.1∧q.1=p.2 then some (.mk (.lnew (n+1) p.1 0) [.agg q.2.1] p.1 q.1,q.1) else none else none
 | _=>none
def aBI {P:Program} (C:FuncId→Option Ct) (pm:Pm P) (ops:Array Oper) (st:St) (dst:Option Tmp):Op→St
 | .call { callee:=.value x,args,.. }=>match st.get1 x with
  | some (.one (.func f []))=>if (C f).isSome then (args.toList.flatMap fun a=>match st.get1 a with | some v=>aEU v.cells | none=>[]).foldl (aGi pm.dlo) st else st
  | _=>st
 | .slice _ x none (some _) none=>match st.get1 x with
  | some (.one (.dyn k))=>if (match dst with | some t=>aK7 C ops t | none=>false) then aGi pm.dlo st k else st
  | _=>st
 | _=>st
def aOm (P:Program) (o:Oper) (st:St) (k:V S→St→Option T):Option T:=
 aJl P o.op st fun st =>
 match aBG P st o.op with
 | some v=>k v st
 | none =>
  match valA P st o.op with
  | some a=>aAE a st k
  | none =>
  match aMp P st o.op with
  | some (p,xs)=>aMo P p xs st k
  | none =>
   match o.op with
   | .pick c a b=>(st.get c).bind fun c=>(st.get a).bind fun a=>(st.get b).bind fun b=>aER c st fun t st=>k (if t then a else b) st
   | _=>none
def aGE (P:Program) (st:St):Op→Option (V1 S)
 | .load t x=>(st.get1 x).bind fun a=>(aDb a).bind fun (b,o)=>(st.blocks[b]?).bind fun bl=>partOf P t bl.cells o
 | _=>none
def aJn (P:Program) (pm:Pm P) (st:St):Op→Option St
 | .store t x y=>(st.get1 x).bind fun a=>(aDb a).bind fun (b,o)=>(st.blocks[b]?).bind fun bl=>(st.get1 y).bind fun v =>
  if pm.lo≤b∧quiet P (sizeOf t)=some v.cells.length∧o+v.cells.length≤bl.cells.length then some { st with blocks:=st.blocks.set b { bl with cells:=putAt bl.cells o v.cells } } else none
 | _=>none
inductive Kind where
 | val | load | makes | store | call
 deriving DecidableEq
def kindOf:Op→Kind
 | .load ..=>.load
 | .alloc .. | .box .. | .buildSlice ..=>.makes
 | .store ..=>.store
 | .call { callee:=.value _,.. }=>.call
 | _=>.val
def aAU (P:Program) (C:Cs) (inl:Inl) (pm:Pm P) (o:Oper) (st:St) (k:V S→St→Option T):Option T:=
 match kindOf o.op with
 | .val=>aOm P o st k
 | .load=>(aGE P st o.op).bind fun v=>k (.v1 v) st
 | .makes=>(aCo P st o.op).bind fun (e,ss,mk)=>k (.v1 (.one (mk st.blocks.length))) (st.new ss e)
 | .store=>(aJn P pm st o.op).bind fun st=>k (.tup []) st
 | .call=>match o.op with
  | .call { callee:=.value x,args,.. }=>(st.get1 x).bind fun v=>(aN1 st args.toList).bind fun xs=>match v with
   | .one (.func f cap)=>aJm P C inl f cap xs st k
   | _=>none
  | _=>none
def aF0 (ops:Array Oper) (o:Oper) (st:St) (k:Bool→St→Option T):Option T:=
 match o.guard with
 | none=>k true st
 | some (j,want) =>
  match ((ops[j]?).bind (·.dst)).bind (st.tmps[·]?) with
  | some (.v1 (.one s))=>aER (.v1 (.one s)) st fun b st=>k (b == want) st
  | some (.tup _)=>k false st
  | _=>none
def aEb:V S:=.tup []
def aN4 (P:Program) (C:Cs) (pm:Pm P) (ops:Array Oper) (st:St) (o:Oper):Option Oa:=
 match aN3 P C ops st o with
 | some (a,_)=>some a
 | none=>aBH P pm st o.op
def aE1 (P:Program) (C:Cs) (inl:Inl) (pm:Pm P) (ops:Array Oper):List Nat→St→(St→Option T)→Option T
 | [],st,k=>k st
 | i::l,st,k =>
  match ops[i]? with
  | none=>aE1 P C inl pm ops l st k
  | some o=>aF0 ops o st fun b st=>if b then (match aN4 P C pm ops st o with
   | some a=>aAE a st fun v st=>aE1 P C inl pm ops l (st.put o.dst v) k
   | none=>aAU P C inl pm o (aBI C pm ops st o.dst o.op) fun v st=>aE1 P C inl pm ops l (st.put o.dst v) k) else aE1 P C inl pm ops l (st.put o.dst aEb) k
def aJo (P:Program) (st:St):ResultVar→Option (V1 S)
 | .tmp t=>(st.tmps[t]?).bind V.v1?
 | .cell a t=>(st.tmps[a]?).bind fun a=>a.v1?.bind fun a=>(aDb a).bind fun (b,o)=>(st.blocks[b]?).bind fun bl=>partOf P t bl.cells o
def aHx (P:Program) (st:St):List ResultVar→Option (List (V1 S))
 | []=>some []
 | r::l=>(aJo P st r).bind fun v=>(aHx P st l).bind fun vs=>some (v::vs)
def aBJ (P:Program) (fn:Func) (st:St):Option (V S):=
 (aHx P st fn.results.toList).map fun | [v]=>.v1 v | vs=>.tup vs
def enters (fn:Func) (xs:List (V S)) (st:St):St:={ st with tmps:=xs++List.replicate (fn.ntmps - xs.length) aEb }
inductive Stp where
 | any (i:Nat)
 | take (i:Nat)
 | make (i:Nat)
 | only (i:Nat)
 | last (i:Nat)
 deriving Inhabited
def Stp.on:Stp→Nat
 | .any i | .take i | .make i | .only i | .last i=>i
structure Ent where
 i:Nat
 a:Nat
 l:Nat
 d:Nat
 k:Kind
def aA8:List Nat→Nat
 | []=>0
 | i::l=>(1 <<< i) ||| aA8 l
def aAA (ops:Array Oper) (o:Oper) (i:Nat):Ent:=⟨i,aA8 ((o.after.toList.filter (Region.binds .any)).map (·.on)),aA8 (o.looksAt ops),aA8 o.dst.toList,kindOf o.op⟩
def aEc {α:Type} (n:Nat) (k:Nat→α):α:=
 match n with
 | 0=>k 0
 | n+1=>k (n+1)
def aF1 {α:Type} (ops:Array Oper):List (Oper × Nat)→List Ent→(List Ent→α)→α
 | [],acc,k=>k acc.reverse
 | (o,i)::r,acc,k=>aEc (aAA ops o i).a fun a=>aEc (aAA ops o i).l fun l=>aEc (aAA ops o i).d fun d=>aF1 ops r (⟨i,a,l,d,kindOf o.op⟩::acc) k
def tblOf (ops:Array Oper):List Ent:=ops.toList.zipIdx.map fun (o,i)=>aAA ops o i
def aOn (x y:Ent):Bool:=x.i == y.i || y.a.testBit x.i || x.a.testBit y.i || ((x.d &&& (y.l ||| y.d)) == 0 && (y.d &&& x.l) == 0)
def aMq (x y:Ent):Bool:=x.a.testBit y.i || ((y.d &&& x.l) == 0 && (y.i == x.i || (x.d &&& y.d) == 0))
def Kind.light:Kind→Bool
 | .val | .load=>true
 | _=>false
def Kind.isMake:Kind→Bool
 | .makes=>true
 | _=>false
def Kind.isStore:Kind→Bool
 | .store=>true
 | _=>false
def pairsB (tbl:List Ent):Bool:=tbl.all fun x=>(!x.k.light || tbl.all (aOn x)) && (!x.k.isMake || tbl.all (aMq x))
def aDk (tbl:List Ent):List Nat:=(tbl.filter (·.k.isMake)).map (·.i)
def aJp (tbl:List Ent):List Nat:=(tbl.filter (·.k.isStore)).map (·.i)
def aBw (q a:Nat):Bool:=(a &&& q) == a
def aI9 (tbl:List Ent) (q mm i:Nat):Bool:=tbl.all fun y=>y.i == i || q.testBit y.i || y.k.isMake || !aBw (q ||| mm) y.a
def stpB (ops:Array Oper) (tbl:List Ent) (mm:Nat) (ds:List Nat) (q:Nat) (s:Stp):Bool:=
 match tbl.find? fun x=>x.i == s.on with
 | none=>false
 | some x=>!q.testBit x.i && aBw q x.a && match s with
  | .any _=>(match x.k with | .val=>true | _=>false)
  | .take i=>(match x.k with | .load=>true | _=>false) && ds.all fun d=>!q.testBit d && Region.reachB .any ops i ops.size d
  | .make i=>x.k.isMake && aI9 tbl q (mm ^^^ (1 <<< i)) ops.size
  | .only i=>(match x.k with | .call | .val | .load=>!ds.contains i | .store=>(mm &&& q) == mm | .makes=>false) && aI9 tbl q mm i
  | .last i=>((match x.k with | .call=>true | _=>false) && ds.contains i && (mm &&& q) == mm) && aI9 tbl q mm i
def aIA (ops:Array Oper) (tbl:List Ent) (mm:Nat) (ds:List Nat):Nat→List Stp→Bool
 | q,[]=>tbl.all fun x=>q.testBit x.i
 | q,s::ss=>stpB ops tbl mm ds q s && aEc (q ||| (1 <<< s.on)) fun q=>aIA ops tbl mm ds q ss
def aOP (ls vl:List Nat) (q:Nat) (tbl:List Ent):Option Stp:=
 match tbl.find? fun x=>x.k.light && !vl.contains x.i && !q.testBit x.i && aBw q x.a with
 | some x=>match x.k with
  | .load=>some (.take x.i)
  | _=>some (.any x.i)
 | none =>
  match tbl.find? fun x=>!x.k.isMake && !q.testBit x.i && aBw q x.a with
  | some x=>some (if ls.contains x.i then .last x.i else .only x.i)
  | none=>(tbl.find? fun x=>!q.testBit x.i && aBw q x.a).map fun x=>.make x.i
def aHy (ls vl:List Nat) (tbl:List Ent):Nat→Nat→List Stp
 | 0,_=>[]
 | n+1,q=>match aOP ls vl q tbl with
  | some s=>s::aEc (q ||| (1 <<< s.on)) fun q=>aHy ls vl tbl n q
  | none=>[]
def aCH (st:St) (x:Operand):Option Nat:=(st.get1 x).bind fun a=>(aDb a).map (·.1)
def aF2 (ops:Array Oper):Bool:=ops.all fun o=>match kindOf o.op with
 | .call=>false
 | _=>true
def aGF (nd0:Nat × Bool) (rs ds:List Nat) (st:St) (s:Stp) (op:Op):Bool:=
 match s,op with
 | .take _,.load _ x=>match aCH st x with
  | some b=>rs.contains b
  | none=>match st.get1 x with
   | some (.one (.eptr k _ _ _))=>k < nd0.1
   | some (.one (.vptr _ _ _ _))=>nd0.2
   | _=>false
 | .only i,.store _ x _=>ds.contains i || match aCH st x with
  | some b=>!rs.contains b
  | none=>false
 | _,_=>true
def aF3 (ops:Array Oper) (o:Oper) (st:St):Option Bool:=
 match o.guard with
 | none=>some true
 | some (j,want) =>
  match ((ops[j]?).bind (·.dst)).bind (st.tmps[·]?) with
  | some (.v1 (.one (.const (.bool b))))=>some (b == want)
  | some (.v1 (.one (.var i)))=>(st.known.lookup i).map (· == want)
  | some (.tup _)=>some false
  | _=>none
def aPC (P:Program) (ops:Array Oper) (tbl:List Ent) (mm:Nat) (q:Nat) (st:St):Stp→Bool
 | .any _ | .take _=>true
 | .only _ | .make _ | .last _=>tbl.all fun x=>!x.k.isMake || q.testBit x.i || match ops[x.i]? with
  | some o=>(match o.dst with
   | some d=>(match st.tmps[d]? with | some .junk | none=>true | _=>false)
   | none=>true) &&
   (!aBw (q ||| mm) x.a || (aF3 ops o st == some false) || (aCo P st o.op).isSome)
  | none=>false
def aIB (P:Program) (C:Cs) (inl:Nat→Nat→Inl) (pm:Pm P) (s:Stp) (o:Oper) (st:St) (k:V S→St→Option T):Option T:=
 match s with
 | .take _=>match aBH P pm st o.op with
  | some a=>aAE a st k
  | none=>aAU P C (inl st.blocks.length st.dyns.length) pm o st k
 | .last _=>let st:=aBI C pm #[] st o.dst o.op;aAU P C (inl pm.lo pm.dlo) pm o st k
 | .only _=>match kindOf o.op with
  | .store=>match aBH P pm st o.op with
   | some a=>aAE a st k
   | none=>aAU P C (inl st.blocks.length st.dyns.length) pm o st k
  | .call=>let st:=aBI C pm #[] st o.dst o.op;aAU P C (inl st.blocks.length st.dyns.length) pm o st k
  | .load=>match aBH P pm st o.op with
   | some a=>aAE a st k
   | none=>aAU P C (inl st.blocks.length st.dyns.length) pm o st k
  | _=>aAU P C (inl st.blocks.length st.dyns.length) pm o st k
 | _=>aAU P C (inl st.blocks.length st.dyns.length) pm o st k
def aCO (P:Program) (C:Cs) (inl:Nat→Nat→Inl) (pm:Pm P) (ops:Array Oper) (tbl:List Ent) (mm:Nat) (nd0:Nat × Bool) (rs ds:List Nat):Nat→List Stp→St→(St→Option T)→Option T
 | _,[],st,k=>k st
 | q,s::ss,st,k =>
  if aPC P ops tbl mm q st s then
   match ops[s.on]? with
   | none=>none
   | some o=>aF0 ops o st fun b st=>if b then (if aGF nd0 rs ds st s o.op then aIB P C inl pm s o st fun v st=>aCO P C inl pm ops tbl mm nd0 rs ds (q ||| (1 <<< s.on)) ss (st.put o.dst v) k else none) else aCO P C inl pm ops tbl mm nd0 rs ds (q ||| (1 <<< s.on)) ss (st.put o.dst aEb) k
  else none
def aLw (ops:Array Oper) (ms:List Nat) (st:St):St:=ms.foldl (fun st i=>st.put ((ops[i]?).bind (·.dst)) .junk) st
def aHz (P:Program):List Oper→St→St
 | [],st=>st
 | o::l,st=>aHz P l (match kindOf o.op with
  | .makes=>st.put o.dst (.v1 (.one (.ptr 1000000 0)))
  | _=>match o.op with
   | .fieldAddr .. | .indexAddr .. | .move _ | .nilCheck _=>match aBG P st o.op with
    | some v=>st.put o.dst v
    | none=>match o.op with
     | .indexAddr _ x _=>match st.get1 x with
      | some (.one (.ptr b q))=>st.put o.dst (.v1 (.one (.ptr b q)))
      | _=>st
     | _=>st
   | _=>st)
def aH0 (ops:Array Oper) (st:St) (n:Nat):List Nat:=ops.toList.filterMap fun o=>match o.op with
 | .load _ x=>(aCH st x).bind fun b=>if b < n then some b else none
 | _=>none
def aK8 (ops:Array Oper) (st:St) (rs sts:List Nat):List Nat:=sts.filter fun i=>match ops[i]? with
 | some { op:=.store _ x _,.. }=>match aCH st x with
  | some b=>rs.contains b
  | none=>true
 | _=>true
def aOo (ops:Array Oper) (st:St):Nat→Operand→Bool
 | n+1,.tmp q=>match ops.toList.find? (fun o=>o.dst == some q) with
  | some o=>match o.op with
   | .indexAddr _ x _=>match st.get1 x with
    | some (.one (.var _))=>true
    | _=>false
   | .fieldAddr _ x _ | .nilCheck x=>aOo ops st n x
   | _=>false
  | none=>false
 | _,_=>false
def aIa (ops:Array Oper) (st:St):List Nat:=if aF2 ops then [] else (List.range ops.size).filter fun i=>match ops[i]? with
 | some { op:=.load _ x,.. }=>(aCH st x).isNone && aOo ops st 8 x
 | _=>false
def aEW (C:Cs) (ops:Array Oper):List Nat:=(List.range ops.size).filter fun i=>match ops[i]? with
 | some o=>(match o.op with
  | .call { callee:=.value (.func f),.. }=>(C f).isNone
  | .call { callee:=.value _,.. }=>true
  | _=>false) && (List.range ops.size).all fun j=>j == i || Region.reachB .any ops j ops.size i
 | none=>false
def aEd:Code→List Nat
 | .region _ ops _=>ops.toList.filterMap (·.dst)
 | .seq a b | .cond _ a b=>aEd a++aEd b
 | .block _ b | .loop b=>aEd b
 | _=>[]
def aJq:Value→Value→Bool
 | .bool a,.bool b=>a == b
 | .int k a,.int l b=>k == l && a == b
 | .string a,.string b=>a.data == b.data
 | .pointer none,.pointer none=>true
 | .nilFunc,.nilFunc=>true
 | .nilIface,.nilIface=>true
 | .slice none a b,.slice none c d=>a == c && b == d
 | _,_=>false
def S.eqb:S→S→Bool
 | .var i,.var j=>i == j
 | .const a,.const b=>aJq a b
 | .ptr a b,.ptr c d=>a == c && b == d
 | .slice a b c d,.slice a' b' c' d'=>a == a' && b == b' && c == c' && d == d'
 | .func f l,.func g m=>f == g && l == m
 | .dyn a,.dyn b=>a == b
 | .eptr a b c d,.eptr a' b' c' d'=>a == a' && b == b' && c == c' && d == d'
 | .vptr a b c d,.vptr a' b' c' d'=>a == a' && b == b' && c == c' && d == d'
 | .win a b c d,.win a' b' c' d'=>a == a' && b == b' && c == c' && d == d'
 | _,_=>false
def S.free:S→Bool
 | .var _ | .const _=>true
 | _=>false
def aH1 (f:S→S) (s:S):List Bool × List S × Nat→S × (List Bool × List S × Nat)
 | (m,acc,n)=>if s.free then (match m with | true::m=>(.var n,(m,acc++[s],n+1)) | false::m=>(s,(m,acc,n)) | []=>(.var n,([],acc++[s],n+1))) else (f s,(m,acc,n))
def aEX (f:S→S):List S→List Bool × List S × Nat→List S × (List Bool × List S × Nat)
 | [],g=>([],g)
 | s::l,g=>let (s,g):=aH1 f s g;let (l,g):=aEX f l g;(s::l,g)
def useB (ds:List Dyn):S→Bool
 | .dyn k=>(aGD k ds 0).isSome
 | _=>false
def aN5 (f:S→S) (u:S→Bool) (b:Bool) (v:V S) (g:List Bool × List S × Nat):V S × (List Bool × List S × Nat):=
 if b then match v with
  | .v1 (.one s)=>if s.free || u s then (let (s,g):=aH1 f s g;(.v1 (.one s),g)) else (.junk,g)
  | .v1 (.agg ss)=>(let (ss,g):=aEX f ss g;(.v1 (.agg ss),g))
  | _=>(.junk,g)
 else (v,g)
def aDR (f:S→S) (u:S→Bool) (W:List Nat):Nat→List (V S)→List Bool × List S × Nat→List (V S) × (List Bool × List S × Nat)
 | _,[],g=>([],g)
 | t,v::l,g=>let (v,g):=aN5 f u (W.contains t) v g;let (l,g):=aDR f u W (t+1) l g;(v::l,g)
def aEY (f:S→S):List Blk→List Bool × List S × Nat→List Blk × (List Bool × List S × Nat)
 | [],g=>([],g)
 | b::l,g=>let (c,g):=aEX f b.cells g;let (l,g):=aEY f l g;({ b with cells:=c }::l,g)
def aLx (i:Nat):List Bool × List S × Nat→Nat × (List Bool × List S × Nat)
 | (m,acc,n)=>match m with | true::m=>(n,(m,acc++[.var i],n+1)) | false::m=>(i,(m,acc,n)) | []=>(n,([],acc++[.var i],n+1))
def aEZ (dlo:Nat) (f:Nat→Nat):Nat→List Dyn→List Bool × List S × Nat→List Dyn × (List Bool × List S × Nat)
 | _,[],g=>([],g)
 | q,y::l,g=>if y.live && Nat.ble dlo q then (let (i,g):=aLx y.cv g;let (l,g):=aEZ dlo f (q+1) l g;({ y with h:=f y.h,cv:=i }::l,g)) else (let (l,g):=aEZ dlo f (q+1) l g;(y::l,g))
def aMr (W:List Nat):Nat→List (V S)→List Nat
 | _,[]=>[]
 | t,v::l=>(if W.contains t then match v with | .v1 x=>aEU x.cells | _=>[] else [])++aMr W (t+1) l
def aFa (dlo:Nat) (hs:List Nat):Nat→List Dyn→List Nat
 | _,[]=>[]
 | q,y::l=>if y.live && Nat.ble dlo q && hs.contains y.h then y.h::aFa dlo hs (q+1) l else aFa dlo hs (q+1) l
def aF4 (k:Nat):List Nat→Nat→Option Nat
 | [],_=>none
 | j::l,i=>if j == k then some i else aF4 k l (i+1)
def aFb (mv:List Nat) (nd k:Nat):Nat:=match aF4 k mv 0 with
 | some i=>nd+i
 | none=>k
def S.mov (mv:List Nat) (nd:Nat):S→S
 | .dyn k=>.dyn (aFb mv nd k)
 | s=>s
def aDx (dlo:Nat) (W:List Nat) (st:St):List Nat:=aFa dlo (aMr W 0 st.tmps++st.blocks.flatMap fun b=>aEU b.cells) 0 st.dyns
def aCp (dlo:Nat) (W:List Nat) (m:List Bool) (st:St):St × List S:=
 let mv:=aDx dlo W st
 let (t,g):=aDR (S.mov mv st.nd) (useB st.dyns) W 0 st.tmps (m,[],st.nv)
 let (b,g):=aEY (S.mov mv st.nd) st.blocks g
 let (d,g):=aEZ dlo (aFb mv st.nd) 0 st.dyns g
 ({ st with tmps:=t,blocks:=b,dyns:=d,nv:=g.2.2,nd:=st.nd+mv.length },g.2.1)
def S.closed (n nb nd:Nat):S→Bool
 | .var i=>i < n
 | .const _=>true
 | .ptr b _=>b < nb
 | .slice b _ _ _=>b < nb
 | .func _ l=>l.all fun p=>p.1 < nb
 | .dyn k=>k < nd
 | .eptr k j _ _=>k < nd && j < n
 | .vptr i j _ _=>i < n && j < n
 | .win k _ i j=>k < nd && (i < n && j < n)
structure Hd where
 n:Nat
 nb:Nat
 nd:Nat
 ps:List (Nat × Nat)
def aIC (h:Hd) (p s:S) (acc:List S):Option (List S):=
 if p.closed h.n h.nb h.nd then (if p.eqb s then some acc else none) else
 match p with
 | .var j=>if j=h.n+acc.length∧s.free then some (acc++[s]) else none
 | .dyn k=>match s with
  | .dyn k'=>if h.ps.lookup k=some k' then some acc else none
  | _=>none
 | _=>none
def aID (h:Hd):List S→List S→List S→Option (List S)
 | [],[],acc=>some acc
 | p::ps,s::ss,acc=>(aIC h p s acc).bind fun acc=>aID h ps ss acc
 | _,_,_=>none
def aLy (h:Hd):V1 S→V1 S→List S→Option (List S)
 | .one p,.one s,acc=>aIC h p s acc
 | .agg ps,.agg ss,acc=>aID h ps ss acc
 | _,_,_=>none
def aJr (h:Hd):List (V1 S)→List (V1 S)→List S→Option (List S)
 | [],[],acc=>some acc
 | p::ps,s::ss,acc=>(aLy h p s acc).bind fun acc=>aJr h ps ss acc
 | _,_,_=>none
def aOp (h:Hd):V S→V S→List S→Option (List S)
 | .junk,_,acc=>some acc
 | .v1 p,.v1 s,acc=>aLy h p s acc
 | .tup ps,.tup ss,acc=>aJr h ps ss acc
 | _,_,_=>none
def aLz (h:Hd):List (V S)→List (V S)→List S→Option (List S)
 | [],[],acc=>some acc
 | p::ps,s::ss,acc=>(aOp h p s acc).bind fun acc=>aLz h ps ss acc
 | _,_,_=>none
def aIE (h:Hd):List Blk→List Blk→List S→Option (List S)
 | [],_,acc=>some acc
 | p::ps,s::ss,acc=>if p.elem=s.elem then (aID h p.cells s.cells acc).bind fun acc=>aIE h ps ss acc else none
 | _,_,_=>none
def aL0 (n i j:Nat) (acc:List S):Option (List S):=if i < n then (if i=j then some acc else none) else if i=n+acc.length then some (acc++[.var j]) else none
def aGG (h:Hd) (dlo:Nat):Nat→List Dyn→List Dyn→List S→Option (List S)
 | _,[],_,acc=>some acc
 | q,p::ps,s::ss,acc =>
  if p.live && Nat.ble dlo q then (if s.live=true∧s.s=p.s∧s.e=p.e∧s.w=p.w∧(if p.h < h.nd then s.h=p.h else h.ps.lookup p.h=some s.h) then (aL0 h.n p.cv s.cv acc).bind fun acc=>aGG h dlo (q+1) ps ss acc else none)
  else aGG h dlo (q+1) ps ss acc
 | _,_,_,_=>none
def aDy (nd dlo:Nat):Nat→List Dyn→List Dyn→List (Nat × Nat)
 | q,p::ps,s::ss=>if p.live && Nat.ble dlo q && s.live && Nat.ble nd p.h then (p.h,s.h)::aDy nd dlo (q+1) ps ss else aDy nd dlo (q+1) ps ss
 | _,_,_=>[]
def aEe (dlo n nb nd:Nat) (p s:St):Option (List S):=
 let h:Hd:=⟨n,nb,nd,aDy nd dlo 0 p.dyns s.dyns⟩
 if (List.range (p.nd - nd)).all (fun i=>(h.ps.lookup (nd+i)).isSome)∧nd≤p.nd then
  (aLz h p.tmps s.tmps []).bind fun acc=>(aIE h p.blocks s.blocks acc).bind fun acc=>(aGG h dlo 0 p.dyns s.dyns acc).bind fun acc=>if n+acc.length=p.nv then some acc else none
 else none
def orB:List Bool→List Bool→List Bool
 | a::l,b::m=>(a || b)::orB l m
 | l,_=>l
def T.turns (d n:Nat):T→List Bool→List Bool
 | .pure _ _ k,m | .call _ _ _ k,m | .sub _ _ _ k,m=>k.turns d n m
 | .ite _ t e,m | .isk _ _ t e,m=>e.turns d n (t.turns d n m)
 | .loop _ _ b,m=>b.turns d n m
 | .again d' _ ss,m=>if d'=d then orB m (ss.zipIdx.map fun (s,i)=>!s.eqb (.var (n+i))) else m
 | _,m=>m
def aL1 (f:Array Oper→Bool→St→(St→Option T)→Option T):Code→St→(St→Option T)→Option T
 | .seq a b,st,k=>aL1 f a st fun st=>aL1 f b st k
 | .region _ ops d,st,k=>f ops d st k
 | .cond c _ _,st,_=>match st.get c with
  | some (.v1 (.one (.const (.bool _))))=>some .fail
  | _=>none
 | .block _ b,st,k=>aL1 f b st k
 | .skip,st,k | .label _,st,k=>k st
 | _,_,_=>none
def T.line:T→Bool
 | .fail=>true
 | .pure _ _ k | .call _ _ _ k | .sub _ _ _ k=>k.line
 | _=>false
def aQu:Option T→Bool
 | some t=>t.line
 | none=>false
def aIF:Code→List Nat × Bool
 | .region _ ops _=>(ops.toList.flatMap fun o=>o.looksAt ops,false)
 | .seq a b=>match aIF a with
  | (r,true)=>(r,true)
  | (r,false)=>match aIF b with
   | (r2,s)=>(r++r2,s)
 | .cond _ _ _=>([],true)
 | .block _ b=>aIF b
 | _=>([],false)
def aF5 (c:Bool):Code→List Nat
 | .region _ ops _=>if c then ops.toList.filterMap (·.dst) else []
 | .seq a b=>aF5 c a++aF5 c b
 | .cond _ a b=>aF5 true a++aF5 true b
 | .block _ b | .loop b=>aF5 c b
 | _=>[]
def aPD (b:Code):Bool:=let w:=aF5 false b;(aIF b).1.any w.contains
def aOQ:Op→Bool
 | .panic _=>true
 | _=>false
def h1Of (P:Program) (t:TypeId):Option H1:=
 match quiet P (isAgg t),quiet P (sizeOf t) with
 | some true,some n=>some (.agg n)
 | some false,_=>some .one
 | _,_=>none
def h1s (P:Program):List TypeId→Option (List H1)
 | []=>some []
 | t::l=>(h1Of P t).bind fun h=>(h1s P l).map (h::·)
def aDS (P:Program) (f:FuncId):Option Ct:=(P.funcs[f]?).bind fun fn=>(h1s P fn.params.toList).bind fun ps=>(h1s P fn.resultTypes.toList).map fun
 | [h]=>⟨ps,.v1 h⟩
 | hs=>⟨ps,.tup hs⟩
def S.seen (n0:Nat) (acc:List Nat):S→List Nat
 | .var i=>if i < n0 then (if acc.contains i then acc else acc++[i]) else acc
 | _=>acc
def aF6 (n0:Nat) (acc:List Nat) (l:List S):List Nat:=l.foldl (S.seen n0) acc
def aQv (n0:Nat) (acc:List Nat) (l:List (V1 S)):List Nat:=l.foldl (fun acc x=>aF6 n0 acc x.cells) acc
def T.seen (n0:Nat):T→List Nat→List Nat
 | .ret ss,acc=>aF6 n0 acc ss
 | .pure _ xs k,acc=>k.seen n0 (aQv n0 acc xs)
 | .call _ ss _ k,acc=>k.seen n0 (aF6 n0 acc ss)
 | .ite i t e,acc=>e.seen n0 (t.seen n0 (S.seen n0 acc (.var i)))
 | .isk i _ t e,acc=>e.seen n0 (t.seen n0 (S.seen n0 acc (.var i)))
 | .fail,acc=>acc
 | .loop _ init b,acc=>b.seen n0 (aF6 n0 acc init)
 | .again _ _ ss,acc=>aF6 n0 acc ss
 | .sub ss _ _ k,acc=>k.seen n0 (aF6 n0 acc ss)
def reI (n0:Nat) (fv:List Nat) (m:Nat) (i:Nat):Option Nat:=if i < n0 then aF4 i fv 0 else some (i - n0+m)
def S.re (n0:Nat) (fv:List Nat) (m:Nat):S→Option S
 | .var i=>(reI n0 fv m i).map .var
 | .const v=>some (.const v)
 | _=>none
def V1.re (n0:Nat) (fv:List Nat) (m:Nat):V1 S→Option (V1 S)
 | .one s=>(s.re n0 fv m).map .one
 | .agg ss=>(aAc (S.re n0 fv m) ss).map .agg
def T.re (n0:Nat) (fv:List Nat) (m:Nat):T→Option T
 | .ret ss=>(aAc (S.re n0 fv m) ss).map .ret
 | .pure p xs k=>(aAc (V1.re n0 fv m) xs).bind fun ys=>(k.re n0 fv m).map (.pure p ys)
 | .call f ss n k=>(aAc (S.re n0 fv m) ss).bind fun ys=>(k.re n0 fv m).map (.call f ys n)
 | .ite i t e=>(reI n0 fv m i).bind fun j=>(t.re n0 fv m).bind fun t=>(e.re n0 fv m).map (.ite j t)
 | .isk i j t e=>(reI n0 fv m i).bind fun i=>(t.re n0 fv m).bind fun t=>(e.re n0 fv m).map (.isk i j t)
 | .fail=>some .fail
 | .loop d init b=>(aAc (S.re n0 fv m) init).bind fun ys=>(b.re n0 fv m).map (.loop d ys)
 | .again d n ss=>if n0≤n then (aAc (S.re n0 fv m) ss).map (.again d (n - n0+m)) else none
 | .sub ss n b k=>(aAc (S.re n0 fv m) ss).bind fun ys=>(k.re n0 fv m).map (.sub ys n b)
def T.leaves (i0:List S):T→List Bool→List Bool
 | .ret ss,m=>orB m ((ss.zip i0).map fun p=>!p.1.eqb p.2)
 | .pure _ _ k,m | .call _ _ _ k,m=>k.leaves i0 m
 | .ite _ t e,m | .isk _ _ t e,m=>e.leaves i0 (t.leaves i0 m)
 | .loop _ _ b,m=>b.leaves i0 m
 | .sub _ _ _ k,m=>k.leaves i0 m
 | _,m=>m
inductive Pl where
 | tmp (q:Nat)
 | cell (b o:Nat)
def aF7 (st:St):Pl→Bool
 | .tmp q=>match st.tmps[q]? with
  | some (.v1 (.one s))=>aES s
  | _=>false
 | .cell b o=>match (st.blocks[b]?).bind fun bl=>bl.cells[o]? with
  | some s=>aES s
  | none=>false
def St.setP (st:St) (s:S):Pl→St
 | .tmp q=>{ st with tmps:=st.tmps.set q (.v1 (.one s)) }
 | .cell b o=>match st.blocks[b]? with
  | some bl=>{ st with blocks:=st.blocks.set b { bl with cells:=bl.cells.set o s } }
  | none=>st
def nil1 (st:St) (p:Pl) (s:Nat) (e:TypeId):St:={ st.setP (.dyn st.nd) p with nv:=st.nv+1,nd:=st.nd+1,dyns:=st.dyns++[⟨st.nd,st.nv,s,e,true,2⟩] }
def aJs (k:St→Option T):List (Pl × Nat × TypeId)→St→Option T
 | [],st=>k st
 | (p,s,e)::l,st=>if aF7 st p && Nat.blt 0 s then (aJs k l (nil1 st p s e)).map (.pure .lnil []) else aJs k l st
def opsOf:Code→List Oper
 | .region _ ops _=>ops.toList
 | .seq a b | .cond _ a b=>opsOf a++opsOf b
 | .block _ b | .loop b=>opsOf b
 | _=>[]
def aJt (P:Program):Nat→TypeId→List TypeId
 | 0,_=>[]
 | n+1,t=>match quiet P (underlying t) with
  | some (.struct fields)=>fields.toList.flatMap fun f=>aJt P n f.type
  | some (.array m e)=>(List.range m).flatMap fun _=>aJt P n e
  | _=>[t]
def aQw (P:Program) (lo:Nat) (body:Code) (st:St):List (Pl × Nat × TypeId):=
 ((opsOf body).filterMap fun o=>match o.op with
  | .call { callee:=.builtin .append,args,argTypes }=>match args.toList,argTypes.toList with
   | .tmp q::_,t::_=>if aF7 st (.tmp q) then (aEV P t).map fun p=>(.tmp q,p) else none
   | _,_=>none
  | _=>none) ++
 (st.blocks.zipIdx.flatMap fun (bl,b)=>if lo≤b then ((aJt P 8 bl.elem).zipIdx.filterMap fun (t,o)=>if aF7 st (.cell b o) then (aEV P t).map fun p=>(.cell b o,p) else none) else [])
def aOR (ops:List Oper):Operand→Operand
 | .tmp q=>match ops.find? (fun o=>o.dst == some q) with
  | some o=>match o.op with
   | .move y=>y
   | _=>.tmp q
  | none=>.tmp q
 | x=>x
def aEf (dlo:Nat) (body:Code) (st:St):St:=
 ((opsOf body).filterMap fun o=>match o.op with
  | .slice _ x (some _) none none=>match st.get1 (aOR (opsOf body) x) with
   | some (.one (.dyn k))=>some k
   | _=>none
  | _=>none).foldl (aGi dlo) st
def aN6 (P:Program) (rc:Pm P→Code→St→(Ex→St→Option T)→Option T) (pm:Pm P):Inl:=fun f xs st k =>
 if pm.o.cc.contains f then (match xs with
  | [.v1 (.one (.ptr b 0))]=>match st.blocks[b]? with
   | some ⟨.ptr b' 0::_,_⟩=>if b'=b then k (.tup []) st else none
   | some ⟨[.const (.pointer none),c1],e⟩=>if pm.lo≤b∧e=pm.o.bt then k (.tup []) { st with blocks:=st.blocks.set b ⟨[.ptr b 0,c1],e⟩ } else none
   | _=>none
  | _=>none)
 else if pm.o.str.contains f then (match xs with
  | [.v1 (.one (.ptr b 0))]=>match st.blocks[b]? with
   | some ⟨[_,.dyn k'],e⟩=>(st.dyn? k').bind fun (q,y)=>if pm.dlo≤q∧e=pm.o.bt∧y.e=pm.o.be∧y.s=1∧y.w≠1 then
     (k (.v1 (.one (.var st.nv))) { st with nv:=st.nv+1,dyns:=st.dyns.set q { y with w:=0 } }).map (.pure .lstr1 [.one (.var y.cv)]) else none
   | _=>none
  | _=>none)
 else (P.funcs[f]?).bind fun fn=>fn.body.bind fun c =>
 if pm.o.sb.contains f then
  (aDS P f).bind fun ct =>
  let go:List Bool→Option (St × List S × T):=fun m =>
   let (st',init):=aCp pm.dlo [] m st
   (rc { pm with dep:=0,gen:=pm.o.gl.contains f } c (enters fn xs st) fun e st''=>match e with
    | .exit _=>none
    | _=>(aBJ P fn st'').bind fun v=>if fits ct.h v then (aEe pm.dlo st.nv st.blocks.length st.nd st' { st'' with tmps:=st.tmps }).map fun ss=>.ret (ss++flat v) else none).map fun t=>(st',init,t)
  (go []).bind fun (_,i0,t0)=>(go (t0.leaves i0 (i0.map fun _=>false))).bind fun (st',init,t) =>
   let fv:=t.seen st.nv []
   (t.re st.nv fv (fv.length+init.length)).bind fun b=>(k (ct.h.sym st'.nv) { st' with nv:=st'.nv+ct.h.size }).map fun t=>.sub (fv.map .var++init) (init.length+ct.h.size) b t
 else
  rc { pm with gen:=pm.o.gl.contains f } c (enters fn xs st) fun e st'=>match e with
   | .exit _=>none
   | _=>(aBJ P fn st').bind fun v=>k v { st' with tmps:=st.tmps }
def aIG (P:Program) (rc:Pm P→Code→St→(Ex→St→Option T)→Option T) (pm:Pm P) (body:Code) (K:Ex→St→Option T) (st:St):Option T:=
 let go:List Bool→(Ex→St→Option T)→Option (List S × T):=fun m Kx =>
  let (st',init):=aCp pm.dlo (aEd body) m st
  (rc { pm with dep:=pm.dep+1 } body st' fun e st''=>match e with
   | .normal=>(aEe pm.dlo st.nv st.blocks.length st.nd st' st'').map fun ss=>.again pm.dep st.nv ss
   | e=>Kx e st'').map fun t=>(init,t)
 (go [] fun _ _=>some .fail).bind fun (i0,t0) =>
  (go (t0.turns pm.dep st.nv (i0.map fun _=>false)) K).bind fun (init,t)=>some (.loop pm.dep init t)
def sx (P:Program) (C:Cs):Nat→Pm P→Code→St→(Ex→St→Option T)→Option T
 | 0,_,_,_,_=>none
 | n+1,pm,c,st,K =>
  let inl:Pm P→Inl:=aN6 P (sx P C n)
  let reg:Array Oper→Bool→St→(St→Option T)→Option T:=fun ops d st k =>
   if d then
    (if P.follows .mixedOrders && Region.noSelect ops then aF1 ops ops.toList.zipIdx [] fun tbl =>
     if pairsB tbl then
      let ms:=aDk tbl
      let sc:=aHz P ops.toList st
      let rs:=aH0 ops sc st.blocks.length
      let ls:=aEW C ops
      let ds:=aK8 ops sc rs (aJp tbl)++ls
      let ss:=aHy ls (aIa ops sc) tbl ops.size 0
      if aIA ops tbl (aA8 ms) ds 0 ss && rs.all (· < st.blocks.length) then aCO P C (fun lo dlo=>inl { pm with lo:=lo,dlo:=dlo }) pm ops tbl (aA8 ms) (st.nd,aF2 ops) rs ds 0 ss (aLw ops ms st) k else none
     else none else none)
   else aE1 P C (inl pm) pm ops (List.range ops.size) st k
  match c with
  | .skip | .label _=>K .normal st
  | .seq a b=>sx P C n pm a st fun e st=>match e with
   | .normal=>sx P C n pm b st K
   | e=>K e st
  | .cond c x y=>(st.get c).bind fun v=>aER v st fun b st=>sx P C n pm (if b then x else y) st K
  | .block id body=>sx P C n pm body st fun e st=>match e with
   | .exit i=>if i=id then K .normal st else K (.exit i) st
   | e=>K e st
  | .loop body =>
   if !pm.gen && !aPD body && aQu (aL1 reg body st fun _=>none) then
    sx P C n pm body st fun e st=>match e with
    | .normal=>sx P C n pm (.loop body) st K
    | e=>K e st
   else match aIG P (sx P C n) pm body K (aEf pm.dlo body st) with
    | some t=>some t
    | none=>match aQw P pm.lo body (aEf pm.dlo body st) with
     | []=>none
     | p::l=>aJs (aIG P (sx P C n) pm body K) (p::l) (aEf pm.dlo body st)
  | .exit id=>K (.exit id) st
  | .ret=>K .ret st
  | .region _ ops d=>if ops.any (fun o=>aOQ o.op) then some .fail else aLv P ops d st fun st=>reg ops d st (K .normal)
  | _=>none
def known (P:Program) (l:List FuncId):Cs:=fun f=>if l.contains f then aDS P f else none
def aN7 (n:Nat) (ss:List S):T:=if ss.any aES then .pure .lnil [] (.ret (ss.map (aHv n))) else .ret ss
def aFc (P:Program) (l:List FuncId) (n:Nat) (f:FuncId) (o:Opt P:={}):Option T:=
 (aDS P f).bind fun ct=>(P.funcs[f]?).bind fun fn=>fn.body.bind fun c=>sx P (known P l) n ⟨0,0,0,o.gl.contains f,o⟩ c (enters fn ((aEQ 0 ct.ps).map .v1) ⟨[],[],[],[],aCm ct.ps,[],0,[]⟩) fun e st=>match e with
  | .exit _=>none
  | _=>(aBJ P fn (aEa st)).bind fun v=>if fits ct.h v then some (aN7 (aEa st).nv (flat v)) else none
end Go.Proofs.YtkkjlpfomofiaaaGreatDoor.Sx
namespace Go.Proofs.YtkkjlpfomofiaaaGreatDoor.Sx
open Go Go.RowKit YtkkjlpfomofiaaaGreatDoorW.PrintLast
theorem aBe (n o i:Nat):(⟨n,o,none⟩:Addr).add i=⟨n,o+i,none⟩:=by
 unfold Addr.add
 split
 ·rename_i h
  rw [h]
  rfl
 ·rfl
theorem run_load {P:Program} {w:World} {a:Addr} {v:Value} (h:w.cell? a=some v):(load a).run P w=.ok v w:=by
 unfold load
 simp only [Sem.run,h]
theorem cell_at {w:World} {n o:Nat} {cs:Array Value} {e:TypeId} {fr:Nat × Nat} (h:w.heap[n]?=some (.cells cs e fr)):w.cell? ⟨n,o,none⟩=cs[o]?:=by
 unfold World.cell?
 rw [h]
 rfl
theorem run_loadCells {P:Program} {w:World} {n o:Nat} {cs:Array Value} {e:TypeId} {fr:Nat × Nat} (h:w.heap[n]?=some (.cells cs e fr)) (m:Nat) :
  ∀ (i:Nat) (acc:Array Value),o+i+m≤cs.size→(loadCellsFrom ⟨n,o,none⟩ i m acc).run P w=.ok (acc++((cs.toList.drop (o+i)).take m).toArray) w:=by
 induction m with
 | zero =>
  intro i acc _
  rw [List.take_zero]
  show Result.ok acc w=.ok (acc++#[]) w
  rw [Array.append_empty]
 | succ m ih =>
  intro i acc hl
  have hi:o+i < cs.size:=by omega
  have hc:w.cell? ((⟨n,o,none⟩:Addr).add i)=some cs[o+i]:=by rw [aBe,cell_at h,Array.getElem?_eq_getElem hi]
  show ((load ((⟨n,o,none⟩:Addr).add i)).bind fun v=>loadCellsFrom ⟨n,o,none⟩ (i+1) m (acc.push v)).run P w=_
  rw [run_bind_ok (run_load hc),ih (i+1) _ (by omega)]
  congr 1
  have hd:cs.toList.drop (o+i)=cs[o+i]::cs.toList.drop (o+(i+1)):=by
   rw [List.drop_eq_getElem_cons (by simpa using hi)]
   rfl
  rw [hd,List.take_succ_cons]
  apply Array.ext'
  simp
theorem run_store {P:Program} {w:World} {n o:Nat} {cs:Array Value} {e:TypeId} {fr:Nat × Nat} {v:Value} (h:w.heap[n]?=some (.cells cs e fr)) (hfr:¬ (fr.1≤o∧o < fr.2)) (ho:o < cs.size) (hv:aA5 v=true) :
  (store ⟨n,o,none⟩ v).run P w=.ok () (w.setCell ⟨n,o,none⟩ v):=by
 have hc:w.cell? ⟨n,o,none⟩=some cs[o]:=by rw [cell_at h,Array.getElem?_eq_getElem ho]
 have hf:w.frozen? ⟨n,o,none⟩=false:=by
  unfold World.frozen?
  rw [h]
  simpa using hfr
 unfold store
 cases v<;>first | (simp [Sem.run,hc,hf];done) | cases hv
theorem setCell_at {w:World} {n o:Nat} {cs:Array Value} {e:TypeId} {v:Value} {fr:Nat × Nat} (h:w.heap[n]?=some (.cells cs e fr)) :
  (w.setCell ⟨n,o,none⟩ v).heap[n]?=some (.cells (cs.setIfInBounds o v) e fr):=by
 unfold World.setCell
 simp [Array.getElem?_modify,h]
theorem aFN {w:World} {n o k:Nat} {v:Value} (h:k≠n):(w.setCell ⟨n,o,none⟩ v).heap[k]?=w.heap[k]?:=Below.heap_setCell _ _ _ _ h
theorem aCq {α:Type}:∀ (l:List α) (c:List α) (o:Nat),(putAt c o l).length=c.length
 | [],_,_=>rfl
 | s::l,c,o=>by
  show (putAt (c.set o s) (o+1) l).length=_
  rw [aCq l,List.length_set]
theorem All2.putAt {α β:Type} {R:α→β→Prop}:∀ {l:List α} {m:List β} {c:List α} {d:List β} (o:Nat),All2 R c d→All2 R l m→All2 R (Sx.putAt c o l) (Sx.putAt d o m)
 | [],[],_,_,_,h,_=>h
 | _::_,_::_,_,_,o,h,g=>All2.putAt (o+1) (All2.set o h g.1) g.2
 | [],_::_,_,_,_,_,g=>g.elim
 | _::_,[],_,_,_,_,g=>g.elim
theorem aBS {P:Program} {n o:Nat} {e:TypeId} {fr:Nat × Nat} {B:Nat} (hB:B≤n):∀ (vs:List Value) (i:Nat) (w:World) (cs:Array Value),w.heap[n]?=some (.cells cs e fr)→(∀ j,o+i≤j→j < o+i+vs.length→¬ (fr.1≤j∧j < fr.2))→o+i+vs.length≤cs.size→(∀ v ∈ vs,aA5 v=true) →
  ∃ w',(storeCells ⟨n,o,none⟩ vs i).run P w=.ok () w'∧w'.heap[n]?=some (.cells (putAt cs.toList (o+i) vs).toArray e fr)∧(∀ k,k≠n→w'.heap[k]?=w.heap[k]?)∧Below B w w'
 | [],_,w,cs,h,_,_,_=>⟨w,rfl,by rw [h];rfl,fun _ _=>rfl,Below.refl _ _⟩
 | v::vs,i,w,cs,h,hfr,hl,hv=>by
  rw [List.length_cons] at hl hfr
  have hi:o+i < cs.size:=by omega
  have h1:=run_store (P:=P) h (hfr _ (Nat.le_refl _) (by omega)) hi (hv v (List.mem_cons_self ..))
  have h2:=setCell_at (v:=v) (o:=o+i) h
  obtain ⟨w',r,hn,hf,hb⟩:=aBS (P:=P) (o:=o) hB vs (i+1) (w.setCell ⟨n,o+i,none⟩ v) (cs.setIfInBounds (o+i) v) h2 (fun j h3 h4=>hfr j (by omega) (by omega)) (by rw [Array.size_setIfInBounds];omega) (fun x hx=>hv x (List.mem_cons_of_mem _ hx))
  refine ⟨w',?_,?_,fun k hk=>(hf k hk).trans (aFN hk),(Below.setCell (Below.refl _ _) hB v).trans hb⟩
  ·show ((store ((⟨n,o,none⟩:Addr).add i) v).bind fun _=>storeCells ⟨n,o,none⟩ vs (i+1)).run P w=_
   rw [aBe,run_bind_ok h1,r]
  ·rw [hn,Array.toList_setIfInBounds]
   rfl
theorem All2.of_get {α β:Type} {R:α→β→Prop}:∀ {l:List α} {m:List β},l.length=m.length→(∀ (i:Nat) a b,l[i]?=some a→m[i]?=some b→R a b)→All2 R l m
 | [],[],_,_=>trivial
 | a::l,b::m,h,g=>⟨g 0 a b rfl rfl,All2.of_get (by simpa using h) fun i x y hx hy=>g (i+1) x y (by simpa using hx) (by simpa using hy)⟩
 | [],_::_,h,_=>by simp at h
 | _::_,[],h,_=>by simp at h
structure Bs where
 w0:World
 H0:Hp
 lo:Nat
 d0:List Dyn
 dn:Nat
def BlkAt (c:Cx) (w:World) (b:Blk) (n:Nat):Prop:=∃ cs:Array Value,w.heap[n]?=some (.cells cs b.elem (0,0))∧All2 (S.at c) b.cells cs.toList
def FrOk:Nat→Nat × Nat→Nat→Nat→Prop
 | 0,fr,n,_=>fr.1=fr.2∨fr.2≤n
 | 1,fr,_,cap=>fr.1=fr.2∨cap≤fr.1
 | _,fr,_,_=>fr.1=fr.2
def OwnsR (w:World) (e:TypeId) (s lv:Nat) (v:Value) (n:Nat) (xs:List Value):Prop:=
 xs.length=n*s∧((v=.slice none 0 0∧n=0)∨∃ g cap cur fr,v=.slice (some ⟨g,0,none⟩) n cap∧w.heap[g]?=some (.cells cur e fr)∧FrOk lv fr (n*s) (cap*s)∧n≤cap∧cap≤maxLen∧cur.size=cap*s∧cur.toList.take (n*s)=xs)
theorem OwnsR.of_row {w:World} {b:Nat} {e:TypeId} {s lv:Nat} {v:Value} {n:Nat} {xs:List Value} (h:w.ownsRow b e s v n xs):OwnsR w e s lv v n xs:=by
 refine ⟨h.1,h.2.imp id ?_⟩
 rintro ⟨g,cap,cur,h1,_,h2,h3⟩
 refine ⟨g,cap,cur,(0,0),h1,h2,?_,h3⟩
 unfold FrOk
 split<;>first | rfl | exact .inl rfl
theorem FrOk.free {lv:Nat} {fr:Nat × Nat} {n cap j:Nat} (h:FrOk lv fr n cap) (h1:n≤j) (h2:j < cap):¬ (fr.1≤j∧j < fr.2):=by
 unfold FrOk at h
 split at h<;>omega
theorem FrOk.all {lv:Nat} {fr:Nat × Nat} {n cap j:Nat} (h:FrOk lv fr n cap) (hl:0 < lv) (h2:j < cap):¬ (fr.1≤j∧j < fr.2):=by
 unfold FrOk at h
 split at h<;>omega
theorem FrOk.more {lv:Nat} {fr:Nat × Nat} {n n' cap:Nat} (h:FrOk lv fr n cap) (h1:n≤n'):FrOk lv fr n' cap:=by
 unfold FrOk at h ⊢
 split at h<;>first | exact h | omega
theorem FrOk.zero (lv n cap:Nat):FrOk lv (0,0) n cap:=by
 unfold FrOk
 split<;>first | rfl | exact .inl rfl
def OwnAt (H:Hp) (w:World) (e:TypeId) (s lv:Nat) (v:Value) (d:D):Prop:=∃ n ds xs,d=.l n ds∧OwnsR w e s lv v n xs∧All2 (D.at H) ds xs
def ownB (c:Cx) (y:Dyn):Option Nat:=if y.live then (c.δ[y.h]?).bind Value.ownBlock else none
structure DM (B:Bs) (c:Cx) (ds:List Dyn) (w:World):Prop where
 on:∀ y ∈ ds,y.live=true→∃ v d,c.δ[y.h]?=some v∧c.env[y.cv]?=some d∧0 < y.s∧OwnAt c.H w y.e y.s y.w v d
 free:∀ y ∈ ds,∀ g,ownB c y=some g→g ∉ c.ρ∧∀ o,c.H g o=none
 apart:∀ (i j:Nat) (x y:Dyn) (g:Nat),i≠j→ds[i]?=some x→ds[j]?=some y→ownB c x=some g→ownB c y≠some g
 base:∀ (i:Nat) (y:Dyn) (g:Nat),B.d0.length≤i→ds[i]?=some y→ownB c y=some g→B.w0.heap.size≤g
 pre:B.d0 <+: ds
def Holds (h:Hp) (w:World):Prop:=∀ b o x,h b o=some x→w.cell? ⟨b,o,none⟩=some x
structure M (B:Bs) (c:Cx) (st:St) (a:Act) (w:World):Prop where
 tm:All2 (V.at (S.at c)) st.tmps a.tmps.toList
 df:a.defers=[]
 nv:c.env.length=st.nv
 bl:All2 (BlkAt c w) st.blocks c.ρ
 nd:c.ρ.Nodup
 be:Below B.w0.heap.size B.w0 w
 wr:∀ i n,B.lo≤i→c.ρ[i]?=some n→B.w0.heap.size≤n
 hp:∀ b o x,c.H b o=some x→w.cell? ⟨b,o,none⟩=some x∧b ∉ c.ρ
 hn:∀ b o x,c.H b o=some x→B.w0.heap.size≤b∨B.H0 b o=some x
 kn:∀ p ∈ st.known,c.env[p.1]?=some (.v (.bool p.2))
 is:∀ p ∈ st.ints,∃ k,c.env[p.1]?=some (.v (.int k p.2))
 dl:c.δ.length=st.nd
 dt:∀ v ∈ c.δ,∀ g,v.ownBlock=some g→g < w.heap.size
 dr:∀ v ∈ c.δ,∀ g,v.ownBlock=some g→g ∉ c.ρ
 wd:∀ (i:Nat) (v:Value) (g:Nat),B.dn≤i→c.δ[i]?=some v→v.ownBlock=some g→B.w0.heap.size≤g
 dy:DM B c st.dyns w
theorem OwnAt.of {H:Hp} {w w':World} {e:TypeId} {s lv:Nat} {v:Value} {d:D} (h:OwnAt H w e s lv v d) (hb:∀ g,v.ownBlock=some g→w'.heap[g]?=w.heap[g]?):OwnAt H w' e s lv v d:=by
 obtain ⟨n,ds,xs,e1,⟨e2,e3⟩,e4⟩:=h
 refine ⟨n,ds,xs,e1,⟨e2,e3.imp id ?_⟩,e4⟩
 rintro ⟨g,cap,cur,fr,rfl,h2,h3⟩
 exact ⟨g,cap,cur,fr,rfl,(hb g rfl).trans h2,h3⟩
theorem OwnAt.mono {H H':Hp} (hH:Hp.le H H') {w:World} {e:TypeId} {s lv:Nat} {v:Value} {d:D}:OwnAt H w e s lv v d→OwnAt H' w e s lv v d:=
 fun ⟨n,ds,xs,e1,e2,e3⟩=>⟨n,ds,xs,e1,e2,e3.mono fun d y=>D.at_mono hH d y⟩
theorem OwnAt.lt {H:Hp} {w:World} {e:TypeId} {s lv:Nat} {v:Value} {d:D} {g:Nat} (h:OwnAt H w e s lv v d) (hg:v.ownBlock=some g):g < w.heap.size:=by
 obtain ⟨n,ds,xs,_,⟨_,e2⟩,_⟩:=h
 rcases e2 with ⟨rfl,_⟩ | ⟨g',cap,cur,fr,rfl,h1,_⟩
 ·cases hg
 ·obtain rfl:g'=g:=Option.some.inj hg
  exact (Array.getElem?_eq_some_iff.1 h1).1
theorem aCP {c:Cx} {y:Dyn} {g:Nat} (h:ownB c y=some g):y.live=true∧∃ v,c.δ[y.h]?=some v∧v.ownBlock=some g:=by
 unfold ownB at h
 split at h
 ·exact ⟨‹_›,Option.bind_eq_some_iff.1 h⟩
 ·cases h
theorem ownB_of {c:Cx} {y:Dyn} {v:Value} (h:y.live=true) (hv:c.δ[y.h]?=some v):ownB c y=v.ownBlock:=by
 unfold ownB
 rw [if_pos h,hv]
 rfl
theorem DM.eq {B:Bs} {c c':Cx} {ds:List Dyn} {w:World} (h:DM B c ds w) (he:c.δ <+: c'.δ) {y:Dyn} (hy:y ∈ ds):ownB c' y=ownB c y:=by
 cases hl:y.live with
 | false =>
  unfold ownB
  rw [hl]
  rfl
 | true =>
  obtain ⟨v,d,h1,_⟩:=h.on y hy hl
  rw [ownB_of hl h1,ownB_of hl (aAd he h1)]
theorem DM.mono {B:Bs} {c c':Cx} {ds:List Dyn} {w w':World} (h:DM B c ds w) (he:Ext c c') (hb:∀ y ∈ ds,∀ g,ownB c y=some g→w'.heap[g]?=w.heap[g]?) (hf:∀ y ∈ ds,∀ g,ownB c y=some g→g ∉ c'.ρ∧∀ o,c'.H g o=none):DM B c' ds w' where
 on:=fun y hy hl=>by
  obtain ⟨v,d,h1,h2,h3,h4⟩:=h.on y hy hl
  exact ⟨v,d,aAd he.δ h1,aAd he.env h2,h3,(h4.of fun g hg=>hb y hy g ((ownB_of hl h1).trans hg)).mono he.H⟩
 free:=fun y hy g hg=>hf y hy g ((h.eq he.δ hy) ▸ hg)
 apart:=fun i j x y g hij hx hy hg=>by
  rw [h.eq he.δ (List.mem_of_getElem? hy)]
  rw [h.eq he.δ (List.mem_of_getElem? hx)] at hg
  exact h.apart i j x y g hij hx hy hg
 base:=fun i y g hi hy hg=>by
  rw [h.eq he.δ (List.mem_of_getElem? hy)] at hg
  exact h.base i y g hi hy hg
 pre:=h.pre
theorem aBx {w:World} {b o:Nat} {x:Value} (h:w.cell? ⟨b,o,none⟩=some x):b < w.heap.size:=by
 rcases Nat.lt_or_ge b w.heap.size with g | g
 ·exact g
 ·unfold World.cell? at h
  rw [Array.getElem?_eq_none g] at h
  cases h
theorem heap_lt {w:World} {b:Nat} {x:Obj} (h:w.heap[b]?=some x):b < w.heap.size:=(Array.getElem?_eq_some_iff.1 h).1
theorem aFd {c:Cx}:∀ {l:List Value} {ss:List S},aCn l=some ss→All2 (S.at c) ss l
 | [],ss,h=>by
  obtain rfl:=Option.some.inj h
  trivial
 | v::l,ss,h=>by
  unfold aCn at h
  split at h
  ·rename_i hv
   obtain ⟨r,hr,rfl⟩:=Option.map_eq_some_iff.1 h
   exact ⟨⟨rfl,hv⟩,aFd hr⟩
  ·cases h
theorem aIb {c:Cx}:∀ l:List Value,l.all aA5=true→All2 (S.at c) (l.map .const) l
 | [],_=>trivial
 | v::l,h=>by
  rw [List.all_cons,Bool.and_eq_true] at h
  exact ⟨⟨rfl,h.1⟩,aIb l h.2⟩
theorem aIc {c:Cx}:∀ l:List Value,l.all aA5=true→All2 (V1.at (S.at c)) (l.map fun v=>.one (.const v)) l
 | [],_=>trivial
 | v::l,h=>by
  rw [List.all_cons,Bool.and_eq_true] at h
  exact ⟨⟨rfl,h.1⟩,aIc l h.2⟩
theorem aL2 {c:Cx} {x:Value} {v:V S} (h:ofValue x=some v):v.at (S.at c) x:=by
 cases x with
 | agg cs =>
  have h:(if cs.toList.all aA5 then some (V.v1 (.agg (cs.toList.map .const))) else none)=some v:=h
  split at h
  ·rename_i hc
   obtain rfl:=Option.some.inj h
   exact ⟨cs.toList,aIb _ hc,by simp⟩
  ·cases h
 | tuple cs =>
  have h:(if cs.toList.all aA5 then some (V.tup (cs.toList.map fun v=>.one (.const v))) else none)=some v:=h
  split at h
  ·rename_i hc
   obtain rfl:=Option.some.inj h
   exact ⟨cs.toList,aIc _ hc,by simp⟩
  ·cases h
 | _ =>
  obtain rfl:=Option.some.inj h
  exact ⟨rfl,rfl⟩
theorem aAV {c:Cx}:V.at (S.at c) aEb undef:=⟨[],trivial,rfl⟩
section
variable {B:Bs} {w w':World} {c c':Cx} {st:St} {a:Act}
theorem BlkAt.mono (h:Ext c c') {b:Blk} {n:Nat}:BlkAt c w b n→BlkAt c' w b n:=fun ⟨cs,e,g⟩=>⟨cs,e,g.mono (S.at_mono h)⟩
theorem M.get (m:M B c st a w) {x:Operand} {v:V S} (h:st.get x=some v):v.at (S.at c) (a.eval x):=by
 cases x with
 | tmp t =>
  obtain ⟨y,hy,hv⟩:=m.tm.get (show st.tmps[t]?=some v from h)
  have:a.eval (.tmp t)=y:=by
   show a.tmps.getD t undef=y
   rw [Array.getElem?_toList] at hy
   rw [Array.getD_eq_getD_getElem?,hy]
   rfl
  rw [this]
  exact hv
 | const x=>exact aL2 h
 | global g =>
  obtain rfl:=Option.some.inj h
  exact ⟨rfl,rfl⟩
 | func f =>
  obtain rfl:=Option.some.inj h
  exact ⟨[],trivial,rfl⟩
theorem aL3 {v:V S} {x1:V1 S} {x:Value} (h:v.v1?=some x1) (hv:v.at (S.at c) x):x1.at (S.at c) x:=by
 cases v with
 | v1 y =>
  obtain rfl:=Option.some.inj h
  exact hv
 | tup _=>cases h
 | junk=>cases h
theorem M.get1 (m:M B c st a w) {x:Operand} {v:V1 S} (h:st.get1 x=some v):v.at (S.at c) (a.eval x):=by
 obtain ⟨y,hy,h⟩:=Option.bind_eq_some_iff.1 h
 exact aL3 h (m.get hy)
theorem M.put (m:M B c st a w) {v:V S} {x:Value} (hv:v.at (S.at c) x) (d:Option Tmp):M B c (st.put d v) (a.put d x) w:=by
 cases d with
 | none=>exact m
 | some d =>
  refine { m with tm:=?_ }
  show All2 _ (st.tmps.set d v) (a.tmps.setIfInBounds d x).toList
  rw [Array.toList_setIfInBounds]
  exact All2.set d m.tm hv
theorem M.own_lt (m:M B c st a w) {y:Dyn} (_:y ∈ st.dyns) {g:Nat} (hg:ownB c y=some g):g < w.heap.size:=by
 obtain ⟨_,v,h1,h2⟩:=aCP hg
 exact m.dt v (List.mem_of_getElem? h1) g h2
theorem M.grow (m:M B c st a w) (h:Below w.heap.size w w'):M B c st a w':=by
 have hs:B.w0.heap.size≤w.heap.size:=m.be.size
 refine { m with bl:=m.bl.mono ?_,be:=m.be.trans (h.mono hs),hp:=fun b o x e=>⟨?_,(m.hp b o x e).2⟩,dt:=fun v hv g hg=>Nat.lt_of_lt_of_le (m.dt v hv g hg) h.size,dy:=m.dy.mono (Ext.refl _) (fun y hy g hg=>h.block g (m.own_lt hy hg)) m.dy.free }
 ·rintro b n ⟨cs,e,g⟩
  exact ⟨cs,(h.block n (heap_lt e)).trans e,g⟩
 ·have e1:=(m.hp b o x e).1
  rw [h.cell (p:=⟨b,o,none⟩) (aBx e1)]
  exact e1
theorem M.bind (m:M B c st a w) (ds:List D):M B ⟨c.env++ds,c.ρ,c.H,c.δ⟩ { st with nv:=st.nv+ds.length } a w:=by
 have e:Ext c ⟨c.env++ds,c.ρ,c.H,c.δ⟩:=⟨List.prefix_append _ _,List.prefix_refl _,Hp.le.refl _,List.prefix_refl _⟩
 exact {
  tm:=m.tm.mono (V.at_mono (S.at_mono e))
  df:=m.df
  nv:=by
   show (c.env++ds).length=st.nv+ds.length
   rw [List.length_append,m.nv]
  bl:=m.bl.mono fun _ _=>BlkAt.mono e
  nd:=m.nd
  be:=m.be
  wr:=m.wr
  hp:=m.hp
  hn:=m.hn
  kn:=fun p hp=>aAd e.env (m.kn p hp)
  is:=fun p hp=>let ⟨k,h⟩:=m.is p hp;⟨k,aAd e.env h⟩
  dl:=m.dl
  dt:=m.dt
  dr:=m.dr
  wd:=m.wd
  dy:=m.dy.mono e (fun _ _ _ _=>rfl) m.dy.free }
theorem Ext.bind (c:Cx) (ds:List D):Ext c ⟨c.env++ds,c.ρ,c.H,c.δ⟩:=⟨List.prefix_append _ _,List.prefix_refl _,Hp.le.refl _,List.prefix_refl _⟩
theorem M.more (m:M B c st a w) {h:Hp} (hl:Hp.le c.H h) (hw:∀ b o x,h b o=some x→w.cell? ⟨b,o,none⟩=some x∧b ∉ c.ρ) (hn:∀ b o x,h b o=some x→B.w0.heap.size≤b∨c.H b o=some x) (hf:∀ y ∈ st.dyns,∀ g,ownB c y=some g→∀ o,h g o=none):M B ⟨c.env,c.ρ,h,c.δ⟩ st a w:=by
 have e:Ext c ⟨c.env,c.ρ,h,c.δ⟩:=⟨List.prefix_refl _,List.prefix_refl _,hl,List.prefix_refl _⟩
 exact {
  tm:=m.tm.mono (V.at_mono (S.at_mono e))
  df:=m.df
  nv:=m.nv
  bl:=m.bl.mono fun _ _=>BlkAt.mono e
  nd:=m.nd
  be:=m.be
  wr:=m.wr
  hp:=hw
  hn:=fun b o x g=>(hn b o x g).elim .inl (m.hn b o x)
  kn:=m.kn
  is:=m.is
  dl:=m.dl
  dt:=m.dt
  dr:=m.dr
  wd:=m.wd
  dy:=m.dy.mono e (fun _ _ _ _=>rfl) fun y hy g hg=>⟨(m.dy.free y hy g hg).1,hf y hy g hg⟩ }
theorem M.rho_lt (m:M B c st a w) {i n:Nat} (h:c.ρ[i]?=some n):n < w.heap.size:=by
 have hi:i < st.blocks.length:=by
  rw [m.bl.length]
  exact (List.getElem?_eq_some_iff.1 h).1
 obtain ⟨n',h',cs,e,_⟩:=m.bl.get (i:=i) (List.getElem?_eq_getElem hi)
 obtain rfl:n'=n:=Option.some.inj (h'.symm.trans h)
 exact heap_lt e
theorem M.new (m:M B c st a w) {ss:List S} {cs:Array Value} {e:TypeId} (hs:All2 (S.at c) ss cs.toList) :
  M B ⟨c.env,c.ρ++[w.heap.size],c.H,c.δ⟩ (st.new ss e) a (w.alloc (.cells cs e)):=by
 have ex:Ext c ⟨c.env,c.ρ++[w.heap.size],c.H,c.δ⟩:=⟨List.prefix_refl _,List.prefix_append _ _,Hp.le.refl _,List.prefix_refl _⟩
 have hb:Below w.heap.size w (w.alloc (.cells cs e)):=(Below.refl _ _).alloc (Nat.le_refl _) _
 have g:=m.grow hb
 exact {
  tm:=g.tm.mono (V.at_mono (S.at_mono ex))
  df:=g.df
  nv:=g.nv
  bl:=(g.bl.mono fun _ _=>BlkAt.mono ex).app ⟨⟨cs,by
   show (w.heap.push _)[w.heap.size]?=_
   rw [Array.getElem?_push_size],hs.mono (S.at_mono ex)⟩,trivial⟩
  nd:=by
   rw [List.nodup_append]
   refine ⟨g.nd,List.nodup_cons.2 ⟨List.not_mem_nil,List.nodup_nil⟩,?_⟩
   intro x hx y hy
   rw [List.mem_singleton] at hy
   obtain ⟨i,hi⟩:=List.getElem?_of_mem hx
   have:=m.rho_lt hi
   omega
  be:=g.be
  wr:=fun i n hi hn=>by
   rcases Nat.lt_or_ge i c.ρ.length with h | h
   ·rw [List.getElem?_append_left h] at hn
    exact m.wr i n hi hn
   ·rw [List.getElem?_append_right h] at hn
    have h0:i - c.ρ.length=0:=by
     have:=(List.getElem?_eq_some_iff.1 hn).1
     simp at this
     omega
    rw [h0] at hn
    obtain rfl:w.heap.size=n:=by simpa using hn
    exact m.be.size
  hp:=fun b o x h=>by
   refine ⟨(g.hp b o x h).1,fun hm=>?_⟩
   rcases List.mem_append.1 hm with hm | hm
   ·exact (m.hp b o x h).2 hm
   ·rw [List.mem_singleton] at hm
    have:=aBx (m.hp b o x h).1
    omega
  hn:=g.hn
  kn:=g.kn
  is:=g.is
  dl:=g.dl
  dt:=g.dt
  dr:=fun v hv q hq hm=>by
   rcases List.mem_append.1 hm with hm | hm
   ·exact m.dr v hv q hq hm
   ·rw [List.mem_singleton] at hm
    have:=m.dt v hv q hq
    omega
  wd:=g.wd
  dy:=g.dy.mono ex (fun _ _ _ _=>rfl) fun y hy q hq=>⟨fun hm=>by
   rcases List.mem_append.1 hm with hm | hm
   ·exact (m.dy.free y hy q hq).1 hm
   ·rw [List.mem_singleton] at hm
    have:=m.own_lt hy hq
    omega,(m.dy.free y hy q hq).2⟩ }
theorem M.rebase (m:M B c st a w):M ⟨w,c.H,st.blocks.length,st.dyns,st.nd⟩ c st a w:=
 { m with
  be:=Below.refl _ _
  wr:=fun i n hi hn=>by
   have h1:=(List.getElem?_eq_some_iff.1 hn).1
   have h2:=m.bl.length
   have h3:st.blocks.length≤i:=hi
   omega
  hn:=fun _ _ _ h=>.inr h
  wd:=fun i v g hi hv=>by
   have h1:=(List.getElem?_eq_some_iff.1 hv).1
   have h2:=m.dl
   have h3:st.nd≤i:=hi
   omega
  dy:={ m.dy with
   base:=fun i y g hi hy=>by
    have h1:=(List.getElem?_eq_some_iff.1 hy).1
    have h3:st.dyns.length≤i:=hi
    omega
   pre:=List.prefix_refl _ } }
theorem M.unbase {st':St} {a':Act} (m:M B c st a w) (m':M ⟨w,c.H,st.blocks.length,st.dyns,st.nd⟩ c' st' a' w') (h:Ext c c'):M B c' st' a' w':=
 { m' with
  be:=m.be.trans (m'.be.mono m.be.size)
  wr:=fun i n hi hn=>by
   rcases Nat.lt_or_ge i c.ρ.length with g | g
   ·obtain ⟨t,ht⟩:=h.ρ
    rw [← ht,List.getElem?_append_left g] at hn
    exact m.wr i n hi hn
   ·have h1:w.heap.size≤n:=m'.wr i n (by show st.blocks.length≤i;rw [m.bl.length];exact g) hn
    have h2:B.w0.heap.size≤w.heap.size:=m.be.size
    omega
  hn:=fun b o x e=>by
   have h2:B.w0.heap.size≤w.heap.size:=m.be.size
   rcases m'.hn b o x e with h1 | h1
   ·have h1:w.heap.size≤b:=h1
    exact .inl (Nat.le_trans h2 h1)
   ·exact m.hn b o x h1
  wd:=fun i v g hi hv hg=>by
   rcases Nat.lt_or_ge i c.δ.length with q | q
   ·obtain ⟨t,ht⟩:=h.δ
    rw [← ht,List.getElem?_append_left q] at hv
    exact m.wd i v g hi hv hg
   ·have h1:w.heap.size≤g:=m'.wd i v g (by show st.nd≤i;rw [← m.dl];exact q) hv hg
    have h2:B.w0.heap.size≤w.heap.size:=m.be.size
    omega
  dy:={ m'.dy with
   base:=fun i y g hi hy hg=>by
    rcases Nat.lt_or_ge i st.dyns.length with q | q
    ·obtain ⟨t,ht⟩:=m'.dy.pre
     have ht:st.dyns++t=st'.dyns:=ht
     rw [← ht,List.getElem?_append_left q] at hy
     rw [m.dy.eq h.δ (List.mem_of_getElem? hy)] at hg
     exact m.dy.base i y g hi hy hg
    ·have h1:w.heap.size≤g:=m'.dy.base i y g q hy hg
     have h2:B.w0.heap.size≤w.heap.size:=m.be.size
     omega
   pre:=m.dy.pre.trans m'.dy.pre } }
theorem M.own (m:M B c st a w) {row:Option Nat} {ds:List Dyn} {nv nd:Nat} (he:Ext c c') (hρ:c'.ρ=c.ρ) (hH:c'.H=c.H) (hnv:c'.env.length=nv) (hnd:c'.δ.length=nd)
  (hb:∀ k,k < w.heap.size→some k≠row→w'.heap[k]?=w.heap[k]?) (hr:∀ g,row=some g→g ∉ c.ρ∧∀ o,c.H g o=none) (be:Below B.w0.heap.size B.w0 w')
  (dt:∀ v ∈ c'.δ,∀ g,v.ownBlock=some g→g < w'.heap.size) (dr:∀ v ∈ c'.δ,∀ g,v.ownBlock=some g→g ∉ c.ρ) (wd:∀ (i:Nat) (v:Value) (g:Nat),B.dn≤i→c'.δ[i]?=some v→v.ownBlock=some g→B.w0.heap.size≤g) (dy:DM B c' ds w'):M B c' { st with nv:=nv,nd:=nd,dyns:=ds } a w' where
 tm:=m.tm.mono (V.at_mono (S.at_mono he))
 df:=m.df
 nv:=hnv
 bl:=by
  show All2 (BlkAt c' w') st.blocks c'.ρ
  rw [hρ]
  refine (All2.of_get m.bl.length ?_)
  intro i b n hi hn
  obtain ⟨n',hn',cs,e,g⟩:=m.bl.get hi
  obtain rfl:n'=n:=Option.some.inj (hn'.symm.trans hn)
  exact ⟨cs,(hb n' (heap_lt e) fun h=>(hr n' h.symm).1 (List.mem_of_getElem? hn)).trans e,g.mono (S.at_mono he)⟩
 nd:=hρ ▸ m.nd
 be:=be
 wr:=fun i n hi hn=>m.wr i n hi (hρ ▸ hn)
 hp:=fun b o x h=>by
  rw [hH] at h
  obtain ⟨h1,h2⟩:=m.hp b o x h
  refine ⟨?_,hρ ▸ h2⟩
  rw [World.cell?_of_block (w:=w) (w':=w') (a:=⟨b,o,none⟩) (hb b (aBx h1) fun e=>by
   rw [(hr b e.symm).2 o] at h
   cases h)]
  exact h1
 hn:=fun b o x h=>m.hn b o x (hH ▸ h)
 kn:=fun p hp=>aAd he.env (m.kn p hp)
 is:=fun p hp=>let ⟨k,h⟩:=m.is p hp;⟨k,aAd he.env h⟩
 dl:=hnd
 dt:=dt
 dr:=hρ ▸ dr
 wd:=wd
 dy:=dy
end
end Go.Proofs.YtkkjlpfomofiaaaGreatDoor.Sx
namespace Go.Proofs.YtkkjlpfomofiaaaGreatDoor.Sx
open Go Go.RowKit YtkkjlpfomofiaaaGreatDoorW.PrintLast
section
variable {B:Bs} {w:World} {c:Cx} {st:St} {a:Act} {P:Program}
theorem aK9 {t:TypeId} {ss:List S} {o:Nat} {v:V1 S} {cs:Array Value} (h:partOf P t ss o=some v) (hs:All2 (S.at c) ss cs.toList) :
  ∃ x,quiet P (part t cs o)=some x∧v.at (S.at c) x:=by
 unfold partOf at h
 have hl:=hs.length
 split at h
 ·rename_i n h1 h2
  split at h
  ·rename_i hn
   obtain rfl:=Option.some.inj h
   refine ⟨.agg (cs.extract o (o+n)),?_,((cs.toList.drop o).take n),(hs.drop o).take n,?_⟩
   ·exact aAa h1 (aAa h2 rfl)
   ·congr 1
    apply Array.ext'
    rw [Array.toList_extract,List.extract_eq_take_drop]
    simp
  ·cases h
 ·rename_i h1
  obtain ⟨s,hs1,rfl⟩:=Option.map_eq_some_iff.1 h
  obtain ⟨x,hx,hr⟩:=hs.get hs1
  refine ⟨x,?_,hr⟩
  refine aAa h1 ?_
  have:cs[o]?=some x:=by rw [← Array.getElem?_toList];exact hx
  show quiet P (match cs[o]? with | some v => Pure.pure v | none => stuck "part: no such cell") = some x
  rw [this]
  rfl
 ·cases h
theorem aGH {v:V1 S} {b o:Nat} {x:Value} (h:aDb v=some (b,o)) (hv:v.at (S.at c) x):∃ n,c.ρ[b]?=some n∧x=.pointer (some ⟨n,o,none⟩):=by
 unfold aDb at h
 split at h
 ·obtain ⟨rfl,rfl⟩:=Prod.mk.injEq .. ▸ Option.some.inj h
  exact hv
 ·cases h
theorem aN8 {v:V1 S} {sh:Nat→S} {x:Value} (h:aHt v=some sh) (hv:v.at (S.at c) x):∃ n o,x=.pointer (some ⟨n,o,none⟩)∧∀ q,(sh q).at c (.pointer (some ⟨n,o+q,none⟩)):=by
 unfold aHt at h
 split at h
 ·obtain rfl:=Option.some.inj h
  obtain ⟨n,hn,e⟩:=hv
  exact ⟨n,_,e,fun q=>⟨n,hn,rfl⟩⟩
 ·obtain rfl:=Option.some.inj h
  obtain ⟨b,n,m,i,q,h1,h2,h3,e⟩:=hv
  exact ⟨b,_,e,fun q'=>⟨b,n,m,i,q,h1,h2,h3,by rw [Nat.add_assoc]⟩⟩
 ·obtain rfl:=Option.some.inj h
  obtain ⟨n,ds,b,e0,x0,q,h1,h2,h3,h4,e⟩:=hv
  exact ⟨b,_,e,fun q'=>⟨n,ds,b,e0,x0,q,h1,h2,h3,h4,by rw [Nat.add_assoc,Nat.add_assoc]⟩⟩
 ·cases h
theorem aBT {α:Type} {i:Nat} {b:α}:∀ {l:List (Nat × α)},l.lookup i=some b→(i,b) ∈ l
 | [],h=>by cases h
 | (j,c)::l,h=>by
  rw [List.lookup_cons] at h
  split at h
  ·rename_i e
   have e:i=j:=by simpa using e
   rw [← Option.some.inj h,e]
   exact List.mem_cons_self ..
  ·exact List.mem_cons_of_mem _ (aBT h)
theorem aJu (m:M B c st a w) {v:V1 S} {i:Int} {x:Value} (h:st.int? v=some i) (hv:v.at (S.at c) x):∃ k,x=.int k i:=by
 unfold St.int? at h
 split at h
 ·obtain rfl:=Option.some.inj h
  exact ⟨_,hv.1⟩
 ·obtain ⟨k,hk⟩:=m.is _ (aBT h)
  obtain ⟨d,hd,g⟩:=hv
  obtain rfl:D.v (.int k i)=d:=Option.some.inj (hk.symm.trans hd)
  exact ⟨k,(D.at_v.1 g).1⟩
 ·cases h
theorem aGI (m:M B c st a w) {s:TypeId} {x:Operand} {f:Nat} {v:V S} (h:aBG P st (.fieldAddr s x f)=some v):∃ y,quiet P (Instr.fieldAt s (a.eval x) f)=some y∧v.at (S.at c) y:=by
 obtain ⟨vx,hx,h⟩:=Option.bind_eq_some_iff.1 h
 obtain ⟨sh,hp,h⟩:=Option.bind_eq_some_iff.1 h
 obtain ⟨n,o,e,hsh⟩:=aN8 hp (m.get1 hx)
 split at h
 ·rename_i fields hu
  obtain ⟨fd,hfd,h⟩:=Option.bind_eq_some_iff.1 h
  split at h
  ·rename_i q hq
   obtain rfl:=Option.some.inj h
   refine ⟨.pointer (some ⟨n,o+fd.offset,none⟩),?_,hsh _⟩
   rw [e]
   refine aAa hu ?_
   show quiet P (match fields[f]? with | some f=>_ | _=>_)=_
   rw [hfd]
   refine aAa (a:=⟨n,o,none⟩) rfl ?_
   refine aAa (a:=⟨n,o+fd.offset,none⟩) ?_ rfl
   refine aAa hq ?_
   rw [if_neg (Nat.succ_ne_zero q),aBe]
   rfl
  ·cases h
 ·cases h
theorem aKf (m:M B c st a w) {s:TypeId} {x:Operand} {f:Nat} {v:V S} (h:aBG P st (.field s x f)=some v):∃ y,quiet P (Instr.field s (a.eval x) f)=some y∧v.at (S.at c) y:=by
 obtain ⟨vx,hx,h⟩:=Option.bind_eq_some_iff.1 h
 have hv:=m.get1 hx
 split at h
 ·rename_i ss fields hu
  obtain ⟨fd,hfd,h⟩:=Option.bind_eq_some_iff.1 h
  obtain ⟨v1,h1,rfl⟩:=Option.map_eq_some_iff.1 h
  obtain ⟨vs,hs,e⟩:=hv
  obtain ⟨y,hy,hr⟩:=aK9 (cs:=vs.toArray) h1 (by simpa using hs)
  refine ⟨y,?_,hr⟩
  rw [e]
  refine aAa hu ?_
  show quiet P (match fields[f]? with | some f=>_ | none=>_)=_
  rw [hfd]
  exact aAa (a:=vs.toArray) rfl hy
 ·cases h
theorem aGJ (m:M B c st a w) {t:TypeId} {x i:Operand} {v:V S} (h:aBG P st (.indexAddr t x i)=some v):∃ y,quiet P (Instr.indexAt t (a.eval x) (a.eval i))=some y∧v.at (S.at c) y:=by
 obtain ⟨vx,hx,h⟩:=Option.bind_eq_some_iff.1 h
 obtain ⟨vi,hi,h⟩:=Option.bind_eq_some_iff.1 h
 obtain ⟨n,hn,h⟩:=Option.bind_eq_some_iff.1 h
 obtain ⟨k,ei⟩:=aJu m hn (m.get1 hi)
 have hv:=m.get1 hx
 rw [ei]
 split at h
 ·rename_i len e b o hu _ _
  split at h
  ·rename_i hr
   obtain ⟨s,hs,rfl⟩:=Option.map_eq_some_iff.1 h
   obtain ⟨q,hq,ev⟩:=hv
   refine ⟨.pointer (some ⟨q,o+n.toNat*s,none⟩),?_,q,hq,rfl⟩
   rw [ev]
   refine aAa (a:=(k,n)) rfl ?_
   refine aAa hu ?_
   refine aAa (a:=(⟨q,o,none⟩:Addr)) rfl ?_
   refine aAa (a:=((some (⟨q,o,none⟩:Addr),len,e):Option Addr × Nat × TypeId)) rfl ?_
   refine aAa hu ?_
   dsimp only
   rw [if_pos hr]
   refine aAa hs ?_
   rw [aBe]
   rfl
  ·cases h
 ·rename_i e b o len cap hu _ _
  split at h
  ·rename_i hr
   obtain ⟨s,hs,rfl⟩:=Option.map_eq_some_iff.1 h
   obtain ⟨q,hq,ev⟩:=hv
   refine ⟨.pointer (some ⟨q,o+n.toNat*s,none⟩),?_,q,hq,rfl⟩
   rw [ev]
   refine aAa (a:=(k,n)) rfl ?_
   refine aAa hu ?_
   refine aAa (a:=((some (⟨q,o,none⟩:Addr),len,e):Option Addr × Nat × TypeId)) rfl ?_
   refine aAa hu ?_
   dsimp only
   rw [if_pos hr]
   refine aAa hs ?_
   rw [aBe]
   rfl
  ·cases h
 ·cases h
theorem aKg (m:M B c st a w) {t:TypeId} {x i:Operand} {v:V S} (h:aBG P st (.index t x i)=some v):∃ y,quiet P (Instr.index t (a.eval x) (a.eval i))=some y∧v.at (S.at c) y:=by
 obtain ⟨vx,hx,h⟩:=Option.bind_eq_some_iff.1 h
 obtain ⟨vi,hi,h⟩:=Option.bind_eq_some_iff.1 h
 have hv:=m.get1 hx
 split at h
 ·rename_i len e ss hu _
  obtain ⟨n,hn,h⟩:=Option.bind_eq_some_iff.1 h
  obtain ⟨k,ei⟩:=aJu m hn (m.get1 hi)
  rw [ei]
  split at h
  ·rename_i hr
   obtain ⟨s,hs,h⟩:=Option.bind_eq_some_iff.1 h
   obtain ⟨v1,h1,rfl⟩:=Option.map_eq_some_iff.1 h
   obtain ⟨vs,hvs,e⟩:=hv
   obtain ⟨y,hy,hr'⟩:=aK9 (cs:=vs.toArray) h1 (by simpa using hvs)
   refine ⟨y,?_,hr'⟩
   rw [e]
   refine aAa (a:=(k,n)) rfl ?_
   refine aAa hu ?_
   dsimp only
   rw [if_pos hr]
   exact aAa hs hy
  ·cases h
 ·cases h
theorem aIw (m:M B c st a w) {x:Operand} {i:Nat} {v:V S} (h:aBG P st (.extract x i)=some v):∃ y,quiet P (Instr.extract (a.eval x) i)=some y∧v.at (S.at c) y:=by
 obtain ⟨vx,hx,h⟩:=Option.bind_eq_some_iff.1 h
 have hv:=m.get hx
 split at h
 ·rename_i vs
  obtain ⟨v1,h1,rfl⟩:=Option.map_eq_some_iff.1 h
  obtain ⟨ys,hys,e⟩:=hv
  obtain ⟨y,hy,hr⟩:=hys.get h1
  refine ⟨y,?_,hr⟩
  rw [e]
  show quiet P (match ys.toArray[i]? with | some v=>Pure.pure v | none=>_)=_
  rw [show ys.toArray[i]?=some y by simpa using hy]
  rfl
 ·cases h
theorem aGj {t:TypeId} {z:List S} (h:aFy P t=some z):∃ x,quiet P (zeroValue t)=some x∧All2 (S.at c) z x.cells.toList:=by
 obtain ⟨x,hx,h⟩:=Option.bind_eq_some_iff.1 h
 exact ⟨x,hx,aFd h⟩
theorem aGk (m:M B c st a w):∀ {l:List (Nat × Operand)} {ps:List (Nat × V1 S)},partsOf st l=some ps→All2 (fun p q=>p.1=q.1∧p.2.at (S.at c) q.2) ps (l.map fun (i,x)=>(i,a.eval x))
 | [],ps,h=>by
  obtain rfl:=Option.some.inj h
  trivial
 | (i,x)::l,ps,h=>by
  obtain ⟨v,hv,h⟩:=Option.bind_eq_some_iff.1 h
  obtain ⟨r,hr,h⟩:=Option.bind_eq_some_iff.1 h
  obtain rfl:=Option.some.inj h
  exact ⟨⟨rfl,m.get1 hv⟩,aGk m hr⟩
theorem aJv (off:Nat):∀ (vs:List Value) (i:Nat) (cs:Array Value),((vs.zipIdx i).foldl (fun cs (q:Value × Nat)=>cs.setIfInBounds (off+q.2) q.1) cs).toList=putAt cs.toList (off+i) vs
 | [],_,_=>rfl
 | v::vs,i,cs=>by
  rw [List.zipIdx_cons,List.foldl_cons,aJv off vs (i+1)]
  dsimp only
  rw [Array.toList_setIfInBounds]
  rfl
theorem aH2 {place:Nat→Option (Nat × Nat)}:∀ {ps:List (Nat × V1 S)} {qs:List (Nat × Value)} {z ss:List S} {cs:Array Value},laid place z ps=some ss→All2 (fun p q=>p.1=q.1∧p.2.at (S.at c) q.2) ps qs→All2 (S.at c) z cs.toList →
  ∃ cs',Instr.fill place cs qs=some cs'∧All2 (S.at c) ss cs'.toList
 | [],[],z,ss,cs,h,_,hz=>by
  obtain rfl:=Option.some.inj h
  exact ⟨cs,rfl,hz⟩
 | (i,v)::ps,(j,y)::qs,z,ss,cs,h,hp,hz=>by
  obtain ⟨⟨hij,hv⟩,hp⟩:=hp
  dsimp only at hij hv
  subst hij
  unfold laid at h
  unfold Instr.fill
  cases hpl:place i with
  | none =>
   rw [hpl] at h
   cases h
  | some os =>
   obtain ⟨off,size⟩:=os
   rw [hpl] at h
   dsimp only at h ⊢
   have hc:=V1.at_cells hv
   have hlen:=hc.length
   have hz':=hz.length
   have q1:y.cells.size=y.cells.toList.length:=rfl
   have q2:cs.size=cs.toList.length:=rfl
   split at h
   ·cases h
   ·rename_i hn
    rw [not_or] at hn
    obtain ⟨h1,h2⟩:=hn
    have h1:v.cells.length=size:=Decidable.not_not.1 h1
    rw [if_neg (by simp only [ne_eq,decide_not,Bool.or_eq_true,Bool.not_eq_true',decide_eq_false_iff_not,gt_iff_lt,decide_eq_true_eq];omega)]
    refine aH2 h hp ?_
    have e:=aJv off y.cells.toList 0 cs
    rw [Nat.add_zero] at e
    have e2:(y.cells.zipIdx.foldl (fun cs (q:Value × Nat)=>cs.setIfInBounds (off+q.2) q.1) cs).toList=putAt cs.toList off y.cells.toList:=by
     rw [← e,← Array.foldl_toList,Array.toList_zipIdx]
    exact e2 ▸ All2.putAt off hz hc
 | [],_::_,_,_,_,_,h,_=>h.elim
 | _::_,[],_,_,_,_,h,_=>h.elim
theorem aKh (m:M B c st a w) {t:TypeId} {parts:Array (Nat × Operand)} {v:V S} (h:aBG P st (.build t parts)=some v):∃ y,quiet P (Instr.build t (parts.map fun (i,x)=>(i,a.eval x)))=some y∧v.at (S.at c) y:=by
 obtain ⟨z,hz,h⟩:=Option.bind_eq_some_iff.1 h
 obtain ⟨pl,hpl,h⟩:=Option.bind_eq_some_iff.1 h
 obtain ⟨ps,hps,h⟩:=Option.bind_eq_some_iff.1 h
 obtain ⟨ss,hss,rfl⟩:=Option.map_eq_some_iff.1 h
 obtain ⟨x,hx,hzz⟩:=aGj (c:=c) hz
 have hp:=aGk m hps
 have hl:(parts.map fun (p:Nat × Operand)=>(p.1,a.eval p.2)).toList=parts.toList.map fun (i,x)=>(i,a.eval x):=by simp
 obtain ⟨cs',hf,hcs⟩:=aH2 hss hp hzz
 refine ⟨.agg cs',?_,cs'.toList,hcs,by simp⟩
 refine aAa hx ?_
 unfold placesOf at hpl
 split at hpl
 ·rename_i fields hu
  obtain ⟨q,hq,rfl⟩:=Option.map_eq_some_iff.1 hpl
  refine aAa hu ?_
  refine aAa hq ?_
  rw [hl]
  dsimp only
  rw [hf]
  rfl
 ·rename_i n e hu
  obtain ⟨q,hq,rfl⟩:=Option.map_eq_some_iff.1 hpl
  refine aAa hu ?_
  refine aAa hq ?_
  rw [hl]
  dsimp only
  rw [hf]
  rfl
 ·cases hpl
theorem aKA (m:M B c st a w):∀ {l:List Operand} {ps:List (Nat × Nat)},aLu st l=some ps→All2 (fun p x=>∃ n,c.ρ[p.1]?=some n∧x=Value.pointer (some ⟨n,p.2,none⟩)) ps (l.map a.eval)
 | [],ps,h=>by
  obtain rfl:=Option.some.inj h
  trivial
 | x::l,ps,h=>by
  obtain ⟨v,hv,h⟩:=Option.bind_eq_some_iff.1 h
  obtain ⟨⟨b,o⟩,hp,h⟩:=Option.bind_eq_some_iff.1 h
  obtain ⟨r,hr,h⟩:=Option.bind_eq_some_iff.1 h
  obtain rfl:=Option.some.inj h
  exact ⟨aGH hp (m.get1 hv),aKA m hr⟩
theorem aH3 (m:M B c st a w) {f:Fn} {first captured:Array Operand} {v:V S} (h:aBG P st (.makeFunc f first captured)=some v):v.at (S.at c) (.func f (first.map a.eval) (captured.map a.eval)):=by
 cases f with
 | func f =>
  have h:(if first.size=0 then (aLu st captured.toList).map fun l=>V.v1 (.one (.func f l)) else none)=some v:=h
  split at h
  ·rename_i h0
   obtain ⟨l,hl,rfl⟩:=Option.map_eq_some_iff.1 h
   refine ⟨captured.toList.map a.eval,aKA m hl,?_⟩
   have:first=#[]:=Array.eq_empty_of_size_eq_zero h0
   subst this
   rw [show (captured.toList.map a.eval).toArray=captured.map a.eval from Array.ext' (by simp),Array.map_empty]
  ·cases h
 | _=>cases h
theorem aJw (m:M B c st a w) {x:Option Operand} {d n:Int} (h:aHu st x d=some n):x=none∧n=d∨∃ y k,x=some y∧a.eval y=.int k n:=by
 cases x with
 | none =>
  obtain rfl:=Option.some.inj h
  exact .inl ⟨rfl,rfl⟩
 | some y =>
  obtain ⟨v,hv,h⟩:=Option.bind_eq_some_iff.1 h
  obtain ⟨k,e⟩:=aJu m h (m.get1 hv)
  exact .inr ⟨y,k,rfl,e⟩
theorem aId {k:IntKind} {i:Int} {n:Nat} {code:BoundsCode} (h0:0≤i) (h1:i≤n):quiet P (Instr.sliceBound (.int k i) n code)=some i.toNat:=by
 refine aAa (a:=(k,i)) rfl ?_
 dsimp only
 rw [if_pos ⟨h0,h1⟩]
 rfl
theorem aGK {s:Bool} {len cap:Nat} {lo hi:Option Value} {l h:Int} (hl:lo=none∧l=0∨∃ k,lo=some (.int k l)) (hh:hi=none∧h=len∨∃ k,hi=some (.int k h)) (h0:0≤l) (h1:l≤h) (h2:h≤cap) :
  quiet P (Instr.sliceBounds s len cap lo hi none)=some (l.toNat,h.toNat,cap):=by
 unfold Instr.sliceBounds
 refine aAa (a:=cap) rfl ?_
 have tl:quiet P (match lo with
  | some v=>do
   let l ← Instr.sliceBound v h.toNat (if (none:Option Value).isSome then .slice3C else .sliceB)
   Pure.pure (l,h.toNat,cap)
  | none=>do
   let l ← Pure.pure 0
   Pure.pure (l,h.toNat,cap))=some (l.toNat,h.toNat,cap):=by
  rcases hl with ⟨rfl,rfl⟩ | ⟨k,rfl⟩
  ·rfl
  ·exact aAa (aId h0 (by omega)) rfl
 rcases hh with ⟨rfl,rfl⟩ | ⟨k,rfl⟩
 ·exact aAa (a:=len) rfl tl
 ·exact aAa (aId (by omega) h2) tl
theorem aKi (m:M B c st a w) {t:TypeId} {x:Operand} {lo hi:Option Operand} {v:V S} (h:aBG P st (.slice t x lo hi none)=some v):∃ y,quiet P (Instr.sliceAt t (a.eval x) (lo.map a.eval) (hi.map a.eval) none)=some y∧v.at (S.at c) y:=by
 obtain ⟨vx,hx,h⟩:=Option.bind_eq_some_iff.1 h
 have hv:=m.get1 hx
 split at h
 ·rename_i n e b o hu
  obtain ⟨l,hl,h⟩:=Option.bind_eq_some_iff.1 h
  obtain ⟨j,hj,h⟩:=Option.bind_eq_some_iff.1 h
  split at h
  ·rename_i hr
   obtain ⟨h0,h1,h2,h3⟩:=hr
   obtain ⟨s,hs,rfl⟩:=Option.map_eq_some_iff.1 h
   obtain ⟨q,hq,ev⟩:=hv
   refine ⟨.slice (some ⟨q,o+l.toNat*s,none⟩) (j - l).toNat (n - l.toNat),?_,q,hq,rfl⟩
   rw [ev]
   refine aAa hu ?_
   refine aAa (a:=⟨q,o,none⟩) rfl ?_
   refine aAa (aGK (l:=l) (h:=j) ?_ ?_ h0 h1 h2) ?_
   ·rcases aJw m hl with ⟨rfl,e⟩ | ⟨y,k,rfl,e⟩
    ·exact .inl ⟨rfl,e⟩
    ·exact .inr ⟨k,by rw [Option.map_some,e]⟩
   ·rcases aJw m hj with ⟨rfl,e⟩ | ⟨y,k,rfl,e⟩
    ·exact .inl ⟨rfl,e⟩
    ·exact .inr ⟨k,by rw [Option.map_some,e]⟩
   ·refine aAa hs ?_
    rw [if_neg (by omega),aBe,show j.toNat - l.toNat=(j - l).toNat by omega]
    rfl
  ·cases h
 ·cases h
theorem aC3 {t:TypeId} {x v:Value} {args:Array Operand} {ts:Array TypeId} (ha:args.map a.eval=#[x]) (ht:ts=#[t]) (h:quiet P (Builtin.len_ #[t] t #[x])=some v) {o:Oper} (ho:o.op=.call { callee:=.builtin .len,args:=args,argTypes:=ts }) :
  (execOp a.eval o).run P w=.ok (.value v) w:=by
 unfold execOp
 rw [ho]
 subst ht
 dsimp only [resolve]
 rw [ha]
 exact aA2 w h
theorem aKj (m:M B c st a w) {o:Oper} {v:V S} (h:aBG P st o.op=some v):∃ y,(∀ w,(execOp a.eval o).run P w=.ok (.value y) w)∧v.at (S.at c) y:=by
 cases hop:o.op
 all_goals rw [hop] at h
 all_goals (try cases h;done)
 case move x =>
  refine ⟨_,fun w=>?_,m.get h⟩
  unfold execOp
  rw [hop]
  rfl
 case assign x =>
  refine ⟨_,fun w=>?_,m.get h⟩
  unfold execOp
  rw [hop]
  rfl
 case build t parts =>
  obtain ⟨y,hy,hv⟩:=aKh m h
  refine ⟨y,fun w=>?_,hv⟩
  unfold execOp
  rw [hop]
  exact aA2 w hy
 case nilCheck x =>
  obtain ⟨vx,hx,h⟩:=Option.bind_eq_some_iff.1 h
  have hv:=m.get1 hx
  refine ⟨a.eval x,fun w=>?_,?_⟩
  ·unfold execOp
   rw [hop]
   dsimp only at h ⊢
   split at h
   ·obtain ⟨n,_,e⟩:=hv
    rw [e]
    rfl
   ·obtain ⟨vs,_,e⟩:=hv
    rw [e]
    rfl
   ·obtain ⟨_,_,_,_,_,_,_,_,e⟩:=hv
    rw [e]
    rfl
   ·obtain ⟨_,_,_,_,_,_,_,_,_,_,e⟩:=hv
    rw [e]
    rfl
   ·cases h
  ·split at h
   ·obtain rfl:=Option.some.inj h
    exact hv
   ·obtain rfl:=Option.some.inj h
    exact hv
   ·obtain rfl:=Option.some.inj h
    exact hv
   ·obtain rfl:=Option.some.inj h
    exact hv
   ·cases h
 case fieldAddr s x f =>
  obtain ⟨y,hy,hv⟩:=aGI m h
  refine ⟨y,fun w=>?_,hv⟩
  unfold execOp
  rw [hop]
  exact aA2 w hy
 case field s x f =>
  obtain ⟨y,hy,hv⟩:=aKf m h
  refine ⟨y,fun w=>?_,hv⟩
  unfold execOp
  rw [hop]
  exact aA2 w hy
 case indexAddr t x i =>
  obtain ⟨y,hy,hv⟩:=aGJ m h
  refine ⟨y,fun w=>?_,hv⟩
  unfold execOp
  rw [hop]
  exact aA2 w hy
 case index t x i =>
  obtain ⟨y,hy,hv⟩:=aKg m h
  refine ⟨y,fun w=>?_,hv⟩
  unfold execOp
  rw [hop]
  exact aA2 w hy
 case extract x i =>
  obtain ⟨y,hy,hv⟩:=aIw m h
  refine ⟨y,fun w=>?_,hv⟩
  unfold execOp
  rw [hop]
  exact aA2 w hy
 case makeFunc f first captured =>
  refine ⟨_,fun w=>?_,aH3 m h⟩
  unfold execOp
  rw [hop]
  rfl
 case slice t x lo hi mx =>
  cases mx with
  | some _=>cases h
  | none =>
   obtain ⟨y,hy,hv⟩:=aKi m h
   refine ⟨y,fun w=>?_,hv⟩
   unfold execOp
   rw [hop]
   exact aA2 w hy
 case call q =>
  obtain ⟨callee,args,ts⟩:=q
  cases callee with
  | builtin b =>
   cases b
   all_goals (try cases h;done)
   case len =>
    have h:(match args.toList,ts.toList with
     | [x],[t]=>(st.get1 x).bind fun v=>match v,quiet P (underlying t) with
      | .one (.slice _ _ n _),some (.slice _)=>some (V.v1 (.one (.const (.int .i64 n))))
      | .one (.const (.slice none n _)),some (.slice _)=>some (.v1 (.one (.const (.int .i64 n))))
      | _,some (.array n _)=>some (.v1 (.one (.const (.int .i64 n))))
      | _,_=>none
     | _,_=>none)=some v:=h
    split at h
    ·rename_i x t hx ht
     obtain ⟨v1,h1,h⟩:=Option.bind_eq_some_iff.1 h
     have hv:=m.get1 h1
     have ea:args.map a.eval=#[a.eval x]:=by
      apply Array.ext'
      rw [Array.toList_map,hx]
      rfl
     have et:ts=#[t]:=by
      apply Array.ext'
      rw [ht]
     split at h
     ·rename_i b o n k e hu
      obtain rfl:=Option.some.inj h
      obtain ⟨q,hq,ev⟩:=hv
      refine ⟨.int .i64 n,fun w=>aC3 ea et ?_ hop,⟨rfl,rfl⟩⟩
      rw [ev]
      exact aAa hu rfl
     ·rename_i n k e hu
      obtain rfl:=Option.some.inj h
      have ev:a.eval x=.slice none n k:=hv.1
      refine ⟨.int .i64 n,fun w=>aC3 ea et ?_ hop,⟨rfl,rfl⟩⟩
      rw [ev]
      exact aAa hu rfl
     ·rename_i n e hu
      obtain rfl:=Option.some.inj h
      refine ⟨.int .i64 n,fun w=>aC3 ea et ?_ hop,⟨rfl,rfl⟩⟩
      exact aAa hu rfl
     ·cases h
    ·cases h
  | value _=>cases h
  | invoke _ _=>cases h
end
end Go.Proofs.YtkkjlpfomofiaaaGreatDoor.Sx
namespace Go.Proofs.YtkkjlpfomofiaaaGreatDoor.Sx
open Go Go.RowKit YtkkjlpfomofiaaaGreatDoorW.PrintLast
section
variable {B:Bs} {w:World} {c:Cx} {st:St} {a:Act} {P:Program}
theorem aJx (m:M B c st a w):∀ {l:List Operand} {vs:List (V1 S)},aDD st l=some vs→All2 (V1.at (S.at c)) vs (l.map a.eval)
 | [],vs,h=>by
  obtain rfl:=Option.some.inj h
  trivial
 | x::l,vs,h=>by
  obtain ⟨v,hv,h⟩:=Option.bind_eq_some_iff.1 h
  obtain ⟨r,hr,h⟩:=Option.bind_eq_some_iff.1 h
  obtain rfl:=Option.some.inj h
  exact ⟨m.get1 hv,aJx m hr⟩
theorem aKB (m:M B c st a w):∀ {l:List Operand} {vs:List (V S)},aN1 st l=some vs→All2 (V.at (S.at c)) vs (l.map a.eval)
 | [],vs,h=>by
  obtain rfl:=Option.some.inj h
  trivial
 | x::l,vs,h=>by
  obtain ⟨v,hv,h⟩:=Option.bind_eq_some_iff.1 h
  obtain ⟨r,hr,h⟩:=Option.bind_eq_some_iff.1 h
  obtain rfl:=Option.some.inj h
  exact ⟨m.get hv,aKB m hr⟩
theorem aKC {h:Hp} {d:D} {y v:Value} (hd:D.at h d y) (hv:d.value=some v):y=v:=by
 cases d with
 | v x=>exact (D.at_v.1 hd).1.trans (Option.some.inj hv)
 | l _ _=>cases hv
 | err=>cases hv
theorem aFe {α:Type} {f:α→Option Value} {R:α→Value→Prop} (hf:∀ a y v,R a y→f a=some v→y=v):∀ {l:List α} {ys vs:List Value},All2 R l ys→aAc f l=some vs→ys=vs
 | [],[],vs,_,e=>Option.some.inj e
 | a::l,y::ys,vs,h,e=>by
  unfold aAc at e
  obtain ⟨x,hx,e⟩:=Option.bind_eq_some_iff.1 e
  obtain ⟨r,hr,e⟩:=Option.bind_eq_some_iff.1 e
  rw [← Option.some.inj e,hf a y x h.1 hx,aFe hf h.2 hr]
 | [],_::_,_,h,_=>h.elim
 | _::_,[],_,h,_=>h.elim
theorem aN9 {h:Hp} {d:V1 D} {y v:Value} (hd:d.at (D.at h) y) (hv:d.value=some v):y=v:=by
 cases d with
 | one d=>exact aKC hd hv
 | agg ds =>
  obtain ⟨vs,hvs,e⟩:=hd
  obtain ⟨xs,hx,hv⟩:=Option.bind_eq_some_iff.1 hv
  rw [e,← Option.some.inj hv,aFe (R:=D.at h) (fun _ _ _=>aKC) hvs hx]
theorem aNA (op:BinOp) (t:TypeId) (x y:Operand) (u v:Value):eqGuard op t x y u v=eqGuard op t (aAK (aHw x || aHw y)) (aAK (aHw x || aHw y)) u v:=by
 unfold eqGuard
 cases u<;>cases v<;>try rfl
 cases x<;>cases y<;>rfl
theorem aNB {h:Hp} {p:Pu} {ds:List (V1 D)} {ys:List Value} {d:D} (hd:All2 (V1.at (D.at h)) ds ys) (hr:p.plain P ds=some d):∃ y,quiet P (p.sem ys)=some y∧D.at h d y:=by
 obtain ⟨vs,hv,hr⟩:=Option.bind_eq_some_iff.1 hr
 obtain ⟨y,hy,hr2⟩:=Option.bind_eq_some_iff.1 hr
 obtain rfl:=aFe (R:=V1.at (D.at h)) (fun _ _ _=>aN9) hd hv
 split at hr2
 ·rename_i hc
  obtain rfl:=Option.some.inj hr2
  exact ⟨y,hy,D.at_v.2 ⟨rfl,hc⟩⟩
 ·cases hr2
theorem aMs {p:Pu} {ds:List (V1 D)} (hp:p.isL=false):p.run P ds=p.plain P ds:=by
 cases p<;>first | rfl | cases hp
theorem aNC {op:BinOp} {t:TypeId} {y:Operand} {k:Bool} (h:aET P op t y=some k):a.eval y=.nilIface:=by
 unfold aET at h
 split at h
 ·rfl
 ·cases h
theorem aL4 {h:Hp} {op:BinOp} {t:TypeId} {x y:Operand} {k:Bool} {d1:V1 D} {d:D} {v:Value} (hk:aET P op t y=some k) (hd:d1.at (D.at h) v) (hr:(Pu.enil k).run P [d1]=some d) :
  ∃ z,quiet P (do eqGuard op t x y v .nilIface;binOp op t v .nilIface)=some z∧D.at h d z:=by
 have hr:(Pu.enil k).lrun [d1]=some d:=hr
 unfold aET at hk
 split at hk
 case h_2=>cases hk
 have gd:∀ {v},((∃ t x,v=.iface t x)∨v=.nilIface)→quiet P (eqGuard op t x (.const .nilIface) v .nilIface)=some ():=by
  rintro v (⟨_,_,rfl⟩ | rfl)
  ·cases op<;>rfl
  ·cases op<;>cases x<;>rfl
 cases d1 with
 | agg _=>cases hr
 | one d1 =>
  have fin:∀ (b:Bool),quiet P (Op.equal t v .nilIface)=some b→((∃ t x,v=.iface t x)∨v=.nilIface)→(op=.eql∧k=true∨op=.neq∧k=false)→d=.v (.bool (if b then k else !k))→∃ z,quiet P (do eqGuard op t x (.const .nilIface) v .nilIface;binOp op t v .nilIface)=some z∧D.at h d z:=by
   intro b hb hv ho hd
   refine ⟨.bool (if b then k else !k),aAa (gd hv) ?_,by rw [hd];exact D.at_v.2 ⟨rfl,rfl⟩⟩
   rcases ho with ⟨rfl,rfl⟩ | ⟨rfl,rfl⟩
   ·have e:binOp .eql t v .nilIface=(do Pure.pure (.bool (← Op.equal t v .nilIface))):=by
     rcases hv with ⟨_,_,rfl⟩ | rfl<;>rfl
    rw [e]
    refine aAa hb ?_
    cases b<;>rfl
   ·have e:binOp .neq t v .nilIface=(do Pure.pure (.bool (!(← Op.equal t v .nilIface)))):=by
     rcases hv with ⟨_,_,rfl⟩ | rfl<;>rfl
    rw [e]
    refine aAa hb ?_
    cases b<;>rfl
  have hop:∃ ms,quiet P (underlying t)=some (.interface ms)∧(op=.eql∧k=true∨op=.neq∧k=false):=by
   split at hk
   ·exact ⟨_,‹_›,.inl ⟨rfl,(Option.some.inj hk).symm⟩⟩
   ·exact ⟨_,‹_›,.inr ⟨rfl,(Option.some.inj hk).symm⟩⟩
   ·cases hk
  obtain ⟨ms,hu,ho⟩:=hop
  cases d1 with
  | l _ _=>cases hr
  | err =>
   have hd:D.at h .err v:=hd
   unfold D.at at hd
   refine fin false ?_ (.inl hd) ho (Option.some.inj hr).symm
   obtain ⟨_,_,rfl⟩:=hd
   exact aAa hu rfl
  | v u =>
   obtain ⟨rfl,_⟩:=D.at_v.1 (show D.at h (.v u) v from hd)
   cases v<;>first | (cases hr;done) | skip
   refine fin true ?_ (.inr rfl) ho (Option.some.inj hr).symm
   exact aAa hu rfl
theorem aGL (m:M B c st a w) {o:Oper} {p:Pu} {xs:List (V1 S)} {ds:List (V1 D)} {d:D} (h:aMp P st o.op=some (p,xs)) (hv:aAc (V1.val (S.val c.env)) xs=some ds) (hr:p.run P ds=some d) :
  ∃ y,(∀ w,(execOp a.eval o).run P w=.ok (.value y) w)∧D.at c.H d y:=by
 have fin:∀ {ys:List Value},All2 (V1.at (S.at c)) xs ys→p.isL=false→(∀ w y,quiet P (p.sem ys)=some y→(execOp a.eval o).run P w=.ok (.value y) w)→∃ y,(∀ w,(execOp a.eval o).run P w=.ok (.value y) w)∧D.at c.H d y:=by
  intro ys hys hp he
  rw [aMs hp] at hr
  obtain ⟨y,hy,hd⟩:=aNB (aCe (R:=V1.at (S.at c)) (fun _ _ _=>V1.val_at) hys hv) hr
  exact ⟨y,fun w=>he w y hy,hd⟩
 cases hop:o.op
 all_goals rw [hop] at h
 all_goals (try cases h;done)
 case binOp op t x y yt =>
  obtain ⟨vx,hx,h⟩:=Option.bind_eq_some_iff.1 h
  split at h
  ·rename_i kk hk
   obtain ⟨rfl,rfl⟩:=Prod.mk.injEq .. ▸ Option.some.inj h
   obtain ⟨d1,hd1,hv⟩:=Option.bind_eq_some_iff.1 hv
   obtain rfl:=Option.some.inj hv
   have hda:=V1.val_at (m.get1 hx) hd1
   obtain ⟨z,hz,hd⟩:=aL4 (x:=x) hk hda hr
   refine ⟨z,fun w=>?_,hd⟩
   unfold execOp
   rw [hop]
   exact aA2 w (by rw [aNC (a:=a) hk];exact hz)
  obtain ⟨vy,hy,h⟩:=Option.map_eq_some_iff.1 h
  obtain ⟨rfl,rfl⟩:=Prod.mk.injEq .. ▸ h
  refine fin (ys:=[a.eval x,a.eval y]) ⟨m.get1 hx,m.get1 hy,trivial⟩ rfl fun w z hz=>?_
  unfold execOp
  rw [hop]
  refine aA2 w ?_
  rw [aNA]
  exact hz
 case unOp op t x =>
  obtain ⟨vx,hx,h⟩:=Option.map_eq_some_iff.1 h
  obtain ⟨rfl,rfl⟩:=Prod.mk.injEq .. ▸ h
  refine fin (ys:=[a.eval x]) ⟨m.get1 hx,trivial⟩ rfl fun w z hz=>?_
  unfold execOp
  rw [hop]
  exact aA2 w hz
 case convert src dst x =>
  have h:(match quiet P (underlying src),quiet P (underlying dst) with
   | some (.slice _),_ | _,some (.slice _)=>none
   | _,_=>(st.get1 x).map fun a=>(Pu.conv src dst,[a]))=some (p,xs):=h
  split at h
  ·cases h
  ·cases h
  ·obtain ⟨vx,hx,h⟩:=Option.map_eq_some_iff.1 h
   obtain ⟨rfl,rfl⟩:=Prod.mk.injEq .. ▸ h
   refine fin (ys:=[a.eval x]) ⟨m.get1 hx,trivial⟩ rfl fun w z hz=>?_
   unfold execOp
   rw [hop]
   exact aA2 w hz
 case index t x i =>
  obtain ⟨vx,hx,h⟩:=Option.bind_eq_some_iff.1 h
  obtain ⟨vy,hy,h⟩:=Option.map_eq_some_iff.1 h
  obtain ⟨rfl,rfl⟩:=Prod.mk.injEq .. ▸ h
  refine fin (ys:=[a.eval x,a.eval i]) ⟨m.get1 hx,m.get1 hy,trivial⟩ rfl fun w z hz=>?_
  unfold execOp
  rw [hop]
  exact aA2 w hz
 case slice t x lo hi mx =>
  cases mx with
  | some _=>cases h
  | none =>
   obtain ⟨vx,hx,h⟩:=Option.bind_eq_some_iff.1 h
   obtain ⟨bs,hb,h⟩:=Option.map_eq_some_iff.1 h
   obtain ⟨rfl,rfl⟩:=Prod.mk.injEq .. ▸ h
   refine fin (ys:=a.eval x::((lo.toList++hi.toList).map a.eval)) ⟨m.get1 hx,aJx m hb⟩ rfl fun w z hz=>?_
   unfold execOp
   rw [hop]
   cases lo<;>cases hi<;>exact aA2 w hz
 case call q =>
  obtain ⟨callee,args,ts⟩:=q
  cases callee with
  | builtin b =>
   cases b
   all_goals (try cases h;done)
   case len =>
    have h:(match args.toList,ts.toList with
     | [x],[t]=>(st.get1 x).map fun v=>match quiet P (underlying t) with
      | some (.slice _)=>(Pu.llen,[v])
      | _=>(.blt .len t,[v])
     | _,_=>none)=some (p,xs):=h
    split at h
    ·rename_i x t hx ht
     obtain ⟨v1,h1,h⟩:=Option.map_eq_some_iff.1 h
     have hv1:=m.get1 h1
     have ea:args.map a.eval=#[a.eval x]:=by
      apply Array.ext'
      rw [Array.toList_map,hx]
      rfl
     have et:ts=#[t]:=by
      apply Array.ext'
      rw [ht]
     split at h
     ·rename_i e hu
      obtain ⟨rfl,rfl⟩:=Prod.mk.injEq .. ▸ h
      obtain ⟨d1,hd1,hv⟩:=Option.bind_eq_some_iff.1 hv
      obtain rfl:=Option.some.inj hv
      have hda:=V1.val_at hv1 hd1
      cases d1 with
      | agg _=>cases hr
      | one d1 =>
       cases d1 with
       | v _=>cases hr
       | err=>cases hr
       | l n dd =>
        obtain rfl:=Option.some.inj hr
        have hda:D.at c.H (.l n dd) (a.eval x):=hda
        unfold D.at at hda
        obtain ⟨ad,cp,e1,_⟩:=hda
        refine ⟨.int .i64 n,fun w=>aC3 ea et ?_ hop,D.at_v.2 ⟨rfl,rfl⟩⟩
        rw [e1]
        exact aAa hu rfl
     ·obtain ⟨rfl,rfl⟩:=Prod.mk.injEq .. ▸ h
      exact fin (ys:=[a.eval x]) ⟨hv1,trivial⟩ rfl fun w z hz=>aC3 ea et hz hop
    ·cases h
   case min =>
    have h:(match args.toList with
     | [x,y]=>(st.get1 x).bind fun a=>(st.get1 y).map fun b=>(Pu.blt .min 0,[a,b])
     | _=>none)=some (p,xs):=h
    split at h
    ·rename_i x y hl
     obtain ⟨vx,hx,h⟩:=Option.bind_eq_some_iff.1 h
     obtain ⟨vy,hy,h⟩:=Option.map_eq_some_iff.1 h
     obtain ⟨rfl,rfl⟩:=Prod.mk.injEq .. ▸ h
     refine fin (ys:=[a.eval x,a.eval y]) ⟨m.get1 hx,m.get1 hy,trivial⟩ rfl fun w z hz=>?_
     have ea:args.map a.eval=#[a.eval x,a.eval y]:=by
      apply Array.ext'
      rw [Array.toList_map,hl]
      rfl
     unfold execOp
     rw [hop]
     dsimp only [resolve]
     rw [ea]
     exact aA2 w hz
    ·cases h
   case max =>
    have h:(match args.toList with
     | [x,y]=>(st.get1 x).bind fun a=>(st.get1 y).map fun b=>(Pu.blt .max 0,[a,b])
     | _=>none)=some (p,xs):=h
    split at h
    ·rename_i x y hl
     obtain ⟨vx,hx,h⟩:=Option.bind_eq_some_iff.1 h
     obtain ⟨vy,hy,h⟩:=Option.map_eq_some_iff.1 h
     obtain ⟨rfl,rfl⟩:=Prod.mk.injEq .. ▸ h
     refine fin (ys:=[a.eval x,a.eval y]) ⟨m.get1 hx,m.get1 hy,trivial⟩ rfl fun w z hz=>?_
     have ea:args.map a.eval=#[a.eval x,a.eval y]:=by
      apply Array.ext'
      rw [Array.toList_map,hl]
      rfl
     unfold execOp
     rw [hop]
     dsimp only [resolve]
     rw [ea]
     exact aA2 w hz
    ·cases h
  | value _=>cases h
  | invoke _ _=>cases h
variable {C:Cf} {n:Nat} {L:List T} {r:List D}
structure Same (c c':Cx) (st st':St):Prop where
 ext:Ext c c'
 ρ:c'.ρ=c.ρ
 H:c'.H=c.H
 tmps:st'.tmps=st.tmps
 blocks:st'.blocks=st.blocks
 δ:c'.δ=c.δ
 dyns:st'.dyns=st.dyns
theorem Same.refl (c:Cx) (st:St):Same c c st st:=⟨Ext.refl _,rfl,rfl,rfl,rfl,rfl,rfl⟩
theorem Same.trans {c1 c2 c3:Cx} {s1 s2 s3:St} (h:Same c1 c2 s1 s2) (g:Same c2 c3 s2 s3):Same c1 c3 s1 s3:=
 ⟨h.ext.trans g.ext,g.ρ.trans h.ρ,g.H.trans h.H,g.tmps.trans h.tmps,g.blocks.trans h.blocks,g.δ.trans h.δ,g.dyns.trans h.dyns⟩
theorem aE2 (m:M B c st a w) {s:V S} {k:Bool→St→Option T} {t:T} {y:Value} (hs:s.at (S.at c) y) (h:aER s st k=some t) (hr:t.run P C n L c.env=some r) :
  ∃ b st' t',y=.bool b∧k b st'=some t'∧t'.run P C n L c.env=some r∧M B c st' a w∧Same c c st st':=by
 have unf:∀ {i:Nat} {t e:T},T.run P C n L (.ite i t e) c.env=some r→(c.env[i]?=some (.v (.bool true))∧T.run P C n L t c.env=some r)∨(c.env[i]?=some (.v (.bool false))∧T.run P C n L e c.env=some r):=by
  intro i t e hr
  cases n <;>
  ·unfold T.run T.runB at hr
   split at hr
   ·exact .inl ⟨‹_›,hr⟩
   ·exact .inr ⟨‹_›,hr⟩
   ·cases hr
 unfold aER at h
 split at h
 ·rename_i b
  exact ⟨b,st,t,hs.1,h,hr,m,Same.refl _ _⟩
 ·rename_i i
  obtain ⟨d,hd,hy⟩:=hs
  split at h
  ·rename_i b hb
   have h1:=m.kn _ (aBT hb)
   obtain rfl:D.v (.bool b)=d:=Option.some.inj (h1.symm.trans hd)
   exact ⟨b,st,t,(D.at_v.1 hy).1,h,hr,m,Same.refl _ _⟩
  ·obtain ⟨t1,h1,h⟩:=Option.bind_eq_some_iff.1 h
   obtain ⟨t2,h2,h⟩:=Option.bind_eq_some_iff.1 h
   obtain rfl:=Option.some.inj h
   rcases unf hr with ⟨he,hr⟩ | ⟨he,hr⟩
   ·obtain rfl:D.v (.bool true)=d:=Option.some.inj (he.symm.trans hd)
    refine ⟨true,_,t1,(D.at_v.1 hy).1,h1,hr,{ m with kn:=?_ },⟨Ext.refl _,rfl,rfl,rfl,rfl,rfl,rfl⟩⟩
    intro p hp
    rcases List.mem_cons.1 hp with rfl | hp
    ·exact he
    ·exact m.kn p hp
   ·obtain rfl:D.v (.bool false)=d:=Option.some.inj (he.symm.trans hd)
    refine ⟨false,_,t2,(D.at_v.1 hy).1,h2,hr,{ m with kn:=?_ },⟨Ext.refl _,rfl,rfl,rfl,rfl,rfl,rfl⟩⟩
    intro p hp
    rcases List.mem_cons.1 hp with rfl | hp
    ·exact he
    ·exact m.kn p hp
 ·cases h
theorem aDc (m:M B c st a w) {i:Nat} {k:St→Option T}:∀ {q:Nat} {j:Int} {t:T},aGC i st k q j=some t→t.run P C n L c.env=some r →
  ∃ st' t',k st'=some t'∧t'.run P C n L c.env=some r∧M B c st' a w∧Same c c st st'
 | 0,j,t,h,hr=>by
  obtain rfl:=Option.some.inj h
  cases n<;>· unfold T.run T.runB at hr;cases hr
 | q+1,j,t,h,hr=>by
  obtain ⟨t1,h1,h⟩:=Option.bind_eq_some_iff.1 h
  obtain ⟨t2,h2,h⟩:=Option.bind_eq_some_iff.1 h
  obtain rfl:=Option.some.inj h
  have unf:(∃ k,c.env[i]?=some (.v (.int k j))∧t1.run P C n L c.env=some r)∨t2.run P C n L c.env=some r:=by
   cases n <;>
   ·unfold T.run T.runB at hr
    split at hr
    ·split at hr
     ·rename_i kk nn he hj
      subst hj
      exact .inl ⟨kk,he,hr⟩
     ·exact .inr hr
    ·cases hr
  rcases unf with ⟨kk,he,hr⟩ | hr
  ·refine ⟨_,t1,h1,hr,{ m with is:=?_ },⟨Ext.refl _,rfl,rfl,rfl,rfl,rfl,rfl⟩⟩
   intro p hp
   rcases List.mem_cons.1 hp with rfl | hp
   ·exact ⟨kk,he⟩
   ·exact m.is p hp
  ·exact aDc m h2 hr
theorem aND (m:M B c st a w) {op:Op} {k:St→Option T} {t:T} (h:aJl P op st k=some t) (hr:t.run P C n L c.env=some r) :
  ∃ st' t',k st'=some t'∧t'.run P C n L c.env=some r∧M B c st' a w∧Same c c st st':=by
 unfold aJl at h
 split at h
 ·split at h
  ·exact aDc m h hr
  ·exact aDc m h hr
 ·exact ⟨st,t,h,hr,m,Same.refl _ _⟩
theorem aMt (m:M B c st a w) {ops:Array Oper} {d:Bool} {k:St→Option T} {t:T} (h:aLv P ops d st k=some t) (hr:t.run P C n L c.env=some r) :
  ∃ st' t',k st'=some t'∧t'.run P C n L c.env=some r∧M B c st' a w:=by
 unfold aLv at h
 split at h
 ·obtain ⟨st',t',h1,h2,h3,-⟩:=aDc m h hr
  exact ⟨st',t',h1,h2,h3⟩
 ·exact ⟨st,t,h,hr,m⟩
theorem aKD {env:List D}:∀ {s:S} {d:D},aN0 s=some d→s.val env=some d
 | .const _,_,h=>h
 | .var _,_,h=>by cases h
 | .ptr _ _,_,h=>by cases h
 | .slice _ _ _ _,_,h=>by cases h
 | .func _ _,_,h=>by cases h
 | .dyn _,_,h=>by cases h
 | .eptr _ _ _ _,_,h=>by cases h
 | .vptr _ _ _ _,_,h=>by cases h
 | .win _ _ _ _,_,h=>by cases h
theorem aGl {α β:Type} {f g:α→Option β} (hf:∀ a b,f a=some b→g a=some b):∀ {l:List α} {m:List β},aAc f l=some m→aAc g l=some m
 | [],_,h=>h
 | a::l,m,h=>by
  unfold aAc at h ⊢
  obtain ⟨x,hx,h⟩:=Option.bind_eq_some_iff.1 h
  obtain ⟨y,hy,h⟩:=Option.bind_eq_some_iff.1 h
  rw [hf _ _ hx,Option.bind_some,aGl hf hy,Option.bind_some]
  exact h
theorem aNE {env:List D} {l:List (V1 S)} {ds:List (V1 D)} (h:aAc (V1.val aN0) l=some ds):aAc (V1.val (S.val env)) l=some ds:=
 aGl (fun x d hx=>by
  cases x with
  | one s =>
   obtain ⟨y,hy,hx⟩:=Option.bind_eq_some_iff.1 hx
   show (s.val env).bind _=_
   rw [aKD hy]
   exact hx
  | agg ss =>
   obtain ⟨y,hy,hx⟩:=Option.bind_eq_some_iff.1 hx
   show (aAc (S.val env) ss).bind _=_
   rw [aGl (fun _ _=>aKD) hy]
   exact hx) h
theorem aJy {k:Nat}:∀ {ds:List Dyn} {i q:Nat},aGD k ds i=some q→i≤q∧∃ y,ds[q - i]?=some y∧y.live=true∧y.h=k
 | [],_,_,h=>by cases h
 | y::ds,i,q,h=>by
  unfold aGD at h
  split at h
  ·rename_i hy
   obtain rfl:=Option.some.inj h
   rw [Bool.and_eq_true,beq_iff_eq] at hy
   exact ⟨Nat.le_refl _,y,by rw [Nat.sub_self];rfl,hy.1,hy.2⟩
  ·obtain ⟨h1,y',h2,h3⟩:=aJy h
   refine ⟨by omega,y',?_,h3⟩
   rw [show q - i=(q - (i+1))+1 by omega,List.getElem?_cons_succ]
   exact h2
theorem aBX {k q:Nat} {y:Dyn} (h:st.dyn? k=some (q,y)):st.dyns[q]?=some y∧y.live=true∧y.h=k:=by
 obtain ⟨q',h1,h⟩:=Option.bind_eq_some_iff.1 h
 obtain ⟨y',h2,h⟩:=Option.map_eq_some_iff.1 h
 obtain ⟨rfl,rfl⟩:=Prod.mk.injEq .. ▸ h
 obtain ⟨_,y2,h3,h4⟩:=aJy h1
 rw [Nat.sub_zero,h2] at h3
 obtain rfl:=Option.some.inj h3
 exact ⟨h2,h4⟩
theorem aFf {xs:List (V1 S)} {t:T}:∀ {ps:List Pu} {env:List D},(aFz ps xs t).run P C n L env=some r →
  ∃ ds,ds.length=ps.length∧t.run P C n L (env++ds)=some r∧∀ (i:Nat) (p:Pu),ps[i]?=some p→∃ d vs e,ds[i]?=some d∧env <+: e∧aAc (V1.val (S.val e)) xs=some vs∧p.run P vs=some d
 | [],env,h=>⟨[],rfl,by rw [List.append_nil];exact h,fun i p hp=>by cases hp⟩
 | p::ps,env,h=>by
  have unf:∃ vs d,aAc (V1.val (S.val env)) xs=some vs∧p.run P vs=some d∧(aFz ps xs t).run P C n L (env++[d])=some r:=by
   cases n <;>
   ·unfold aFz T.run T.runB at h
    obtain ⟨ds,hds,h⟩:=Option.bind_eq_some_iff.1 h
    obtain ⟨d,hd,h⟩:=Option.bind_eq_some_iff.1 h
    exact ⟨ds,d,hds,hd,h⟩
  obtain ⟨vs,d,h1,h2,h3⟩:=unf
  obtain ⟨ds,h4,h5,h6⟩:=aFf h3
  refine ⟨d::ds,by rw [List.length_cons,List.length_cons,h4],by rw [List.append_assoc] at h5;exact h5,fun i q hq=>?_⟩
  cases i with
  | zero =>
   obtain rfl:p=q:=by simpa using hq
   exact ⟨d,vs,env,rfl,List.prefix_refl _,h1,h2⟩
  | succ i =>
   obtain ⟨d',vs',e,g1,g2,g3⟩:=h6 i q (by simpa using hq)
   exact ⟨d',vs',e,by simpa using g1,(List.prefix_append _ _).trans g2,g3⟩
theorem aCb {h:Hp} {e:TypeId} {s lv n:Nat} {v:Value} {ds:List D} (ho:OwnAt h w e s lv v (.l n ds)):∃ xs:List Value,All2 (D.at h) ds xs∧xs.length=n*s∧((v=.slice none 0 0∧n=0)∨∃ g cap cur,v=.slice (some ⟨g,0,none⟩) n cap∧(∃ fr,w.heap[g]?=some (.cells cur e fr)∧FrOk lv fr (n*s) (cap*s))∧n≤cap∧cap≤maxLen∧cur.size=cap*s∧cur.toList.take (n*s)=xs):=by
 obtain ⟨n',ds',xs,e1,⟨e2,e3⟩,e4⟩:=ho
 obtain ⟨rfl,rfl⟩:=D.l.inj e1
 refine ⟨xs,e4,e2,e3.imp id ?_⟩
 rintro ⟨g,cap,cur,fr,h1,h2,h0,h3,h4,h5,h6⟩
 exact ⟨g,cap,cur,h1,⟨fr,h2,h0⟩,h3,h4,h5,h6⟩
theorem own_slice {h:Hp} {e:TypeId} {s lv:Nat} {v:Value} {d:D} (ho:OwnAt h w e s lv v d):∃ n ds a cap,d=.l n ds∧v=.slice a n cap:=by
 obtain ⟨n,ds,xs,rfl,h2,h3⟩:=ho
 rcases h2.2 with ⟨rfl,rfl⟩ | ⟨g,cap,cur,fr,rfl,_⟩
 ·exact ⟨0,ds,none,0,rfl,rfl⟩
 ·exact ⟨n,ds,_,cap,rfl,rfl⟩
theorem aCW {t e:TypeId} {s q o n cap:Nat} {k:IntKind} {i:Int} (hu:quiet P (underlying t)=some (.slice e)) (hs:quiet P (sizeOf e)=some s) (h0:0≤i) (h1:i < n) :
  quiet P (Instr.indexAt t (.slice (some ⟨q,o,none⟩) n cap) (.int k i))=some (.pointer (some ⟨q,o+i.toNat*s,none⟩)):=by
 refine aAa (a:=(k,i)) rfl ?_
 refine aAa hu ?_
 refine aAa (a:=((some (⟨q,o,none⟩:Addr),n,e):Option Addr × Nat × TypeId)) rfl ?_
 refine aAa hu ?_
 dsimp only
 rw [if_pos ⟨h0,h1⟩]
 refine aAa hs ?_
 rw [aBe]
 rfl
theorem aIe {a b:V1 D} {d:D} (h:Pu.lchk.run P [a,b]=some d):∃ n x ds k i,a=.one (.l n (x::ds))∧b=.one (.v (.int k i))∧0≤i∧i < n∧d=.v (.int k i):=by
 have h:Pu.lchk.lrun [a,b]=some d:=h
 cases a with
 | agg _=>cases h
 | one a =>
  cases a with
  | v _=>cases h
  | err=>cases h
  | l n ds =>
   cases ds with
   | nil=>cases h
   | cons x ds =>
    cases b with
    | agg _=>cases h
    | one b =>
     cases b with
     | l _ _=>cases h
     | err=>cases h
     | v b =>
      cases b<;>first | (cases h;done) | skip
      rename_i k i _
      have h:(if 0≤i∧i < n then some (D.v (.int k i)) else none)=some d:=h
      split at h
      ·rename_i hr
       exact ⟨n,x,ds,k,i,rfl,rfl,hr.1,hr.2,(Option.some.inj h).symm⟩
      ·cases h
theorem aC4 {k:IntKind} {i:Int} {y:Nat} {code:BoundsCode} (h:0≤i∧i≤y):quiet P (Instr.sliceBound (.int k i) y code)=some i.toNat:=by
 refine aAa (a:=(k,i)) rfl ?_
 dsimp only
 rw [if_pos h]
 rfl
theorem aOq {t e:TypeId} {s n cap l h:Nat} {ad:Option Addr} {lo hi:Option Value} (hu:quiet P (underlying t)=some (.slice e)) (hs:quiet P (sizeOf e)=some s) (hb:quiet P (Instr.sliceBounds true n cap lo hi none)=some (l,h,cap)) :
  quiet P (Instr.sliceAt t (.slice ad n cap) lo hi none)=some (.slice (if cap=l then ad else ad.map (·.add (l*s))) (h - l) (cap - l)):=by
 refine aAa hu ?_
 show quiet P (Instr.slice t (.slice ad n cap) lo hi none)=_
 refine aAa hu ?_
 refine aAa hb ?_
 refine aAa hs ?_
 rfl
theorem D.ats_drop {H:Hp}:∀ {ds:List D} {b o:Nat} (j:Nat),D.ats H b o ds→D.ats H b (o+j) (ds.drop j)
 | _,_,_,0,h=>h
 | [],_,_,_+1,_=>by
  rw [List.drop_nil]
  unfold D.ats
  trivial
 | d::ds,b,o,j+1,h=>by
  unfold D.ats at h
  rw [show o+(j+1)=o+1+j by omega]
  exact D.ats_drop j h.2
theorem D.ats_take {H:Hp}:∀ {ds:List D} {b o:Nat} (j:Nat),D.ats H b o ds→D.ats H b o (ds.take j)
 | _,_,_,0,_=>by
  rw [List.take_zero]
  unfold D.ats
  trivial
 | [],_,_,_+1,h=>h
 | d::ds,b,o,j+1,h=>by
  unfold D.ats at h
  show D.ats H b o (d::ds.take j)
  unfold D.ats
  exact ⟨h.1,D.ats_take j h.2⟩
theorem aPE {H:Hp} {n s l h cap:Nat} {ds:List D} {ad:Option Addr} (hy:D.at H (.l n ds) (.slice ad n cap)) (hl:l≤h) (hh:h≤n):D.at H (.l (h - l) ((ds.drop (l*s)).take ((h - l)*s))) (.slice (if cap=l then ad else ad.map (·.add (l*s))) (h - l) (cap - l)):=by
 unfold D.at at hy ⊢
 obtain ⟨a,c,e,hc,g⟩:=hy
 obtain ⟨rfl,_,rfl⟩:=Value.slice.inj e
 refine ⟨_,cap - l,rfl,by omega,?_⟩
 by_cases hcl:cap=l
 ·exact .inl (by rw [show h - l=0 by omega,Nat.zero_mul,List.take_zero])
 ·rcases g with rfl | ⟨b,o,rfl,g⟩
  ·exact .inl (by rw [List.drop_nil,List.take_nil])
  ·refine .inr ⟨b,o+l*s,?_,D.ats_take _ (D.ats_drop _ g)⟩
   rw [if_neg hcl,Option.map_some,aBe]
theorem aE3 {s n:Nat} {ds:List D} {l h:Int} {d:D} (e:aDB s n ds l h=some d):∃ l' h':Nat,l=l'∧h=h'∧l'≤h'∧h'≤n∧d=.l (h' - l') ((ds.drop (l'*s)).take ((h' - l')*s)):=by
 unfold aDB at e
 split at e
 ·rename_i g
  refine ⟨l.toNat,h.toNat,by omega,by omega,by omega,by omega,?_⟩
  rw [← Option.some.inj e,show (h - l).toNat=h.toNat - l.toNat by omega]
 ·cases e
theorem aDz {x:V1 S} {y:V1 D} {v:Value} {k:IntKind} {i:Int} {c:Cx} (hx:x.at (S.at c) v) (hy:V1.val (S.val c.env) x=some y) (e:y=.one (.v (.int k i))):v=.int k i:=by
 subst e
 have h7:D.at c.H (.v (.int k i)) v:=V1.val_at hx hy
 exact (D.at_v.1 h7).1
theorem aMu {x y:Operand} {bs:List (V1 S)} (h:aDD st [x,y]=some bs):∃ u v,st.get1 x=some u∧st.get1 y=some v∧bs=[u,v]:=by
 obtain ⟨u,hu,h⟩:=Option.bind_eq_some_iff.1 h
 obtain ⟨l,hl,h⟩:=Option.bind_eq_some_iff.1 h
 obtain ⟨v,hv,hl⟩:=Option.bind_eq_some_iff.1 hl
 obtain ⟨l2,hl2,hl⟩:=Option.bind_eq_some_iff.1 hl
 obtain rfl:=Option.some.inj hl2
 obtain rfl:=Option.some.inj hl
 exact ⟨u,v,hu,hv,(Option.some.inj h).symm⟩
theorem aIf {x:Operand} {bs:List (V1 S)} (h:aDD st [x]=some bs):∃ u,st.get1 x=some u∧bs=[u]:=by
 obtain ⟨u,hu,h⟩:=Option.bind_eq_some_iff.1 h
 obtain ⟨l,hl,h⟩:=Option.bind_eq_some_iff.1 h
 obtain rfl:=Option.some.inj hl
 exact ⟨u,hu,(Option.some.inj h).symm⟩
theorem aCI {α β:Type} {f:α→Option β} {x y:α} {vs:List β} (h:aAc f [x,y]=some vs):∃ u v,f x=some u∧f y=some v∧vs=[u,v]:=by
 obtain ⟨u,hu,h⟩:=Option.bind_eq_some_iff.1 h
 obtain ⟨l,hl,h⟩:=Option.bind_eq_some_iff.1 h
 obtain ⟨v,hv,hl⟩:=Option.bind_eq_some_iff.1 hl
 obtain rfl:=Option.some.inj hl
 exact ⟨u,v,hu,hv,(Option.some.inj h).symm⟩
theorem aCr {α β:Type} {f:α→Option β} {x:α} {vs:List β} (h:aAc f [x]=some vs):∃ u,f x=some u∧vs=[u]:=by
 obtain ⟨u,hu,h⟩:=Option.bind_eq_some_iff.1 h
 exact ⟨u,hu,(Option.some.inj h).symm⟩
theorem aAO {env:List D} {i:Nat} {v:V1 D} (h:V1.val (S.val env) (.one (.var i))=some v):∃ d,env[i]?=some d∧v=.one d:=by
 obtain ⟨d,hd,h⟩:=Option.bind_eq_some_iff.1 h
 exact ⟨d,hd,(Option.some.inj h).symm⟩
theorem aPF {s n:Nat} {ds:List D} {u:V1 D} {d:D} (h:(Pu.lcut s false true).run P [.one (.l n ds),u]=some d):∃ k i,u=.one (.v (.int k i))∧aDB s n ds 0 i=some d:=by
 have h:(Pu.lcut s false true).lrun [.one (.l n ds),u]=some d:=h
 cases u with
 | agg _=>cases h
 | one u=>cases u with
  | l _ _=>cases h
  | err=>cases h
  | v u =>
   cases u<;>first | (cases h;done) | exact ⟨_,_,rfl,h⟩
theorem aPG {s n:Nat} {ds:List D} {u:V1 D} {d:D} (h:(Pu.lcut s true false).run P [.one (.l n ds),u]=some d):∃ k i,u=.one (.v (.int k i))∧aDB s n ds i n=some d:=by
 have h:(Pu.lcut s true false).lrun [.one (.l n ds),u]=some d:=h
 cases u with
 | agg _=>cases h
 | one u=>cases u with
  | l _ _=>cases h
  | err=>cases h
  | v u =>
   cases u<;>first | (cases h;done) | exact ⟨_,_,rfl,h⟩
theorem aOS {s n:Nat} {ds:List D} {u v:V1 D} {d:D} (h:(Pu.lcut s true true).run P [.one (.l n ds),u,v]=some d):∃ k i k' j,u=.one (.v (.int k i))∧v=.one (.v (.int k' j))∧aDB s n ds i j=some d:=by
 have h:(Pu.lcut s true true).lrun [.one (.l n ds),u,v]=some d:=h
 cases u with
 | agg _=>cases h
 | one u=>cases u with
  | l _ _=>cases h
  | err=>cases h
  | v u =>
   cases u<;>first | (cases h;done) | skip
   cases v with
   | agg _=>cases h
   | one v=>cases v with
    | l _ _=>cases h
    | err=>cases h
    | v v =>
     cases v<;>first | (cases h;done) | exact ⟨_,_,_,_,rfl,rfl,h⟩
theorem aL5 (m:M B c st a w) {lo hi:Option Operand} {bs:List (V1 S)} (hbs:aDD st (lo.toList++hi.toList)=some bs) {us:List (V1 D)} (hus:aAc (V1.val (S.val c.env)) bs=some us) {s:Nat} {dv d:D} (h4:(Pu.lcut s lo.isSome hi.isSome).run P (.one dv::us)=some d) :
  ∃ n ds l h,dv=.l n ds∧l≤h∧h≤n∧d=.l (h - l) ((ds.drop (l*s)).take ((h - l)*s))∧∀ cap,n≤cap→quiet P (Instr.sliceBounds true n cap (lo.map a.eval) (hi.map a.eval) none)=some (l,h,cap):=by
 cases dv with
 | v _ =>
  exfalso
  revert h4
  cases lo<;>cases hi<;>exact fun h=>by cases h
 | err =>
  exfalso
  revert h4
  cases lo<;>cases hi<;>exact fun h=>by cases h
 | l n ds =>
  refine ⟨n,ds,?_⟩
  cases lo with
  | none =>
   cases hi with
   | none =>
    have h4:(none:Option D)=some d:=h4
    cases h4
   | some hi =>
    obtain ⟨v,hv,rfl⟩:=aIf hbs
    obtain ⟨u,hu,rfl⟩:=aCr hus
    obtain ⟨k,h0,rfl,h4⟩:=aPF h4
    obtain ⟨l,h,e1,rfl,e3,e4,rfl⟩:=aE3 h4
    obtain rfl:l=0:=by omega
    refine ⟨0,h,rfl,Nat.zero_le _,e4,rfl,fun cap hc=>?_⟩
    rw [Option.map_none,Option.map_some,aDz (m.get1 hv) hu rfl]
    refine aAa (a:=cap) rfl ?_
    refine aAa (a:=h) (aC4 ⟨by omega,by omega⟩) ?_
    refine aAa (a:=0) rfl ?_
    rfl
  | some lo =>
   cases hi with
   | none =>
    obtain ⟨v,hv,rfl⟩:=aIf hbs
    obtain ⟨u,hu,rfl⟩:=aCr hus
    obtain ⟨k,l0,rfl,h4⟩:=aPG h4
    obtain ⟨l,h,rfl,e2,e3,e4,rfl⟩:=aE3 h4
    obtain rfl:h=n:=by omega
    refine ⟨l,h,rfl,e3,e4,rfl,fun cap hc=>?_⟩
    rw [Option.map_none,Option.map_some,aDz (m.get1 hv) hu rfl]
    refine aAa (a:=cap) rfl ?_
    refine aAa (a:=h) rfl ?_
    refine aAa (a:=l) (aC4 ⟨by omega,by omega⟩) ?_
    rfl
   | some hi =>
    obtain ⟨v,v',hv,hv',rfl⟩:=aMu hbs
    obtain ⟨u,u',hu,hu',rfl⟩:=aCI hus
    obtain ⟨k1,l0,k2,h0,rfl,rfl,h4⟩:=aOS h4
    obtain ⟨l,h,rfl,rfl,e3,e4,rfl⟩:=aE3 h4
    refine ⟨l,h,rfl,e3,e4,rfl,fun cap hc=>?_⟩
    rw [Option.map_some,Option.map_some,aDz (m.get1 hv) hu rfl,aDz (m.get1 hv') hu' rfl]
    refine aAa (a:=cap) rfl ?_
    refine aAa (a:=h) (aC4 ⟨by omega,by omega⟩) ?_
    refine aAa (a:=l) (aC4 ⟨by omega,by omega⟩) ?_
    rfl
theorem aMv {x y z:V1 D} {d:D} (h:Pu.lwlo.run P [x,y,z]=some d):∃ n x0 ds k l k' h,x=.one (.l n (x0::ds))∧y=.one (.v (.int k l))∧z=.one (.v (.int k' h))∧0≤l∧l≤h∧h≤n∧d=.v (.int .i64 (l)):=by
 have h:Pu.lwlo.lrun [x,y,z]=some d:=h
 cases x with
 | agg _=>cases h
 | one x=>cases x with
  | v _=>cases h
  | err=>cases h
  | l n ds=>cases ds with
   | nil=>cases h
   | cons x0 ds=>cases y with
    | agg _=>cases h
    | one y=>cases y with
     | l _ _=>cases h
     | err=>cases h
     | v y =>
      cases y<;>first | (cases h;done) | skip
      cases z with
      | agg _=>cases h
      | one z=>cases z with
       | l _ _=>cases h
       | err=>cases h
       | v z =>
        cases z<;>first | (cases h;done) | skip
        rename_i k l k' h' _
        have h:(if 0≤l∧l≤h'∧h'≤n then some (D.v (.int .i64 (l))) else none)=some d:=h
        split at h
        ·rename_i g
         exact ⟨n,x0,ds,k,l,k',h',rfl,rfl,rfl,g.1,g.2.1,g.2.2,(Option.some.inj h).symm⟩
        ·cases h
theorem aL6 {x y z:V1 D} {d:D} (h:Pu.lwlen.run P [x,y,z]=some d):∃ n x0 ds k l k' h,x=.one (.l n (x0::ds))∧y=.one (.v (.int k l))∧z=.one (.v (.int k' h))∧0≤l∧l≤h∧h≤n∧d=.v (.int .i64 (h - l)):=by
 have h:Pu.lwlen.lrun [x,y,z]=some d:=h
 cases x with
 | agg _=>cases h
 | one x=>cases x with
  | v _=>cases h
  | err=>cases h
  | l n ds=>cases ds with
   | nil=>cases h
   | cons x0 ds=>cases y with
    | agg _=>cases h
    | one y=>cases y with
     | l _ _=>cases h
     | err=>cases h
     | v y =>
      cases y<;>first | (cases h;done) | skip
      cases z with
      | agg _=>cases h
      | one z=>cases z with
       | l _ _=>cases h
       | err=>cases h
       | v z =>
        cases z<;>first | (cases h;done) | skip
        rename_i k l k' h' _
        have h:(if 0≤l∧l≤h'∧h'≤n then some (D.v (.int .i64 (h' - l))) else none)=some d:=h
        split at h
        ·rename_i g
         exact ⟨n,x0,ds,k,l,k',h',rfl,rfl,rfl,g.1,g.2.1,g.2.2,(Option.some.inj h).symm⟩
        ·cases h
theorem aOT {p:Pu} (hp:p=.lwlo∨p=.lwlen) {x y z:V1 D} {d:D} (h:p.run P [x,y,z]=some d):∃ n x0 ds k l k' h,x=.one (.l n (x0::ds))∧y=.one (.v (.int k l))∧z=.one (.v (.int k' h))∧0≤l∧l≤h∧h≤n∧(p=.lwlo→d=.v (.int .i64 l))∧(p=.lwlen→d=.v (.int .i64 (h - l))):=by
 rcases hp with rfl | rfl
 ·obtain ⟨n,x0,ds,k,l,k',h',e1,e2,e3,e4,e5,e6,e7⟩:=aMv h
  exact ⟨n,x0,ds,k,l,k',h',e1,e2,e3,e4,e5,e6,fun _=>e7,fun e=>by cases e⟩
 ·obtain ⟨n,x0,ds,k,l,k',h',e1,e2,e3,e4,e5,e6,e7⟩:=aL6 h
  exact ⟨n,x0,ds,k,l,k',h',e1,e2,e3,e4,e5,e6,fun e=>(by cases e),fun _=>e7⟩
theorem aMw {x y z:V1 D} {d:D} (h:Pu.lwix.run P [x,y,z]=some d):∃ k l k2 n k3 i,x=.one (.v (.int k l))∧y=.one (.v (.int k2 n))∧z=.one (.v (.int k3 i))∧0≤l∧0≤i∧i < n∧d=.v (.int .i64 (l+i)):=by
 have h:Pu.lwix.lrun [x,y,z]=some d:=h
 cases x with
 | agg _=>cases h
 | one x=>cases x with
  | l _ _=>cases h
  | err=>cases h
  | v x =>
   cases x<;>first | (cases h;done) | skip
   cases y with
   | agg _=>cases h
   | one y=>cases y with
    | l _ _=>cases h
    | err=>cases h
    | v y =>
     cases y<;>first | (cases h;done) | skip
     cases z with
     | agg _=>cases h
     | one z=>cases z with
      | l _ _=>cases h
      | err=>cases h
      | v z =>
       cases z<;>first | (cases h;done) | skip
       rename_i k l k2 n k3 i _
       have h:(if 0≤l∧0≤i∧i < n then some (D.v (.int .i64 (l+i))) else none)=some d:=h
       split at h
       ·rename_i g
        exact ⟨k,l,k2,n,k3,i,rfl,rfl,rfl,g.1,g.2.1,g.2.2,(Option.some.inj h).symm⟩
       ·cases h
theorem rd1 (m:M B c st a w) {p:Pu} {xs:List (V1 S)} {res:Nat→V1 S} {k:V S→St→Option T} {t:T} (h:aAE (.rd [p] xs res) st k=some t) (hr:t.run P C n L c.env=some r) :
  ∃ t' d vs,k (.v1 (res st.nv)) { st with nv:=st.nv+1 }=some t'∧t'.run P C n L (c.env++[d])=some r∧aAc (V1.val (S.val c.env)) xs=some vs∧p.run P vs=some d∧M B ⟨c.env++[d],c.ρ,c.H,c.δ⟩ { st with nv:=st.nv+1 } a w∧(c.env++[d])[st.nv]?=some d:=by
 obtain ⟨t',hk,rfl⟩:=Option.map_eq_some_iff.1 h
 have unf:∃ vs d,aAc (V1.val (S.val c.env)) xs=some vs∧p.run P vs=some d∧t'.run P C n L (c.env++[d])=some r:=by
  cases n <;>
  ·unfold aFz T.run T.runB at hr
   obtain ⟨ds,hds,hr⟩:=Option.bind_eq_some_iff.1 hr
   obtain ⟨d,hd,hr⟩:=Option.bind_eq_some_iff.1 hr
   exact ⟨ds,d,hds,hd,hr⟩
 obtain ⟨vs,d,h1,h2,h3⟩:=unf
 exact ⟨t',d,vs,hk,h3,h1,h2,m.bind [d],by rw [← m.nv,List.getElem?_append_right (Nat.le_refl _),Nat.sub_self];rfl⟩
theorem aL7 (m:M B c st a w) {o:Oper} {x:Oa} {k:V S→St→Option T} {t:T} (hx:valA P st o.op=some x) (h:aAE x st k=some t) (hr:t.run P C n L c.env=some r) :
  ∃ v st' t' c' y,k v st'=some t'∧t'.run P C n L c'.env=some r∧(∀ w,(execOp a.eval o).run P w=.ok (.value y) w)∧v.at (S.at c') y∧M B c' st' a w∧Same c c' st st':=by
 have sm:∀ d,Same c ⟨c.env++[d],c.ρ,c.H,c.δ⟩ st { st with nv:=st.nv+1 }:=fun d=>⟨Ext.bind c [d],rfl,rfl,rfl,rfl,rfl,rfl⟩
 cases hop:o.op
 all_goals rw [hop] at hx
 all_goals (try cases hx;done)
 case indexAddr t x i =>
  obtain ⟨vi,hi,hx⟩:=Option.bind_eq_some_iff.1 hx
  have hiv:=m.get1 hi
  have ex:∀ (y:Value),quiet P (Instr.indexAt t (a.eval x) (a.eval i))=some y→∀ w,(execOp a.eval o).run P w=.ok (.value y) w:=by
   intro y hy w
   unfold execOp
   rw [hop]
   exact aA2 w hy
  split at hx
  ·rename_i kk e hgx hu
   obtain ⟨⟨q,y⟩,hy,hx⟩:=Option.bind_eq_some_iff.1 hx
   obtain ⟨s,hs,rfl⟩:=Option.map_eq_some_iff.1 hx
   obtain ⟨t',d,vs,h1,h2,h3,h4,h5,h6⟩:=rd1 m h hr
   obtain ⟨hq,hl,rfl⟩:=aBX hy
   obtain ⟨u1,u2,g1,g2,rfl⟩:=aCI h3
   obtain ⟨d1,g3,rfl⟩:=aAO g1
   obtain ⟨n',x0,ds,ki,ii,e1,rfl,i0,i1,rfl⟩:=aIe h4
   obtain rfl:=V1.one.inj e1
   obtain ⟨v,dv,g4,g5,g6,g7⟩:=m.dy.on y (List.mem_of_getElem? hq) hl
   obtain rfl:dv=.l n' (x0::ds):=Option.some.inj (g5.symm.trans g3)
   have hgv:=m.get1 hgx
   obtain ⟨g8,_⟩:=hgv
   obtain rfl:v=a.eval x:=Option.some.inj (g4.symm.trans g8)
   obtain ⟨xs,p1,p2,p3⟩:=aCb g7
   rcases p3 with ⟨_,rfl⟩ | ⟨g,cap,cur,p3,_⟩
   ·omega
   ·have ei:a.eval i=.int ki ii:=by
     have h7:D.at c.H (.v (.int ki ii)) (a.eval i):=V1.val_at hiv g2
     exact (D.at_v.1 h7).1
    refine ⟨_,_,t',_,.pointer (some ⟨g,0+ii.toNat*s,none⟩),h1,h2,ex _ ?_,?_,h5,sm _⟩
    ·rw [p3,ei]
     exact aCW hu hs i0 i1
    ·refine ⟨g,n',cap,ii.toNat,ki,?_,?_,by omega,by rw [Nat.zero_add,Nat.add_zero]⟩
     ·exact p3 ▸ g4
     ·show (c.env++[_])[st.nv]?=_
      rw [h6]
      congr 3
      show ii=(ii.toNat:Int)
      omega
  ·rename_i vv e hgx hu
   obtain ⟨s,hs,rfl⟩:=Option.map_eq_some_iff.1 hx
   obtain ⟨t',d,vs,h1,h2,h3,h4,h5,h6⟩:=rd1 m h hr
   obtain ⟨u1,u2,g1,g2,rfl⟩:=aCI h3
   obtain ⟨d1,g3,rfl⟩:=aAO g1
   obtain ⟨n',x0,ds,ki,ii,e1,rfl,i0,i1,rfl⟩:=aIe h4
   obtain rfl:=V1.one.inj e1
   obtain ⟨dv,g4,g5⟩:=m.get1 hgx
   obtain rfl:dv=.l n' (x0::ds):=Option.some.inj (g4.symm.trans g3)
   unfold D.at at g5
   obtain ⟨ad,cp,g6,_,g7⟩:=g5
   rcases g7 with g7 | ⟨b,e0,rfl,g7⟩
   ·cases g7
   ·have ei:a.eval i=.int ki ii:=by
     have h7:D.at c.H (.v (.int ki ii)) (a.eval i):=V1.val_at hiv g2
     exact (D.at_v.1 h7).1
    refine ⟨_,_,t',_,.pointer (some ⟨b,e0+ii.toNat*s,none⟩),h1,h2,ex _ ?_,?_,h5,sm _⟩
    ·rw [g6,ei]
     exact aCW hu hs i0 i1
    ·refine ⟨n',x0::ds,b,e0,ii.toNat,ki,aAd (List.prefix_append _ _) g4,g7,?_,by omega,by rw [Nat.add_zero]⟩
     show (c.env++[_])[st.nv]?=_
     rw [h6]
     congr 3
     show ii=(ii.toNat:Int)
     omega
  ·rename_i kk s iv jv e hgx hu
   obtain ⟨s',hs,hx⟩:=Option.bind_eq_some_iff.1 hx
   split at hx
   ·rename_i hss
    subst hss
    obtain rfl:=Option.some.inj hx
    obtain ⟨t',d,vs,h1,h2,h3,h4,h5,h6⟩:=rd1 m h hr
    obtain ⟨b,n1,m1,q,lo,len,ad,cap,w1,w2,w3,w4,w5,w6⟩:=m.get1 hgx
    obtain ⟨u1,h7,h3⟩:=Option.bind_eq_some_iff.1 h3
    obtain ⟨us,h8,h3⟩:=Option.bind_eq_some_iff.1 h3
    obtain rfl:=Option.some.inj h3
    obtain ⟨u2,u3,g1,g2,rfl⟩:=aCI h8
    obtain ⟨d1,g3,rfl⟩:=aAO h7
    obtain ⟨d2,g4,rfl⟩:=aAO g1
    obtain ⟨k1,l1,k2,n2,k3,i3,e1,e2,e3,e4,e5,e6,rfl⟩:=aMw h4
    obtain ⟨rfl⟩:=V1.one.inj e1
    obtain ⟨rfl⟩:=V1.one.inj e2
    have q1:=Option.some.inj (w2.symm.trans g3)
    have q2:=Option.some.inj (w3.symm.trans g4)
    obtain ⟨_,rfl⟩:=Value.int.inj (D.v.inj q1)
    obtain ⟨_,rfl⟩:=Value.int.inj (D.v.inj q2)
    have e4:(0:Int)≤(lo:Int):=e4
    have e6:i3 < (len:Int):=e6
    rcases w5 with w5 | rfl
    ·omega
    have ei:a.eval i=.int k3 i3:=aDz hiv g2 e3
    refine ⟨_,_,t',_,.pointer (some ⟨b,lo*s'+i3.toNat*s',none⟩),h1,h2,ex _ ?_,?_,h5,sm _⟩
    ·rw [w6,ei]
     exact aCW hu hs e5 e6
    ·refine ⟨b,n1,m1,lo+i3.toNat,.i64,w1,?_,by omega,by rw [Nat.add_mul,Nat.add_zero]⟩
     show (c.env++[_])[st.nv]?=_
     rw [h6]
     congr 3
     show (lo:Int)+i3=((lo+i3.toNat:Nat):Int)
     omega
   ·cases hx
  ·cases hx
 case slice t ox lo hi mx =>
  cases mx with
  | some _=>cases hx
  | none =>
  have hx:(match st.get1 ox,quiet P (underlying t) with
   | some (.one (.var v)),some (.slice e)=>(quiet P (sizeOf e)).bind fun s=>(aDD st (lo.toList++hi.toList)).map fun bs=>Oa.rd [.lcut s lo.isSome hi.isSome] (.one (.var v)::bs) fun n=>.one (.var n)
   | some (.one (.dyn k)),some (.slice e)=>(st.dyn? k).bind fun (_,y)=>(quiet P (sizeOf e)).bind fun s=>aN2 st k s y.cv lo hi
   | _,_=>none)=some x:=hx
  have ex:∀ (y:Value),quiet P (Instr.sliceAt t (a.eval ox) (lo.map a.eval) (hi.map a.eval) none)=some y→∀ w,(execOp a.eval o).run P w=.ok (.value y) w:=by
   intro y hy w
   unfold execOp
   rw [hop]
   exact aA2 w hy
  split at hx
  ·rename_i vv e hgx hu
   obtain ⟨s,hs,hx⟩:=Option.bind_eq_some_iff.1 hx
   obtain ⟨bs,hbs,rfl⟩:=Option.map_eq_some_iff.1 hx
   obtain ⟨t',d,vs,h1,h2,h3,h4,h5,h6⟩:=rd1 m h hr
   obtain ⟨u1,h7,h3⟩:=Option.bind_eq_some_iff.1 h3
   obtain ⟨us,h8,h3⟩:=Option.bind_eq_some_iff.1 h3
   obtain rfl:=Option.some.inj h3
   obtain ⟨d1,g3,rfl⟩:=aAO h7
   obtain ⟨n1,ds,l,hh,rfl,c1,c2,rfl,c3⟩:=aL5 m hbs h8 h4
   obtain ⟨dv,g4,g5⟩:=m.get1 hgx
   obtain rfl:dv=.l n1 ds:=Option.some.inj (g4.symm.trans g3)
   obtain ⟨ad,cp,g6,g7⟩:∃ ad cp,a.eval ox=.slice ad n1 cp∧n1≤cp:=by
    unfold D.at at g5
    obtain ⟨ad,cp,g6,g7,_⟩:=g5
    exact ⟨ad,cp,g6,g7⟩
   rw [g6] at g5
   refine ⟨_,_,t',⟨c.env++[_],c.ρ,c.H,c.δ⟩,_,h1,h2,ex _ ?_,⟨_,h6,aPE g5 c1 c2⟩,h5,sm _⟩
   rw [g6]
   exact aOq hu hs (c3 cp g7)
  ·rename_i kk e hgx hu
   obtain ⟨⟨q,y⟩,hy,hx⟩:=Option.bind_eq_some_iff.1 hx
   obtain ⟨s,hs,hx⟩:=Option.bind_eq_some_iff.1 hx
   unfold aN2 at hx
   split at hx
   ·rename_i oh _ _ _
    obtain ⟨vl,hvl,hx⟩:=Option.bind_eq_some_iff.1 hx
    obtain ⟨lv,hlv,hlb⟩:∃ lv:Value,vl.at (S.at c) lv∧∀ k1 (l1:Int) k2 (h2:Int) (n0 cap:Nat),lv=.int k1 l1→0≤l1→l1≤h2→h2≤cap→quiet P (Instr.sliceBounds true n0 cap (lo.map a.eval) (some (.int k2 h2)) none)=some (l1.toNat,h2.toNat,cap):=by
     cases lo with
     | some ol =>
      refine ⟨a.eval ol,m.get1 hvl,fun k1 l1 k2 h2 n0 cap e h0 h1 h3=>?_⟩
      rw [Option.map_some,e]
      refine aAa (a:=cap) rfl ?_
      refine aAa (a:=h2.toNat) (aC4 ⟨by omega,by omega⟩) ?_
      refine aAa (a:=l1.toNat) (aC4 ⟨by omega,by omega⟩) ?_
      rfl
     | none =>
      obtain rfl:=Option.some.inj hvl
      refine ⟨.int .i64 0,⟨rfl,rfl⟩,fun k1 l1 k2 h2 n0 cap e h0 h1 h3=>?_⟩
      obtain ⟨_,rfl⟩:=Value.int.inj e
      refine aAa (a:=cap) rfl ?_
      refine aAa (a:=h2.toNat) (aC4 ⟨by omega,by omega⟩) ?_
      rfl
    obtain ⟨vh,hvh,rfl⟩:=Option.map_eq_some_iff.1 hx
    obtain ⟨t',hk,rfl⟩:=Option.map_eq_some_iff.1 h
    obtain ⟨rs,r1,r2,r3⟩:=aFf hr
    obtain ⟨hq,hl,rfl⟩:=aBX hy
    obtain ⟨v,dv,g4,g5,g6,g7⟩:=m.dy.on y (List.mem_of_getElem? hq) hl
    obtain ⟨g8,_⟩:=m.get1 hgx
    obtain rfl:v=a.eval ox:=Option.some.inj (g4.symm.trans g8)
    have one:∀ {j:Nat} {p:Pu},(p=.lwlo∨p=.lwlen)→([.lwlo,.lwlen]:List Pu)[j]?=some p→∃ d n0 x0 ds0 k1 l1 k2 h2,rs[j]?=some d∧dv=.l n0 (x0::ds0)∧lv=.int k1 l1∧a.eval oh=.int k2 h2∧0≤l1∧l1≤h2∧h2≤n0∧(p=.lwlo→d=.v (.int .i64 l1))∧(p=.lwlen→d=.v (.int .i64 (h2 - l1))):=by
     intro j p hp hj
     obtain ⟨d,vs,e1,f1,f2,f3,f4⟩:=r3 j p hj
     obtain ⟨u1,h7,f3⟩:=Option.bind_eq_some_iff.1 f3
     obtain ⟨us,h8,f3⟩:=Option.bind_eq_some_iff.1 f3
     obtain rfl:=Option.some.inj f3
     obtain ⟨u2,u3,f5,f6,rfl⟩:=aCI h8
     obtain ⟨d1,f7,rfl⟩:=aAO h7
     obtain ⟨n0,x0,ds0,k1,l1,k2,h2,q1,q2,q3,q4,q5,q6,q7,q8⟩:=aOT hp f4
     obtain rfl:=V1.one.inj q1
     have he:Ext c ⟨e1,c.ρ,c.H,c.δ⟩:=⟨f2,List.prefix_refl _,Hp.le.refl _,List.prefix_refl _⟩
     exact ⟨d,n0,x0,ds0,k1,l1,k2,h2,f1,Option.some.inj ((aAd f2 g5).symm.trans f7),aDz (c:=⟨e1,c.ρ,c.H,c.δ⟩) (V1.at_mono (S.at_mono he) _ _ hlv) f5 q2,aDz (c:=⟨e1,c.ρ,c.H,c.δ⟩) (V1.at_mono (S.at_mono he) _ _ (m.get1 hvh)) f6 q3,q4,q5,q6,q7,q8⟩
    obtain ⟨d0,n0,x0,ds0,k1,l1,k2,h2,b1,rfl,b2,b3,b4,b5,b6,b7,_⟩:=one (j:=0) (.inl rfl) rfl
    obtain ⟨d1,n0',x0',ds0',k1',l1',k2',h2',b1',e0,b2',b3',_,_,_,_,b8⟩:=one (j:=1) (.inr rfl) rfl
    obtain rfl:=b7 rfl
    obtain rfl:=b8 rfl
    obtain ⟨_,rfl⟩:=Value.int.inj (b2.symm.trans b2')
    obtain ⟨_,rfl⟩:=Value.int.inj (b3.symm.trans b3')
    obtain ⟨xs,p1,p2,p3⟩:=aCb g7
    rcases p3 with ⟨_,rfl⟩ | ⟨g,cap,cur,p3,_,p4,_⟩
    ·have:=p1.length
     rw [p2,Nat.zero_mul] at this
     cases this
    ·have hlen:rs.length=2:=r1
     have e0:(c.env++rs)[st.nv]?=some (.v (.int .i64 l1)):=by
      rw [← m.nv,List.getElem?_append_right (Nat.le_refl _),Nat.sub_self]
      exact b1
     have e1:(c.env++rs)[st.nv+1]?=some (.v (.int .i64 (h2 - l1))):=by
      rw [← m.nv,List.getElem?_append_right (Nat.le_add_right _ _),Nat.add_sub_cancel_left]
      exact b1'
     have hb:quiet P (Instr.sliceBounds true n0 cap (lo.map a.eval) (some (a.eval oh)) none)=some (l1.toNat,h2.toNat,cap):=by
      rw [b3]
      exact hlb k1 l1 k2 h2 n0 cap b2 b4 b5 (by omega)
     refine ⟨_,_,t',⟨c.env++rs,c.ρ,c.H,c.δ⟩,_,(by rw [← r1] at hk;exact hk),r2,ex _ (by rw [p3];exact aOq hu hs hb),?_,m.bind rs,Ext.bind c rs,rfl,rfl,rfl,rfl,rfl,rfl⟩
     refine ⟨g,n0,cap,.i64,l1.toNat,h2.toNat - l1.toNat,if cap=l1.toNat then ⟨g,0,none⟩ else ⟨g,l1.toNat*s,none⟩,cap - l1.toNat,p3 ▸ g4,?_,?_,by omega,?_,?_⟩
     ·rw [e0]
      congr 3
      show l1=(l1.toNat:Int)
      omega
     ·rw [e1]
      congr 3
      show h2 - l1=((h2.toNat - l1.toNat:Nat):Int)
      omega
     ·by_cases hcl:cap=l1.toNat
      ·exact .inl (by omega)
      ·exact .inr (if_neg hcl)
     ·congr 1
      by_cases hcl:cap=l1.toNat
      ·rw [if_pos hcl,if_pos hcl]
      ·rw [if_neg hcl,if_neg hcl,Option.map_some,aBe,Nat.zero_add]
   ·cases hx
  ·cases hx
 case call q =>
  obtain ⟨callee,args,ts⟩:=q
  cases callee with
  | builtin b =>
   cases b
   all_goals (try cases hx;done)
   case len =>
    have hx:(match args.toList,ts.toList with
     | [x],[t]=>match st.get1 x,quiet P (underlying t) with
      | some (.one (.dyn k)),some (.slice _)=>(st.dyn? k).map fun (_,y)=>Oa.rd [.llen] [.one (.var y.cv)] fun n=>.one (.var n)
      | some (.one (.win _ _ _ j)),some (.slice _)=>some (.rd [] [] fun _=>.one (.var j))
      | _,_=>none
     | _,_=>none)=some x:=hx
    split at hx
    ·rename_i x0 t0 hx0 ht0
     split at hx
     ·rename_i kk e hgx hu
      obtain ⟨⟨q,y⟩,hy,rfl⟩:=Option.map_eq_some_iff.1 hx
      obtain ⟨t',d,vs,h1,h2,h3,h4,h5,h6⟩:=rd1 m h hr
      obtain ⟨hq,hl,rfl⟩:=aBX hy
      obtain ⟨u1,g1,rfl⟩:=aCr h3
      obtain ⟨d1,g3,rfl⟩:=aAO g1
      obtain ⟨v,dv,g4,g5,g6,g7⟩:=m.dy.on y (List.mem_of_getElem? hq) hl
      obtain rfl:dv=d1:=Option.some.inj (g5.symm.trans g3)
      obtain ⟨n',ds,ad,cap,rfl,rfl⟩:=own_slice g7
      obtain ⟨g8,_⟩:=m.get1 hgx
      have ev:=Option.some.inj (g4.symm.trans g8)
      obtain rfl:D.v (.int .i64 n')=d:=Option.some.inj h4
      have ea:args.map a.eval=#[a.eval x0]:=by
       apply Array.ext'
       rw [Array.toList_map,hx0]
       rfl
      have et:ts=#[t0]:=by
       apply Array.ext'
       rw [ht0]
      refine ⟨_,_,t',_,.int .i64 n',h1,h2,fun w=>aC3 ea et ?_ hop,⟨_,h6,D.at_v.2 ⟨rfl,rfl⟩⟩,h5,sm _⟩
      rw [← ev]
      exact aAa hu rfl
     ·rename_i jv e hgx hu
      obtain rfl:=Option.some.inj hx
      obtain ⟨t',hk,rfl⟩:=Option.map_eq_some_iff.1 h
      obtain ⟨b,n1,m1,q,lo,len,ad,cap,w1,w2,w3,w4,w5,w6⟩:=m.get1 hgx
      have ea:args.map a.eval=#[a.eval x0]:=by
       apply Array.ext'
       rw [Array.toList_map,hx0]
       rfl
      have et:ts=#[t0]:=by
       apply Array.ext'
       rw [ht0]
      refine ⟨_,_,t',c,.int .i64 (len:Int),hk,hr,fun w=>aC3 ea et ?_ hop,⟨_,w3,D.at_v.2 ⟨rfl,rfl⟩⟩,m,Ext.refl c,rfl,rfl,rfl,rfl,rfl,rfl⟩
      rw [w6]
      exact aAa hu rfl
     ·cases hx
    ·cases hx
  | value _=>cases hx
  | invoke _ _=>cases hx
theorem aFg (m:M B c st a w) {o:Oper} {k:V S→St→Option T} {t:T} (h:aOm P o st k=some t) (hr:t.run P C n L c.env=some r) :
  ∃ v st' t' c' y,k v st'=some t'∧t'.run P C n L c'.env=some r∧(∀ w,(execOp a.eval o).run P w=.ok (.value y) w)∧v.at (S.at c') y∧M B c' st' a w∧Same c c' st st':=by
 obtain ⟨st1,t1,h,hr,m,hsame⟩:=aND m h hr
 split at h
 ·rename_i v hv
  obtain ⟨y,hy,hat⟩:=aKj m hv
  exact ⟨v,st1,t1,c,y,h,hr,hy,hat,m,hsame⟩
 ·split at h
  ·rename_i x hx
   obtain ⟨v,st',t',c',y,h1,h2,h3,h4,h5,h6⟩:=aL7 m hx h hr
   exact ⟨v,st',t',c',y,h1,h2,h3,h4,h5,hsame.trans h6⟩
  split at h
  ·rename_i p xs hp
   unfold aMo at h
   split at h
   ·rename_i ds hds
    split at h
    ·rename_i x hx
     obtain ⟨y,hy,hat⟩:=aGL m hp (aNE hds) hx
     have e:=D.at_v.1 hat
     exact ⟨_,st1,t1,c,y,h,hr,hy,⟨e.1,by rw [e.1];exact e.2⟩,m,hsame⟩
    ·cases h
   ·obtain ⟨t2,h2,rfl⟩:=Option.map_eq_some_iff.1 h
    have unf:∃ ds d,aAc (V1.val (S.val c.env)) xs=some ds∧p.run P ds=some d∧t2.run P C n L (c.env++[d])=some r:=by
     cases n <;>
     ·unfold T.run T.runB at hr
      obtain ⟨ds,hds,hr⟩:=Option.bind_eq_some_iff.1 hr
      obtain ⟨d,hd,hr⟩:=Option.bind_eq_some_iff.1 hr
      exact ⟨ds,d,hds,hd,hr⟩
    obtain ⟨ds,d,hds,hd,hr⟩:=unf
    obtain ⟨y,hy,hat⟩:=aGL m hp hds hd
    refine ⟨_,_,t2,⟨c.env++[d],c.ρ,c.H,c.δ⟩,y,h2,hr,hy,⟨d,?_,hat⟩,{ m.bind [d] with },hsame.trans ⟨Ext.bind c [d],rfl,rfl,rfl,rfl,rfl,rfl⟩⟩
    show (c.env++[d])[st1.nv]?=some d
    rw [← m.nv,List.getElem?_append_right (Nat.le_refl _),Nat.sub_self]
    rfl
  ·split at h
   ·rename_i q u v hop
    obtain ⟨vq,hq,h⟩:=Option.bind_eq_some_iff.1 h
    obtain ⟨vu,hu,h⟩:=Option.bind_eq_some_iff.1 h
    obtain ⟨vv,hv,h⟩:=Option.bind_eq_some_iff.1 h
    obtain ⟨b,st2,t2,hb,h,hr,m2,hs2⟩:=aE2 m (m.get hq) h hr
    refine ⟨_,st2,t2,c,(if b then a.eval u else a.eval v),h,hr,fun w=>?_,?_,m2,hsame.trans hs2⟩
    ·unfold execOp
     rw [hop]
     dsimp only
     rw [hb]
     cases b<;>rfl
    ·cases b
     ·exact m.get hv
     ·exact m.get hu
   ·cases h
theorem aFO (m:M B c st a w) {ops:Array Oper} {o:Oper} {k:Bool→St→Option T} {t:T} (h:aF0 ops o st k=some t) (hr:t.run P C n L c.env=some r) :
  ∃ b st' t',Region.wanted o (yielded ops a.tmps)=b∧k b st'=some t'∧t'.run P C n L c.env=some r∧M B c st' a w∧Same c c st st':=by
 unfold aF0 at h
 split at h
 ·rename_i hg
  refine ⟨true,st,t,?_,h,hr,m,Same.refl _ _⟩
  unfold Region.wanted
  rw [hg]
 ·rename_i j want hg
  have wt:Region.wanted o (yielded ops a.tmps)=(yielded ops a.tmps j == some want):=by
   unfold Region.wanted
   rw [hg]
  have ge:∀ {v:V S},((ops[j]?).bind (·.dst)).bind (st.tmps[·]?)=some v→∃ y,((ops[j]?).bind (·.dst)).bind (a.tmps[·]?)=some y∧v.at (S.at c) y:=by
   intro v hv
   obtain ⟨d,hd,hv⟩:=Option.bind_eq_some_iff.1 hv
   obtain ⟨y,hy,hat⟩:=m.tm.get hv
   refine ⟨y,?_,hat⟩
   rw [hd,Option.bind_some,← Array.getElem?_toList]
   exact hy
  split at h
  ·rename_i s hs
   obtain ⟨y,hy,hat⟩:=ge hs
   obtain ⟨b,st2,t2,hb,h,hr,m2,hs2⟩:=aE2 m hat h hr
   refine ⟨b == want,st2,t2,?_,h,hr,m2,hs2⟩
   rw [wt]
   unfold yielded
   rw [hy,hb]
   cases b<;>cases want<;>rfl
  ·rename_i vs hs
   obtain ⟨y,hy,vv,_,hat⟩:=ge hs
   refine ⟨false,st,t,?_,h,hr,m,Same.refl _ _⟩
   rw [wt]
   unfold yielded
   rw [hy,hat]
   rfl
  ·cases h
theorem aDd (m:M B c st a w) {o:Oper} {v:V1 S} (h:aGE P st o.op=some v) :
  ∃ t x b n,o.op=.load t x∧aCH st x=some b∧c.ρ[b]?=some n∧∃ y,(∀ w',w'.heap[n]?=w.heap[n]?→(execOp a.eval o).run P w'=.ok (.value y) w')∧v.at (S.at c) y:=by
 unfold aGE at h
 split at h
 ·rename_i t x hop
  obtain ⟨vx,hx,h⟩:=Option.bind_eq_some_iff.1 h
  obtain ⟨⟨b,o'⟩,hp,h⟩:=Option.bind_eq_some_iff.1 h
  obtain ⟨bl,hb,h⟩:=Option.bind_eq_some_iff.1 h
  obtain ⟨n,hn,e⟩:=aGH hp (m.get1 hx)
  obtain ⟨n',hn',cs,hcs,hat⟩:=m.bl.get hb
  obtain rfl:n'=n:=Option.some.inj (hn'.symm.trans hn)
  have hbo:aCH st x=some b:=by
   unfold aCH
   rw [hx,Option.bind_some,hp]
   rfl
  have hex:∀ (y:Value) (w':World),(loadVar t ⟨n',o',none⟩).run P w'=.ok y w'→(execOp a.eval o).run P w'=.ok (.value y) w':=by
   intro y w' hy
   unfold execOp
   rw [hop]
   dsimp only
   rw [e]
   have h1:(Instr.loadAt t (.pointer (some ⟨n',o',none⟩))).run P w'=.ok y w':=hy
   exact (run_bind_ok h1).trans rfl
  have hl:=hat.length
  unfold partOf at h
  split at h
  ·rename_i k h1 h2
   split at h
   ·rename_i hle
    obtain rfl:=Option.some.inj h
    refine ⟨t,x,b,n',hop,hbo,hn,.agg (#[]++((cs.toList.drop (o'+0)).take k).toArray),fun w' hw=>hex _ _ ?_,⟨(cs.toList.drop o').take k,(hat.drop o').take k,by simp⟩⟩
    have hw2:w'.heap[n']?=some (.cells cs bl.elem (0,0)):=hw.trans hcs
    unfold loadVar
    refine (run_bind_ok (aA1 _ w' h1)).trans ?_
    refine (run_bind_ok (aA1 _ w' h2)).trans ?_
    refine (run_bind_ok (run_loadCells hw2 k 0 #[] ?_)).trans rfl
    rw [hl] at hle
    show o'+0+k≤cs.size
    exact hle
   ·cases h
  ·rename_i h1
   obtain ⟨s,hs,rfl⟩:=Option.map_eq_some_iff.1 h
   obtain ⟨y,hy,hat2⟩:=hat.get hs
   refine ⟨t,x,b,n',hop,hbo,hn,y,fun w' hw=>hex _ _ ?_,hat2⟩
   have hw2:w'.heap[n']?=some (.cells cs bl.elem (0,0)):=hw.trans hcs
   unfold loadVar
   refine (run_bind_ok (aA1 _ w' h1)).trans ?_
   exact run_load ((cell_at hw2).trans (by rw [← Array.getElem?_toList];exact hy))
  ·cases h
 ·cases h
theorem aQx {z:List S} {cs:Array Value} (h:All2 (S.at c) z cs.toList) (hz:z≠[]) (n:Nat) :
  All2 (S.at c) ((List.range n).map fun i=>z.getD (i % z.length) default) ((Array.range n).map (cs[· % cs.size]!)).toList:=by
 have hl:=h.length
 have hl2:z.length=cs.size:=hl
 have hpos:0 < z.length:=List.length_pos_iff.2 hz
 rw [Array.toList_map,Array.toList_range]
 generalize List.range n=l
 induction l with
 | nil=>exact trivial
 | cons i l ih =>
  refine ⟨?_,ih⟩
  have hi:i % z.length < z.length:=Nat.mod_lt _ hpos
  obtain ⟨y,hy,hat⟩:=h.get (List.getElem?_eq_getElem hi)
  have e1:z.getD (i % z.length) default=z[i % z.length]:=by rw [List.getD_eq_getElem?_getD,List.getElem?_eq_getElem hi];rfl
  have e2:cs[i % cs.size]! = y:=by
   rw [← hl2]
   rw [Array.getElem?_toList] at hy
   rw [getElem!_def,hy]
  show S.at c (z.getD (i % z.length) default) (cs[i % cs.size]!)
  rw [e1,e2]
  exact hat
theorem aCJ (m:M B c st a w) {o:Oper} {e:TypeId} {ss:List S} {mk:Nat→S} (h:aCo P st o.op=some (e,ss,mk)) :
  ∃ (cs:Array Value) (mkv:Nat→Value),(∀ w,(execOp a.eval o).run P w=.ok (.value (mkv w.heap.size)) (w.alloc (.cells cs e)))∧All2 (S.at c) ss cs.toList∧∀ (c':Cx) b n,c'.ρ[b]?=some n→(mk b).at c' (mkv n):=by
 unfold aCo at h
 split at h
 ·rename_i t hop
  obtain ⟨z,hz,h⟩:=Option.map_eq_some_iff.1 h
  obtain ⟨rfl,rfl,rfl⟩:t=e∧z=ss∧(fun b=>S.ptr b 0)=mk:=by simpa using h
  obtain ⟨x,hx,hat⟩:=aGj (c:=c) hz
  refine ⟨x.cells,fun n=>.pointer (some ⟨n,0,none⟩),fun w=>?_,hat,fun c' b n hn=>⟨n,hn,rfl⟩⟩
  unfold execOp
  rw [hop]
  have h1:(Instr.alloc t true (.tuple #[])).run P w=.ok (.pointer (some ⟨w.heap.size,0,none⟩)) (w.alloc (.cells x.cells t)):=by
   unfold Instr.alloc
   refine (run_bind_ok (aA1 _ w hx)).trans ?_
   rfl
  exact (run_bind_ok h1).trans rfl
 ·rename_i t x hop
  obtain ⟨v,hv,h⟩:=Option.map_eq_some_iff.1 h
  obtain ⟨rfl,rfl,rfl⟩:t=e∧v.cells=ss∧(fun b=>S.ptr b 0)=mk:=by simpa using h
  refine ⟨(a.eval x).cells,fun n=>.pointer (some ⟨n,0,none⟩),fun w=>?_,V1.at_cells (m.get1 hv),fun c' b n hn=>⟨n,hn,rfl⟩⟩
  unfold execOp
  rw [hop]
  rfl
 ·rename_i t n parts hop
  split at h
  ·rename_i el hu
   obtain ⟨s,hs,h⟩:=Option.bind_eq_some_iff.1 h
   split at h
   ·cases h
   ·rename_i hlim
    obtain ⟨z,hz,h⟩:=Option.bind_eq_some_iff.1 h
    split at h
    ·cases h
    rename_i hz0
    have hz0:z≠[]:=fun e=>hz0 (by rw [e];rfl)
    obtain ⟨ps,hps,h⟩:=Option.bind_eq_some_iff.1 h
    obtain ⟨ss',hss,h⟩:=Option.map_eq_some_iff.1 h
    obtain ⟨rfl,rfl,rfl⟩:el=e∧ss'=ss∧(fun b=>S.slice b 0 n n)=mk:=by simpa using h
    obtain ⟨x,hx,hat⟩:=aGj (c:=c) hz
    have hp:=aGk m hps
    have hl:(parts.map fun (p:Nat × Operand)=>(p.1,a.eval p.2)).toList=parts.toList.map fun (i,x)=>(i,a.eval x):=by simp
    have key:∀ zc:Array Value,All2 (S.at c) ((List.range (n*s)).map fun i=>z.getD (i % z.length) default) ((Array.range (n*s)).map (zc[· % zc.size]!)).toList →
      (n*s=0∧zc=#[]∨n*s≠0∧zc=x.cells) →
      ∃ (cs:Array Value) (mkv:Nat→Value),(∀ w,(execOp a.eval o).run P w=.ok (.value (mkv w.heap.size)) (w.alloc (.cells cs el)))∧All2 (S.at c) ss' cs.toList∧∀ (c':Cx) b k,c'.ρ[b]?=some k→((fun b=>S.slice b 0 n n) b).at c' (mkv k):=by
     intro zc hzc hq
     obtain ⟨cs',hf,hcs⟩:=aH2 hss hp hzc
     refine ⟨cs',fun k=>.slice (some ⟨k,0,none⟩) n n,fun w=>?_,hcs,fun c' b k hk=>⟨k,hk,rfl⟩⟩
     unfold execOp
     rw [hop]
     have h1:(Instr.buildSlice t n (parts.map fun (i,x)=>(i,a.eval x))).run P w=.ok (.slice (some ⟨w.heap.size,0,none⟩) n n) (w.alloc (.cells cs' el)):=by
      unfold Instr.buildSlice
      refine (run_bind_ok (aA1 _ w hu)).trans ?_
      refine (run_bind_ok (aA1 _ w hs)).trans ?_
      rw [if_neg (by have:(2:Nat) ^ 16≤2 ^ 24:=(by decide);omega)]
      have tl:(match Instr.fill (fun i=>some (i*s,s)) ((Array.range (n*s)).map (zc[· % zc.size]!)) (parts.map fun (p:Nat × Operand)=>(p.1,a.eval p.2)).toList with
       | some cells=>(do
        let r ← newRow el cells
        Pure.pure (Value.slice (some r) n n):Sem Value)
       | _ => stuck "buildSlice: a part of the wrong size").run P w = .ok (.slice (some ⟨w.heap.size, 0, none⟩) n n) (w.alloc (.cells cs' el)) := by
       rw [hl,hf]
       rfl
      rcases hq with ⟨h0,rfl⟩ | ⟨h0,rfl⟩
      ·dsimp only
       rw [if_pos h0]
       exact (run_bind_ok (a:=#[]) rfl).trans tl
      ·dsimp only
       rw [if_neg h0]
       exact (run_bind_ok (aA1 _ w hx)).trans ((run_bind_ok (a:=x.cells) rfl).trans tl)
     exact (run_bind_ok h1).trans rfl
    by_cases h0:n*s=0
    ·refine key #[] ?_ (.inl ⟨h0,rfl⟩)
     rw [h0]
     simp [All2]
    ·exact key x.cells (aQx hat hz0 _) (.inr ⟨h0,rfl⟩)
  ·cases h
 ·cases h
end
end Go.Proofs.YtkkjlpfomofiaaaGreatDoor.Sx
namespace Go.Proofs.YtkkjlpfomofiaaaGreatDoor.Sx
open Go Go.RowKit YtkkjlpfomofiaaaGreatDoorW.PrintLast
section
variable {B:Bs} {w w':World} {c c':Cx} {st:St} {a:Act} {P:Program}
theorem aDE {b o:Nat}:∀ (xs:List Value) (i:Nat) (acc:Array Value),(∀ (j:Nat) u,xs[j]?=some u→w.cell? ⟨b,o+i+j,none⟩=some u)→(loadCellsFrom ⟨b,o,none⟩ i xs.length acc).run P w=.ok (acc++xs.toArray) w
 | [],i,acc,_=>by
  show Result.ok acc w=.ok (acc++#[]) w
  rw [Array.append_empty]
 | x::xs,i,acc,h=>by
  have hc:w.cell? ((⟨b,o,none⟩:Addr).add i)=some x:=by
   rw [aBe]
   exact h 0 x rfl
  show ((load ((⟨b,o,none⟩:Addr).add i)).bind fun v=>loadCellsFrom ⟨b,o,none⟩ (i+1) xs.length (acc.push v)).run P w=_
  rw [run_bind_ok (run_load hc),aDE xs (i+1) (acc.push x) (fun j u hj=>by
   rw [show o+(i+1)+j=o+i+(j+1) by omega]
   exact h (j+1) u (by simpa using hj))]
  congr 1
  apply Array.ext'
  simp
theorem aMx {ad:Option Addr} {n cap:Nat} {ns:List Int} (hl:ns.length=n) (h:n=0∨∃ b o,ad=some ⟨b,o,none⟩∧∀ (j:Nat) u,(ns.map (Value.int .u8))[j]?=some u→w.cell? ⟨b,o+j,none⟩=some u) :
  (Conv.bytesToString (.slice ad n cap)).run P w=.ok (.string (strOf ns)) w:=by
 cases ad with
 | none =>
  rcases h with h | ⟨_,_,h,_⟩
  ·obtain rfl:ns=[]:=List.eq_nil_of_length_eq_zero (hl.trans h)
   rfl
  ·cases h
 | some ad =>
  refine run_bytesToString w ad n cap ns ?_
  rcases h with h | ⟨b,o,h,g⟩
  ·obtain rfl:ns=[]:=List.eq_nil_of_length_eq_zero (hl.trans h)
   subst h
   rfl
  ·obtain rfl:=Option.some.inj h
   have:=aDE (P:=P) (ns.map (Value.int .u8)) 0 #[] (by simpa using g)
   rw [List.length_map,hl,Array.empty_append] at this
   exact this
theorem aDF {e:TypeId} {g n s:Nat} {cur:Array Value} {xs:List Value} {Q:Nat × Nat→Prop} (hg:∃ fr,w.heap[g]?=some (.cells cur e fr)∧Q fr) (hx:cur.toList.take (n*s)=xs) {j:Nat} {u:Value} (h:xs[j]?=some u):w.cell? ⟨g,j,none⟩=some u:=by
 obtain ⟨fr,hg,_⟩:=hg
 rw [cell_at hg]
 rw [← hx,List.getElem?_take] at h
 split at h
 ·rw [← Array.getElem?_toList]
  exact h
 ·cases h
theorem aB8 {ds:List Dyn} {q i:Nat} {y z:Dyn} (h:(ds.set q y)[i]?=some z):(i=q∧z=y)∨(i≠q∧ds[i]?=some z):=by
 by_cases hi:q=i
 ·subst hi
  obtain ⟨h1,h2⟩:=List.getElem?_eq_some_iff.1 h
  rw [List.getElem_set_self] at h2
  exact .inl ⟨rfl,h2.symm⟩
 ·rw [List.getElem?_set_ne hi] at h
  exact .inr ⟨Ne.symm hi,h⟩
theorem DM.put (m:M B c st a w) {q:Nat} {y y':Dyn} (hq:st.dyns[q]?=some y) (he:Ext c c') (hρ:c'.ρ=c.ρ) (hH:c'.H=c.H) (hlo:B.d0.length≤q)
  (hb:∀ k,k < w.heap.size→some k≠ownB c y→w'.heap[k]?=w.heap[k]?) (hl:y'.live=true) {v:Value} {d:D} (h1:c'.δ[y'.h]?=some v) (h2:c'.env[y'.cv]?=some d) (h3:0 < y'.s) (h4:OwnAt c'.H w' y'.e y'.s y'.w v d) (h5:v.ownBlock=ownB c y∨v.ownBlock=some w.heap.size):DM B c' (st.dyns.set q y') w':=by
 have ho:ownB c' y'=v.ownBlock:=ownB_of hl h1
 have old:∀ i z g,i≠q→st.dyns[i]?=some z→ownB c' z=some g→ownB c z=some g∧g < w.heap.size∧ownB c y≠some g:=by
  intro i z g hi hz hg
  rw [m.dy.eq he.δ (List.mem_of_getElem? hz)] at hg
  exact ⟨hg,m.own_lt (List.mem_of_getElem? hz) hg,m.dy.apart i q z y g hi hz hq hg⟩
 have new:∀ g,ownB c' y'=some g→ownB c y=some g∨g=w.heap.size:=by
  intro g hg
  rw [ho] at hg
  rcases h5 with h5 | h5
  ·exact .inl (h5 ▸ hg)
  ·exact .inr (Option.some.inj (hg.symm.trans h5))
 exact {
  on:=fun z hz hlz=>by
   obtain ⟨i,hi⟩:=List.getElem?_of_mem hz
   rcases aB8 hi with ⟨_,rfl⟩ | ⟨hne,hi⟩
   ·exact ⟨v,d,h1,h2,h3,h4⟩
   ·obtain ⟨v1,d1,g1,g2,g3,g4⟩:=m.dy.on z (List.mem_of_getElem? hi) hlz
    refine ⟨v1,d1,aAd he.δ g1,aAd he.env g2,g3,?_⟩
    rw [hH]
    refine g4.of fun g hg=>?_
    have hg':ownB c z=some g:=(ownB_of hlz g1).trans hg
    exact hb g (g4.lt hg) fun e=>m.dy.apart i q z y g hne hi hq hg' e.symm
  free:=fun z hz g hg=>by
   rw [hρ,hH]
   obtain ⟨i,hi⟩:=List.getElem?_of_mem hz
   rcases aB8 hi with ⟨_,rfl⟩ | ⟨hne,hi⟩
   ·rcases new g hg with h | rfl
    ·exact m.dy.free y (List.mem_of_getElem? hq) g h
    ·refine ⟨fun hm=>?_,fun o=>?_⟩
     ·obtain ⟨i,hi⟩:=List.getElem?_of_mem hm
      exact Nat.lt_irrefl _ (m.rho_lt hi)
     ·cases hc:c.H w.heap.size o with
      | none=>rfl
      | some x=>exact absurd (aBx (m.hp _ _ _ hc).1) (Nat.lt_irrefl _)
   ·exact m.dy.free z (List.mem_of_getElem? hi) g (old i z g hne hi hg).1
  apart:=fun i j x z g hij hx hz hg hg2=>by
   rcases aB8 hx with ⟨rfl,rfl⟩ | ⟨hne,hx⟩
   ·rcases aB8 hz with ⟨rfl,_⟩ | ⟨hne2,hz⟩
    ·exact hij rfl
    ·obtain ⟨g1,g2,g3⟩:=old j z g hne2 hz hg2
     rcases new g hg with h | rfl
     ·exact g3 h
     ·omega
   ·obtain ⟨g1,g2,g3⟩:=old i x g hne hx hg
    rcases aB8 hz with ⟨rfl,rfl⟩ | ⟨hne2,hz⟩
    ·rcases new g hg2 with h | rfl
     ·exact g3 h
     ·omega
    ·exact m.dy.apart i j x z g hij hx hz g1 (old j z g hne2 hz hg2).1
  base:=fun i z g hi hz hg=>by
   rcases aB8 hz with ⟨rfl,rfl⟩ | ⟨hne,hz⟩
   ·rcases new g hg with h | rfl
    ·exact m.dy.base i y g hi hq h
    ·exact m.be.size
   ·exact m.dy.base i z g hi hz (old i z g hne hz hg).1
  pre:=by
   obtain ⟨t,ht⟩:=m.dy.pre
   rw [← ht,List.set_append_right _ _ hlo]
   exact List.prefix_append _ _ }
theorem DM.add (m:M B c st a w) {y':Dyn} (he:Ext c c') (hρ:c'.ρ=c.ρ) (hH:c'.H=c.H) (hb:∀ k,k < w.heap.size→w'.heap[k]?=w.heap[k]?) (hl:y'.live=true) {v:Value} {d:D} (h1:c'.δ[y'.h]?=some v) (h2:c'.env[y'.cv]?=some d) (h3:0 < y'.s) (h4:OwnAt c'.H w' y'.e y'.s y'.w v d)
  (h5:v.ownBlock=none∨v.ownBlock=some w.heap.size):DM B c' (st.dyns++[y']) w':=by
 have ho:ownB c' y'=v.ownBlock:=ownB_of hl h1
 have at1:∀ {i:Nat} {z:Dyn},(st.dyns++[y'])[i]?=some z→st.dyns[i]?=some z∨(i=st.dyns.length∧z=y'):=by
  intro i z h
  rcases Nat.lt_or_ge i st.dyns.length with q | q
  ·rw [List.getElem?_append_left q] at h
   exact .inl h
  ·rw [List.getElem?_append_right q] at h
   have:i - st.dyns.length=0:=by
    have:=(List.getElem?_eq_some_iff.1 h).1
    simp at this
    omega
   rw [this] at h
   exact .inr ⟨by omega,(by simpa using h.symm)⟩
 have new:∀ g,ownB c' y'=some g→g=w.heap.size:=by
  intro g hg
  rw [ho] at hg
  rcases h5 with h5 | h5
  ·rw [h5] at hg
   cases hg
  ·exact Option.some.inj (hg.symm.trans h5)
 have old:∀ (i:Nat) (z:Dyn) (g:Nat),st.dyns[i]?=some z→ownB c' z=some g→ownB c z=some g∧g < w.heap.size:=by
  intro i z g hz hg
  rw [m.dy.eq he.δ (List.mem_of_getElem? hz)] at hg
  exact ⟨hg,m.own_lt (List.mem_of_getElem? hz) hg⟩
 exact {
  on:=fun z hz hlz=>by
   obtain ⟨i,hi⟩:=List.getElem?_of_mem hz
   rcases at1 hi with hi | ⟨_,rfl⟩
   ·obtain ⟨v1,d1,g1,g2,g3,g4⟩:=m.dy.on z (List.mem_of_getElem? hi) hlz
    refine ⟨v1,d1,aAd he.δ g1,aAd he.env g2,g3,?_⟩
    rw [hH]
    exact g4.of fun g hg=>hb g (g4.lt hg)
   ·exact ⟨v,d,h1,h2,h3,h4⟩
  free:=fun z hz g hg=>by
   rw [hρ,hH]
   obtain ⟨i,hi⟩:=List.getElem?_of_mem hz
   rcases at1 hi with hi | ⟨_,rfl⟩
   ·exact m.dy.free z (List.mem_of_getElem? hi) g (old i z g hi hg).1
   ·obtain rfl:=new g hg
    refine ⟨fun hm=>?_,fun o=>?_⟩
    ·obtain ⟨i,hi⟩:=List.getElem?_of_mem hm
     exact Nat.lt_irrefl _ (m.rho_lt hi)
    ·cases hc:c.H w.heap.size o with
     | none=>rfl
     | some x=>exact absurd (aBx (m.hp _ _ _ hc).1) (Nat.lt_irrefl _)
  apart:=fun i j x z g hij hx hz hg hg2=>by
   rcases at1 hx with hx | ⟨rfl,rfl⟩
   ·obtain ⟨g1,g2⟩:=old i x g hx hg
    rcases at1 hz with hz | ⟨rfl,rfl⟩
    ·exact m.dy.apart i j x z g hij hx hz g1 (old j z g hz hg2).1
    ·have:=new g hg2
     omega
   ·rcases at1 hz with hz | ⟨rfl,_⟩
    ·have:=(old j z g hz hg2).2
     have:=new g hg
     omega
    ·exact hij rfl
  base:=fun i z g hi hz hg=>by
   rcases at1 hz with hz | ⟨rfl,rfl⟩
   ·exact m.dy.base i z g hi hz (old i z g hz hg).1
   ·obtain rfl:=new g hg
    exact m.be.size
  pre:=m.dy.pre.trans (List.prefix_append _ _) }
theorem aBD {α:Type} {l:List α} {x:α} {n:Nat} (h:l.length=n):(l++[x])[n]?=some x:=by
 rw [← h,List.getElem?_append_right (Nat.le_refl _),Nat.sub_self]
 rfl
theorem aH4 {α:Type} {l:List α} {x:α} {i:Nat} {z:α} (h:(l++[x])[i]?=some z):(i < l.length∧l[i]?=some z)∨(i=l.length∧z=x):=by
 rcases Nat.lt_or_ge i l.length with q | q
 ·rw [List.getElem?_append_left q] at h
  exact .inl ⟨q,h⟩
 ·rw [List.getElem?_append_right q] at h
  have:i - l.length=0:=by
   have:=(List.getElem?_eq_some_iff.1 h).1
   simp at this
   omega
  rw [this] at h
  exact .inr ⟨by omega,(by simpa using h.symm)⟩
theorem M.app (m:M B c st a w) {q:Nat} {y:Dyn} (hq:st.dyns[q]?=some y) (hl:y.live=true) (hs:0 < y.s) (hlo:B.d0.length≤q) {v:Value} {d:D} (hg:w.grownBy w' (ownB c y)) (h4:OwnAt c.H w' y.e y.s y.w v d) (h5:v.ownBlock=ownB c y∨v.ownBlock=some w.heap.size) :
  M B ⟨c.env++[d],c.ρ,c.H,c.δ++[v]⟩ { st with nv:=st.nv+1,nd:=st.nd+1,dyns:=st.dyns.set q { y with h:=st.nd,cv:=st.nv } } a w':=by
 have he:Ext c ⟨c.env++[d],c.ρ,c.H,c.δ++[v]⟩:=⟨List.prefix_append _ _,List.prefix_refl _,Hp.le.refl _,List.prefix_append _ _⟩
 have hb:∀ g,v.ownBlock=some g→B.w0.heap.size≤g:=by
  intro g hg
  rcases h5 with h5 | h5
  ·exact m.dy.base q y g hlo hq (h5 ▸ hg)
  ·rw [h5] at hg
   rw [← Option.some.inj hg]
   exact m.be.size
 refine m.own (row:=ownB c y) he rfl rfl ?_ ?_ (fun k hk hne=>hg.block k hk hne) (m.dy.free y (List.mem_of_getElem? hq)) (m.be.grown hg m.be.size (fun k hk=>m.dy.base q y k hlo hq hk)) ?_ ?_ ?_ ?_
 ·show (c.env++[d]).length=_
  rw [List.length_append,m.nv]
  rfl
 ·show (c.δ++[v]).length=_
  rw [List.length_append,m.dl]
  rfl
 ·intro u hu g hg2
  rcases List.mem_append.1 hu with hu | hu
  ·exact Nat.lt_of_lt_of_le (m.dt u hu g hg2) hg.size
  ·rw [List.mem_singleton] at hu
   subst hu
   exact h4.lt hg2
 ·intro u hu g hg2 hm
  rcases List.mem_append.1 hu with hu | hu
  ·exact m.dr u hu g hg2 hm
  ·rw [List.mem_singleton] at hu
   subst hu
   rcases h5 with h5 | h5
   ·exact (m.dy.free y (List.mem_of_getElem? hq) g (h5 ▸ hg2)).1 hm
   ·rw [h5] at hg2
    obtain ⟨i,hi⟩:=List.getElem?_of_mem hm
    have:=m.rho_lt hi
    have:=Option.some.inj hg2
    omega
 ·intro i u g hi hu hg2
  rcases aH4 hu with ⟨_,hu⟩ | ⟨_,rfl⟩
  ·exact m.wd i u g hi hu hg2
  ·exact hb g hg2
 ·exact DM.put m hq he rfl rfl hlo (fun k hk hne=>hg.block k hk hne) hl (aBD m.dl) (aBD m.nv) hs h4 h5
theorem M.sto (m:M B c st a w) {q:Nat} {y:Dyn} (hq:st.dyns[q]?=some y) (hl:y.live=true) (hs:0 < y.s) (hlo:B.d0.length≤q) {v:Value} {d:D} (hv:c.δ[y.h]?=some v) (hb:∀ k,k < w.heap.size→some k≠ownB c y→w'.heap[k]?=w.heap[k]?) (hsz:w.heap.size≤w'.heap.size) (be:Below B.w0.heap.size B.w0 w') (h4:OwnAt c.H w' y.e y.s y.w v d) :
  M B ⟨c.env++[d],c.ρ,c.H,c.δ⟩ { st with nv:=st.nv+1,dyns:=st.dyns.set q { y with cv:=st.nv } } a w':=by
 have he:Ext c ⟨c.env++[d],c.ρ,c.H,c.δ⟩:=Ext.bind c [d]
 refine m.own (row:=ownB c y) he rfl rfl ?_ m.dl hb (m.dy.free y (List.mem_of_getElem? hq)) be ?_ ?_ m.wd ?_
 ·show (c.env++[d]).length=_
  rw [List.length_append,m.nv]
  rfl
 ·exact fun u hu g hg2=>Nat.lt_of_lt_of_le (m.dt u hu g hg2) hsz
 ·exact m.dr
 ·exact DM.put m hq he rfl rfl hlo hb hl hv (aBD m.nv) hs h4 (.inl (ownB_of hl hv).symm)
theorem M.mk' (m:M B c st a w) {s lv:Nat} {e:TypeId} {v:Value} {d:D} (hs:0 < s) (hb:Below w.heap.size w w') (h4:OwnAt c.H w' e s lv v d) (h5:v.ownBlock=none∨v.ownBlock=some w.heap.size) :
  M B ⟨c.env++[d],c.ρ,c.H,c.δ++[v]⟩ { st with nv:=st.nv+1,nd:=st.nd+1,dyns:=st.dyns++[⟨st.nd,st.nv,s,e,true,lv⟩] } a w':=by
 have he:Ext c ⟨c.env++[d],c.ρ,c.H,c.δ++[v]⟩:=⟨List.prefix_append _ _,List.prefix_refl _,Hp.le.refl _,List.prefix_append _ _⟩
 refine m.own (row:=none) he rfl rfl ?_ ?_ (fun k hk _=>hb.block k hk) (fun g h=>by cases h) (m.be.trans (hb.mono m.be.size)) ?_ ?_ ?_ ?_
 ·show (c.env++[d]).length=_
  rw [List.length_append,m.nv]
  rfl
 ·show (c.δ++[v]).length=_
  rw [List.length_append,m.dl]
  rfl
 ·intro u hu g hg2
  rcases List.mem_append.1 hu with hu | hu
  ·exact Nat.lt_of_lt_of_le (m.dt u hu g hg2) hb.size
  ·rw [List.mem_singleton] at hu
   subst hu
   exact h4.lt hg2
 ·intro u hu g hg2 hm
  rcases List.mem_append.1 hu with hu | hu
  ·exact m.dr u hu g hg2 hm
  ·rw [List.mem_singleton] at hu
   subst hu
   rcases h5 with h5 | h5
   ·rw [h5] at hg2
    cases hg2
   ·rw [h5] at hg2
    obtain ⟨i,hi⟩:=List.getElem?_of_mem hm
    have:=m.rho_lt hi
    have:=Option.some.inj hg2
    omega
 ·intro i u g hi hu hg2
  rcases aH4 hu with ⟨_,hu⟩ | ⟨_,rfl⟩
  ·exact m.wd i u g hi hu hg2
  ·rcases h5 with h5 | h5
   ·rw [h5] at hg2
    cases hg2
   ·rw [h5] at hg2
    rw [← Option.some.inj hg2]
    exact m.be.size
 ·exact DM.add m he rfl rfl (fun k hk=>hb.block k hk) rfl (aBD m.dl) (aBD m.nv) hs h4 h5
end
end Go.Proofs.YtkkjlpfomofiaaaGreatDoor.Sx
namespace Go.Proofs.YtkkjlpfomofiaaaGreatDoor.Sx
open Go Go.RowKit YtkkjlpfomofiaaaGreatDoorW.PrintLast
structure LoOk {P:Program} (B:Bs) (pm:Pm P):Prop where
 lo:B.lo=pm.lo
 d0:B.d0.length=pm.dlo
 rom:∀ q ∈ pm.o.rom,∀ (j:Nat) u,q.2[j]?=some u→B.w0.cell? ⟨q.1,j,none⟩=some u
theorem aBf {P:Program} {t:TypeId} {d:TypeDesc} (h:quiet P (underlying t)=some d):P.underlying t=some d:=by
 cases hp:P.underlying t with
 | none =>
  have:quiet P (underlying t)=none:=by
   show quiet P (match P.underlying t with | some d => Pure.pure d | none => stuck "no such type") = none
   rw [hp]
   rfl
  rw [this] at h
  cases h
 | some d' =>
  have:quiet P (underlying t)=some d':=by
   show quiet P (match P.underlying t with | some d => Pure.pure d | none => stuck "no such type") = some d'
   rw [hp]
   rfl
  rw [this] at h
  exact h
theorem aJz {P:Program} {t:TypeId} {i:TypeInfo} {s:Nat} (hi:P.info? t=some i) (h:quiet P (sizeOf t)=some s):i.size=s:=by
 have e:quiet P (typeInfo t)=some i:=by
  show quiet P (match P.info? t with | some i => Pure.pure i | none => stuck "no such type") = some i
  rw [hi]
  rfl
 have:quiet P (sizeOf t)=some i.size:=aAa e rfl
 exact Option.some.inj (this.symm.trans h)
theorem aJ0 {P:Program} {t:TypeId} {i:TypeInfo} {z:Value} (hi:P.info? t=some i) (h:quiet P (zeroValue t)=some z):i.zero=some z:=by
 have e:quiet P (typeInfo t)=some i:=by
  show quiet P (match P.info? t with | some i => Pure.pure i | none => stuck "no such type") = some i
  rw [hi]
  rfl
 cases hz:i.zero with
 | none =>
  have h2 : quiet P (zeroValue t) = quiet P (match i.zero with | some v => Pure.pure v | none => unsupported (.resourceLimit "a value of more than 2^22 cells")) := aEz _ _ e
  rw [hz] at h2
  rw [h] at h2
  cases h2
 | some v =>
  have h2 : quiet P (zeroValue t) = quiet P (match i.zero with | some v => Pure.pure v | none => unsupported (.resourceLimit "a value of more than 2^22 cells")) := aEz _ _ e
  rw [hz,h] at h2
  exact h2.symm
theorem D.ats_get {H:Hp}:∀ {ds:List D} {b o j:Nat} {d:D},D.ats H b o ds→ds[j]?=some d→∃ x,H b (o+j)=some x∧D.at H d x
 | [],_,_,_,_,_,h=>by cases h
 | x::ds,b,o,j,d,h,g=>by
  unfold D.ats at h
  cases j with
  | zero =>
   obtain rfl:x=d:=by simpa using g
   exact h.1
  | succ j =>
   rw [show o+(j+1)=o+1+j by omega]
   exact D.ats_get h.2 (by simpa using g)
theorem aKE {α:Type} {Q:Nat→α→Prop}:∀ {n:Nat},(∀ q,q < n→∃ x,Q q x)→∃ vs:List α,vs.length=n∧∀ (q:Nat) x,vs[q]?=some x→Q q x
 | 0,_=>⟨[],rfl,fun q x h=>by cases h⟩
 | n+1,h=>by
  obtain ⟨vs,h1,h2⟩:=aKE (n:=n) (Q:=Q) fun q hq=>h q (by omega)
  obtain ⟨x,hx⟩:=h n (Nat.lt_succ_self n)
  refine ⟨vs++[x],by rw [List.length_append,h1];rfl,fun q y hy=>?_⟩
  rcases aH4 hy with ⟨_,hy⟩ | ⟨e,rfl⟩
  ·exact h2 q y hy
  ·rw [e,h1]
   exact hx
theorem aGM {α:Type} {k:Nat}:∀ (vs l:List α) (o:Nat),(putAt l o vs).take k=putAt (l.take k) o vs
 | [],_,_=>rfl
 | v::vs,l,o=>by
  show (putAt (l.set o v) (o+1) vs).take k=putAt ((l.take k).set o v) (o+1) vs
  rw [aGM vs,List.take_set]
theorem aJ1 {α β:Type} {f:α→Option β}:∀ {l:List α} {r:List β},aAc f l=some r→r.length=l.length
 | [],r,h=>by rw [← Option.some.inj h];rfl
 | a::l,r,h=>by
  obtain ⟨x,hx,h⟩:=Option.bind_eq_some_iff.1 h
  obtain ⟨y,hy,h⟩:=Option.bind_eq_some_iff.1 h
  rw [← Option.some.inj h,List.length_cons,List.length_cons,aJ1 hy]
theorem aGm {α β:Type} {f:α→Option β}:∀ {l:List α} {r:List β} {i:Nat} {a:α},aAc f l=some r→l[i]?=some a→∃ b,r[i]?=some b∧f a=some b
 | [],_,_,_,_,h=>by cases h
 | x::l,r,i,a,h,g=>by
  obtain ⟨y,hy,h⟩:=Option.bind_eq_some_iff.1 h
  obtain ⟨ys,hys,h⟩:=Option.bind_eq_some_iff.1 h
  obtain rfl:=Option.some.inj h
  cases i with
  | zero =>
   obtain rfl:x=a:=by simpa using g
   exact ⟨y,rfl,hy⟩
  | succ i =>
   obtain ⟨b,hb,hf⟩:=aGm (i:=i) hys (by simpa using g)
   exact ⟨b,by simpa using hb,hf⟩
theorem D1.at_cells {h:Hp}:∀ {x:V1 D} {v:Value},x.at (D.at h) v→All2 (D.at h) x.cells v.cells.toList
 | .one s,v,e=>by
  rw [aGh (D.at_cell e)]
  exact ⟨e,trivial⟩
 | .agg ss,v,⟨vs,e,g⟩=>by
  subst g
  exact e
section
variable {B:Bs} {w:World} {c:Cx} {st:St} {a:Act} {P:Program} {C:Cf} {n:Nat} {L:List T} {r:List D}
theorem aDG {p:Pu} {xs:List (V1 S)} {t:T} {env:List D} (h:(T.pure p xs t).run P C n L env=some r):∃ vs d,aAc (V1.val (S.val env)) xs=some vs∧p.run P vs=some d∧t.run P C n L (env++[d])=some r:=by
 cases n <;>
 ·unfold T.run T.runB at h
  obtain ⟨ds,hds,h⟩:=Option.bind_eq_some_iff.1 h
  obtain ⟨d,hd,h⟩:=Option.bind_eq_some_iff.1 h
  exact ⟨ds,d,hds,hd,h⟩
def OwnR (P:Program) (C:Cf) (n:Nat) (L:List T) (r:List D) (B:Bs) (c:Cx) (st:St) (a:Act) (w:World) (o:Oper) (k:V S→St→Option T):Prop:=
 ∃ v st' t' c' y w' nx,k v st'=some t'∧t'.run P C n L c'.env=some r∧(execOp a.eval o).run P w=.ok nx w'∧(nx=.value y∨nx=.skip∧y=undef)∧v.at (S.at c') y∧M B c' st' a w'∧Ext c c'∧c'.ρ=c.ρ∧c'.H=c.H∧st'.tmps=st.tmps∧st'.blocks=st.blocks
theorem OwnR.mk' {o:Oper} {k:V S→St→Option T} {t:T} {p:Pu} {xs:List (V1 S)} {s:Nat} {e:TypeId} (m:M B c st a w) (h:aAE (.mk p xs s e) st k=some t) (hr:t.run P C n L c.env=some r) (hs:0 < s)
  (hg:∀ vs d,aAc (V1.val (S.val c.env)) xs=some vs→p.run P vs=some d→∃ v w',(execOp a.eval o).run P w=.ok (.value v) w'∧Below w.heap.size w w'∧OwnAt c.H w' e s (lvOf p) v d∧(v.ownBlock=none∨v.ownBlock=some w.heap.size)):OwnR P C n L r B c st a w o k:=by
 obtain ⟨t',hk,rfl⟩:=Option.map_eq_some_iff.1 h
 obtain ⟨vs,d,h1,h2,h3⟩:=aDG hr
 obtain ⟨v,w',g1,g2,g3,g4⟩:=hg vs d h1 h2
 refine ⟨_,_,t',_,v,w',_,hk,h3,g1,.inl rfl,?_,m.mk' hs g2 g3 g4,⟨List.prefix_append _ _,List.prefix_refl _,Hp.le.refl _,List.prefix_append _ _⟩,rfl,rfl,rfl,rfl⟩
 obtain ⟨_,_,ad,cap,_,e⟩:=own_slice g3
 exact ⟨aBD m.dl,ad,_,cap,e⟩
theorem OwnR.rd {o:Oper} {k:V S→St→Option T} {t:T} {p:Pu} {xs:List (V1 S)} (m:M B c st a w) (h:aAE (.rd [p] xs fun n=>.one (.var n)) st k=some t) (hr:t.run P C n L c.env=some r)
  (hg:∀ vs d,aAc (V1.val (S.val c.env)) xs=some vs→p.run P vs=some d→∃ v,(execOp a.eval o).run P w=.ok (.value v) w∧D.at c.H d v):OwnR P C n L r B c st a w o k:=by
 obtain ⟨t',d,vs,h1,h2,h3,h4,h5,h6⟩:=rd1 m h hr
 obtain ⟨v,g1,g2⟩:=hg vs d h3 h4
 exact ⟨_,_,t',⟨c.env++[d],c.ρ,c.H,c.δ⟩,v,w,_,h1,h2,g1,.inl rfl,⟨d,h6,g2⟩,h5,Ext.bind c [d],rfl,rfl,rfl,rfl⟩
theorem aMy (m:M B c st a w) {pm:Pm P} {o:Oper} {x:Oa} {k:V S→St→Option T} {t:T} {t0:TypeId} {n0:Nat} {ps:Array (Nat × Operand)} (ho:o.op=.buildSlice t0 n0 ps) (hx:aBH P pm st o.op=some x) (h:aAE x st k=some t) (hr:t.run P C n L c.env=some r):OwnR P C n L r B c st a w o k:=by
 rw [ho] at hx
 cases n0 with
 | succ _=>cases hx
 | zero =>
  have hx:(match quiet P (underlying t0) with
   | some (.slice e)=>match quiet P (sizeOf e) with
    | some s=>if 0 < s∧ps.size=0 then some (Oa.mk .lnil [] s e) else none
    | _=>none
   | _=>none)=some x:=hx
  split at hx
  ·rename_i e hu
   split at hx
   ·rename_i s hs
    split at hx
    ·rename_i hps
     obtain rfl:=Option.some.inj hx
     refine OwnR.mk' m h hr hps.1 ?_
     intro vs d h1 h2
     obtain rfl:=Option.some.inj h1
     obtain rfl:=Option.some.inj h2
     obtain rfl:ps=#[]:=Array.eq_empty_of_size_eq_zero hps.2
     refine ⟨.slice (some ⟨w.heap.size,0,none⟩) 0 0,w.alloc (.cells #[] e),?_,(Below.refl _ _).alloc (Nat.le_refl _) _,⟨0,[],[],rfl,OwnsR.of_row (World.ownsRow_made (base:=0) w #[] 0 (Nat.zero_le _) (by decide) (by simp)),trivial⟩,.inr rfl⟩
     unfold execOp
     rw [ho]
     have h1:(Instr.buildSlice t0 0 ((#[]:Array (Nat × Operand)).map fun (i,x)=>(i,a.eval x))).run P w=.ok (.slice (some ⟨w.heap.size,0,none⟩) 0 0) (w.alloc (.cells #[] e)):=by
      unfold Instr.buildSlice
      refine (run_bind_ok (aA1 _ w hu)).trans ?_
      refine (run_bind_ok (aA1 _ w hs)).trans ?_
      rw [if_neg (by rw [Nat.zero_mul];decide)]
      dsimp only
      rw [if_pos (Nat.zero_mul s)]
      refine (run_bind_ok (a:=#[]) rfl).trans ?_
      have e0:(Array.range (0*s)).map (fun i=>(#[]:Array Value)[i % (#[]:Array Value).size]!)=#[]:=by
       rw [Nat.zero_mul]
       simp
      rw [e0,Array.map_empty]
      rfl
     exact (run_bind_ok h1).trans rfl
    ·cases hx
   ·cases hx
  ·cases hx
theorem aMz (z:Value) (n:Nat):(madeCells #[z] n).toList=List.replicate n z:=by
 unfold madeCells
 rw [Array.toList_map,Array.toList_range]
 refine List.eq_replicate_iff.2 ⟨by simp,?_⟩
 intro b hb
 obtain ⟨i,_,rfl⟩:=List.mem_map.1 hb
 simp [Nat.mod_one]
theorem aKF {h:Hp} {z:Value} (hz:aA5 z=true):∀ n:Nat,All2 (D.at h) (List.replicate n (.v z)) (List.replicate n z)
 | 0=>trivial
 | n+1=>⟨D.at_v.2 ⟨rfl,hz⟩,aKF hz n⟩
theorem room_le {n b:Nat} (h:aA9 n b=true):n*b≤140737488355328∧n≤140737488355328:=by
 unfold aA9 at h
 rw [Bool.and_eq_true,decide_eq_true_eq,decide_eq_true_eq] at h
 exact h
theorem aL8 {z:Value} {b:Nat} {x y:V1 D} {d:D} (h:(Pu.lmake z b).run P [x,y]=some d):∃ k l q m,x=.one (.v (.int k l))∧y=.one (.v (.int q m))∧0≤l∧l≤m∧aA9 m.toNat b=true∧d=.l l.toNat (List.replicate l.toNat (.v z)):=by
 have h:(Pu.lmake z b).lrun [x,y]=some d:=h
 cases x with
 | agg _=>cases h
 | one x =>
  cases x with
  | l _ _=>cases h
  | err=>cases h
  | v x =>
   cases x<;>first | (cases h;done) | skip
   rename_i k l _
   cases y with
   | agg _=>cases h
   | one y =>
    cases y with
    | l _ _=>cases h
    | err=>cases h
    | v y =>
     cases y<;>first | (cases h;done) | skip
     rename_i q m _
     have h:(if 0≤l∧l≤m∧aA9 m.toNat b=true then some (D.l l.toNat (List.replicate l.toNat (.v z))) else none)=some d:=h
     split at h
     ·rename_i hc
      exact ⟨k,l,q,m,rfl,rfl,hc.1,hc.2.1,hc.2.2,(Option.some.inj h).symm⟩
     ·cases h
theorem aNF (m:M B c st a w) {pm:Pm P} {o:Oper} {x:Oa} {k:V S→St→Option T} {t:T} {t0:TypeId} {l q:Operand} (ho:o.op=.makeSlice t0 l q) (hx:aBH P pm st o.op=some x) (h:aAE x st k=some t) (hr:t.run P C n L c.env=some r):OwnR P C n L r B c st a w o k:=by
 rw [ho] at hx
 have hx:(match quiet P (underlying t0) with
  | some (.slice e)=>match quiet P (sizeOf e),quiet P (zeroValue e),P.info? e with
   | some 1,some z,some i=>if aA5 z then (st.get1 l).bind fun vl=>(st.get1 q).map fun vc=>Oa.mk (.lmake z i.bytes) [vl,vc] 1 e else none
   | _,_,_=>none
  | _=>none)=some x:=hx
 split at hx
 ·rename_i e hu
  split at hx
  ·rename_i z i hs hz hi
   split at hx
   ·rename_i hcz
    obtain ⟨vl,hl,hx⟩:=Option.bind_eq_some_iff.1 hx
    obtain ⟨vc,hc,rfl⟩:=Option.map_eq_some_iff.1 hx
    refine OwnR.mk' m h hr (by decide) ?_
    intro vs d h1 h2
    obtain ⟨u1,u2,g1,g2,rfl⟩:=aCI h1
    obtain ⟨kl,li,kc,ci,rfl,rfl,i0,i1,i2,rfl⟩:=aL8 h2
    have el:a.eval l=.int kl li:=by
     have h7:D.at c.H (.v (.int kl li)) (a.eval l):=V1.val_at (m.get1 hl) g1
     exact (D.at_v.1 h7).1
    have ec:a.eval q=.int kc ci:=by
     have h7:D.at c.H (.v (.int kc ci)) (a.eval q):=V1.val_at (m.get1 hc) g2
     exact (D.at_v.1 h7).1
    obtain ⟨r1,r2⟩:=room_le i2
    have r1':(ci.toNat:Int)*i.bytes≤140737488355328:=by
     have h9:((ci.toNat*i.bytes:Nat):Int)≤((140737488355328:Nat):Int):=Int.ofNat_le.2 r1
     rwa [Int.natCast_mul] at h9
    have ecn:(ci.toNat:Int)=ci:=by omega
    rw [ecn,Int.mul_comm] at r1'
    have hrun:=run_make (P:=P) w t0 e i z (aBf hu) hi (aJ0 hi hz) kl kc li ci i0 i1 (by omega) (by omega)
    have hsz:i.size=1:=aJz hi hs
    rw [hsz,aGh hcz] at hrun
    refine ⟨.slice (some ⟨w.heap.size,0,none⟩) li.toNat ci.toNat,w.alloc (.cells (madeCells #[z] (ci.toNat*1)) e),?_,(Below.refl _ _).alloc (Nat.le_refl _) _,⟨li.toNat,_,List.replicate li.toNat z,rfl,⟨by rw [List.length_replicate,Nat.mul_one],.inr ⟨w.heap.size,ci.toNat,madeCells #[z] (ci.toNat*1),(0,0),rfl,heap_alloc_new _ _,rfl,Int.toNat_le_toNat i1,?_,size_madeCells _ _,?_⟩⟩,aKF hcz _⟩,.inr rfl⟩
    ·unfold execOp
     rw [ho]
     dsimp only
     rw [el,ec]
     exact (run_bind_ok hrun).trans rfl
    ·exact Nat.le_trans r2 (by decide)
    ·rw [aMz,List.take_replicate,Nat.mul_one,Nat.mul_one,Nat.min_eq_left (Int.toNat_le_toNat i1)]
   ·cases hx
  ·cases hx
 ·cases hx
theorem aDH {h:Hp}:∀ {ds:List D} {ns:List Int} {xs:List Value},aAc aBE ds=some ns→All2 (D.at h) ds xs→xs=ns.map (Value.int .u8)
 | [],ns,[],e,_=>by
  obtain rfl:=Option.some.inj e
  rfl
 | d::ds,ns,x::xs,e,g=>by
  obtain ⟨b,hb,e⟩:=Option.bind_eq_some_iff.1 e
  obtain ⟨bs,hbs,e⟩:=Option.bind_eq_some_iff.1 e
  obtain rfl:=Option.some.inj e
  rw [List.map_cons,aDH hbs g.2]
  congr 1
  unfold aBE at hb
  split at hb
  ·obtain rfl:=Option.some.inj hb
   exact (D.at_v.1 g.1).1
  ·cases hb
 | [],_,_::_,_,g=>g.elim
 | _::_,_,[],_,g=>g.elim
theorem aIg {x:V1 D} {d:D} (h:Pu.lstr.run P [x]=some d):∃ n ds ns,x=.one (.l n ds)∧ds.length=n∧aAc aBE ds=some ns∧d=.v (.string (strOf ns)):=by
 have h:Pu.lstr.lrun [x]=some d:=h
 cases x with
 | agg _=>cases h
 | one x =>
  cases x with
  | v _=>cases h
  | err=>cases h
  | l n ds =>
   have h:(if ds.length=n then (aAc aBE ds).map fun ns=>D.v (.string (strOf ns)) else none)=some d:=h
   split at h
   ·obtain ⟨ns,h1,rfl⟩:=Option.map_eq_some_iff.1 h
    exact ⟨n,ds,ns,rfl,‹_›,h1,rfl⟩
   ·cases h
theorem aL9 {x:V1 D} {d:D} (h:Pu.lbstr.run P [x]=some d):∃ ds ns,x=.agg ds∧aAc aBE ds=some ns∧d=.v (.string (strOf ns)):=by
 have h:Pu.lbstr.lrun [x]=some d:=h
 cases x with
 | one _=>cases h
 | agg ds =>
  obtain ⟨ns,h1,rfl⟩:=Option.map_eq_some_iff.1 h
  exact ⟨ds,ns,rfl,h1,rfl⟩
theorem aKk {b:Nat} {x:V1 D} {d:D} (h:(Pu.lbytes b).run P [x]=some d):∃ s,x=.one (.v (.string s))∧aA9 s.size b=true∧d=.l s.size (bytesD s):=by
 have h:(Pu.lbytes b).lrun [x]=some d:=h
 cases x with
 | agg _=>cases h
 | one x =>
  cases x with
  | l _ _=>cases h
  | err=>cases h
  | v x =>
   cases x<;>first | (cases h;done) | skip
   rename_i s _
   have h:(if aA9 s.size b then some (D.l s.size (bytesD s)) else none)=some d:=h
   split at h
   ·exact ⟨s,rfl,‹_›,(Option.some.inj h).symm⟩
   ·cases h
theorem aIh {h:Hp}:∀ l:List UInt8,All2 (D.at h) (l.map fun b=>.v (.int .u8 b.toNat)) (l.map fun b=>.int .u8 b.toNat)
 | []=>trivial
 | _::l=>⟨D.at_v.2 ⟨rfl,rfl⟩,aIh l⟩
theorem aIi {h:Hp} (s:ByteArray):All2 (D.at h) (bytesD s) (s.data.toList.map fun b=>.int .u8 b.toNat):=aIh _
theorem aDI (w:World) (e:TypeId) (s:ByteArray):(Lib.bytesCells w e s).size=grownCap w s.size 0 e:=by
 have hge:=grownCap_ge w s.size 0 e
 have hs:s.data.size=s.size:=rfl
 simp [Lib.bytesCells,hs]
 omega
theorem aGN (w:World) (e:TypeId) (s:ByteArray):(Lib.bytesCells w e s).toList.take s.size=s.data.toList.map fun b=>.int .u8 b.toNat:=by
 have hs:(s.data.toList.map fun b=>(Value.int .u8 b.toNat)).length=s.size:=by
  rw [List.length_map]
  exact Array.length_toList
 simp only [Lib.bytesCells,Array.toList_append,Array.toList_map]
 rw [← hs]
 exact List.take_left
theorem aFh (m:M B c st a w) {b o q:Nat} {cs:List S} (h:cellsOf st b o q=some cs) {nb:Nat} (hb:c.ρ[b]?=some nb) :
  ∃ vs:List Value,All2 (S.at c) cs vs∧vs.length=q∧∀ (j:Nat) u,vs[j]?=some u→w.cell? ⟨nb,o+j,none⟩=some u:=by
 obtain ⟨bl,hbl,h⟩:=Option.bind_eq_some_iff.1 h
 split at h
 ·rename_i hle
  obtain rfl:=Option.some.inj h
  obtain ⟨n',hn',cur,hc,hat⟩:=m.bl.get hbl
  obtain rfl:n'=nb:=Option.some.inj (hn'.symm.trans hb)
  have hl:=hat.length
  refine ⟨(cur.toList.drop o).take q,(hat.drop o).take q,by rw [List.length_take,List.length_drop];omega,fun j u hj=>?_⟩
  rw [List.getElem?_take] at hj
  split at hj
  ·rw [List.getElem?_drop] at hj
   rw [cell_at hc,← Array.getElem?_toList]
   exact hj
  ·cases hj
 ·cases h
theorem aF8 {env:List D} {ss:List S} {v:V1 D} (h:V1.val (S.val env) (.agg ss)=some v):∃ ds,aAc (S.val env) ss=some ds∧v=.agg ds:=by
 obtain ⟨d,hd,h⟩:=Option.bind_eq_some_iff.1 h
 exact ⟨d,hd,(Option.some.inj h).symm⟩
theorem aNG (m:M B c st a w) {pm:Pm P} {o:Oper} {x:Oa} {k:V S→St→Option T} {t:T} {src dst:TypeId} {q:Operand} (ho:o.op=.convert src dst q) (hx:aBH P pm st o.op=some x) (h:aAE x st k=some t) (hr:t.run P C n L c.env=some r):OwnR P C n L r B c st a w o k:=by
 rw [ho] at hx
 have hx:(match quiet P (underlying src),quiet P (underlying dst) with
  | some (.slice e),some .string=>match quiet P (underlying e),st.get1 q with
   | some (.int .u8),some (.one (.dyn k))=>(st.dyn? k).bind fun (_,y)=>if y.s=1 then some (Oa.rd [.lstr] [.one (.var y.cv)] fun n=>.one (.var n)) else none
   | some (.int .u8),some (.one (.var v))=>some (.rd [.lstr] [.one (.var v)] fun n=>.one (.var n))
   | some (.int .u8),some (.one (.slice b o n _))=>(cellsOf st b o n).map fun cs=>.rd [.lbstr] [.agg cs] fun n=>.one (.var n)
   | _,_=>none
  | some .string,some (.slice e)=>match quiet P (underlying e),P.info? e,st.get1 q with
   | some (.int .u8),some i,some v=>some (.mk (.lbytes i.bytes) [v] 1 e)
   | _,_,_=>none
  | _,_=>none)=some x:=hx
 split at hx
 ·rename_i e hsrc hdst
  have fin:∀ {ad:Option Addr} {l cap:Nat} {ns:List Int},quiet P (underlying e)=some (.int .u8)→a.eval q=.slice ad l cap→ns.length=l→(l=0∨∃ b o,ad=some ⟨b,o,none⟩∧∀ (j:Nat) u,(ns.map (Value.int .u8))[j]?=some u→w.cell? ⟨b,o+j,none⟩=some u) →
    (execOp a.eval o).run P w=.ok (.value (.string (strOf ns))) w:=by
   intro ad l cap ns he hq hl hc
   have h1:(convert src dst (a.eval q)).run P w=.ok (.string (strOf ns)) w:=by
    rw [hq,run_convert_bytes_string w src dst e ad l cap (aBf hsrc) (aBf he) (aBf hdst)]
    exact aMx hl hc
   unfold execOp
   rw [ho]
   exact (run_bind_ok h1).trans rfl
  split at hx
  ·rename_i kk he hg
   obtain ⟨⟨qq,y⟩,hy,hx⟩:=Option.bind_eq_some_iff.1 hx
   dsimp only at hx
   split at hx
   ·rename_i hs1
    obtain rfl:=Option.some.inj hx
    refine OwnR.rd m h hr ?_
    intro vs d h1 h2
    obtain ⟨hqq,hl,rfl⟩:=aBX hy
    obtain ⟨u1,g1,rfl⟩:=aCr h1
    obtain ⟨d1,g2,rfl⟩:=aAO g1
    obtain ⟨n',ds,ns,e1,e2,e3,rfl⟩:=aIg h2
    obtain rfl:=V1.one.inj e1
    obtain ⟨v,dv,g4,g5,g6,g7⟩:=m.dy.on y (List.mem_of_getElem? hqq) hl
    obtain rfl:dv=.l n' ds:=Option.some.inj (g5.symm.trans g2)
    obtain ⟨g8,_⟩:=m.get1 hg
    obtain rfl:v=a.eval q:=Option.some.inj (g4.symm.trans g8)
    obtain ⟨xs,p1,p2,p3⟩:=aCb g7
    have hxs:=aDH e3 p1
    have hln:ns.length=n':=by
     have h1:xs.length=ns.length:=by rw [hxs,List.length_map]
     have h2:=p1.length
     omega
    refine ⟨_,?_,D.at_v.2 ⟨rfl,rfl⟩⟩
    rcases p3 with ⟨p3,p4⟩ | ⟨g,cap,cur,p3,p4,_,_,_,p5⟩
    ·exact fin he p3 (by omega) (.inl rfl)
    ·refine fin he p3 hln (.inr ⟨g,0,rfl,fun j u hj=>?_⟩)
     rw [Nat.zero_add]
     rw [← hxs] at hj
     exact aDF p4 p5 hj
   ·cases hx
  ·rename_i vv he hg
   obtain rfl:=Option.some.inj hx
   refine OwnR.rd m h hr ?_
   intro vs d h1 h2
   obtain ⟨u1,g1,rfl⟩:=aCr h1
   obtain ⟨d1,g2,rfl⟩:=aAO g1
   obtain ⟨n',ds,ns,e1,e2,e3,rfl⟩:=aIg h2
   obtain rfl:=V1.one.inj e1
   obtain ⟨dv,g4,g5⟩:=m.get1 hg
   obtain rfl:dv=.l n' ds:=Option.some.inj (g4.symm.trans g2)
   unfold D.at at g5
   obtain ⟨ad,cp,g6,_,g7⟩:=g5
   have hln:ns.length=n':=(aJ1 e3).trans e2
   refine ⟨_,?_,D.at_v.2 ⟨rfl,rfl⟩⟩
   rcases g7 with rfl | ⟨b,o0,rfl,g7⟩
   ·exact fin he g6 hln (.inl e2.symm)
   ·refine fin he g6 hln (.inr ⟨b,o0,rfl,fun j u hj=>?_⟩)
    rw [List.getElem?_map] at hj
    obtain ⟨i,hi,rfl⟩:=Option.map_eq_some_iff.1 hj
    have hjl:j < ds.length:=by
     have:=(List.getElem?_eq_some_iff.1 hi).1
     omega
    obtain ⟨xx,hx1,hx2⟩:=D.ats_get g7 (List.getElem?_eq_getElem hjl)
    obtain ⟨bb,hb1,hb2⟩:=aGm e3 (List.getElem?_eq_getElem hjl)
    obtain rfl:bb=i:=Option.some.inj (hb1.symm.trans hi)
    have hxv:xx=.int .u8 bb:=by
     unfold aBE at hb2
     split at hb2
     ·rename_i hd
      obtain rfl:=Option.some.inj hb2
      rw [hd] at hx2
      exact (D.at_v.1 hx2).1
     ·cases hb2
    rw [← hxv]
    exact (m.hp _ _ _ hx1).1
  ·rename_i b o' l cap he hg
   obtain ⟨cs,hcs,rfl⟩:=Option.map_eq_some_iff.1 hx
   refine OwnR.rd m h hr ?_
   intro vs d h1 h2
   obtain ⟨u1,g1,rfl⟩:=aCr h1
   obtain ⟨ds,g2,rfl⟩:=aF8 g1
   obtain ⟨ds',ns,e1,e3,rfl⟩:=aL9 h2
   obtain rfl:=V1.agg.inj e1
   obtain ⟨nb,hnb,ev⟩:=m.get1 hg
   obtain ⟨xs,p1,p2,p3⟩:=aFh m hcs hnb
   have p4:=aCe (R:=S.at c) (fun _ _ _=>S.val_at) p1 g2
   have hxs:=aDH e3 p4
   refine ⟨_,fin he ev (by rw [← p2,hxs,List.length_map]) (.inr ⟨nb,o',rfl,fun j u hj=>?_⟩),D.at_v.2 ⟨rfl,rfl⟩⟩
   rw [← hxs] at hj
   exact p3 j u hj
  ·cases hx
 ·rename_i e hsrc hdst
  split at hx
  ·rename_i i vv he hi hg
   obtain rfl:=Option.some.inj hx
   refine OwnR.mk' m h hr (by decide) ?_
   intro vs d h1 h2
   obtain ⟨u1,g1,rfl⟩:=aCr h1
   obtain ⟨s,rfl,e2,rfl⟩:=aKk h2
   have ev:a.eval q=.string s:=by
    have h7:D.at c.H (.v (.string s)) (a.eval q):=V1.val_at (m.get1 hg) g1
    exact (D.at_v.1 h7).1
   obtain ⟨_,r2⟩:=room_le e2
   have hge:=grownCap_ge w s.size 0 e
   refine ⟨.slice (some ⟨w.heap.size,0,none⟩) s.size (grownCap w s.size 0 e),Lib.bytesWorld w e s,?_,⟨rfl,rfl,rfl,by rw [Lib.bytesWorld_size];omega,fun k hk=>Lib.bytesWorld_at_old w e s k hk⟩,⟨s.size,_,s.data.toList.map fun b=>.int .u8 b.toNat,rfl,⟨?_,.inr ⟨w.heap.size,_,Lib.bytesCells w e s,_,rfl,Lib.bytesWorld_at_new w e s,?_,hge,grownCap_le_maxLen w s.size 0 e (Nat.le_trans r2 (by decide)),?_,?_⟩⟩,aIi s⟩,.inr rfl⟩
   ·unfold execOp
    rw [ho]
    dsimp only
    rw [ev]
    exact (run_bind_ok (Lib.run_convert_string_bytes w src dst e s (aBf hsrc) (aBf hdst) (aBf he))).trans rfl
   ·rw [List.length_map,Nat.mul_one]
    exact Array.length_toList
   ·have hz:(Lib.bytesCells w e s).size=grownCap w s.size 0 e:=aDI w e s
    show _∨_
    rw [hz]
    exact .inr (Nat.le_of_eq (Nat.mul_one _))
   ·rw [aDI w e s,Nat.mul_one]
   ·rw [Nat.mul_one]
    exact aGN w e s
  ·cases hx
 ·cases hx
end
end Go.Proofs.YtkkjlpfomofiaaaGreatDoor.Sx
