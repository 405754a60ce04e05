import Derived.Test.YtjefbecmeobegaaGreatDoorSpQ
import Derived.Test.YtjefbecmeobegaaGreatDoorZZ
namespace Go.Proofs.YtjefbecmeobegaaGreatDoor.Sp
open Go Go.RowKit Sx NatA NatB NatC NatD NatI NatJ IntZ RatZ PtZ
def ZI (s:Nat) (z:Int) (ds:List D):Prop:=∃ n a,ds=[b_ n,s_ a]/\a.size<=s/\z=Z n a
def RI (s:Nat) (q:Rat) (ds:List D):Prop:=∃ n a b,ds=[b_ n,s_ a,s_ b]/\a.size<=s/\b.size<=s/\q=qv n a b
def And2 {α β:Type} (P:α->List D->Prop) (Q:β->List D->Prop) (v:α × β) (ds:List D):Prop:=∃ a b,P v.1 a/\Q v.2 b/\ds=a++b
abbrev VI (s:Nat):V3->List D->Prop:=And2 (RI s) (And2 (RI s) (RI s))
abbrev PI (s:Nat):Z4->List D->Prop:=And2 (ZI s) (And2 (ZI s) (And2 (ZI s) (ZI s)))
theorem ZI.raw {s:Nat} (n:Bool) {a:ByteArray} (h:a.size<=s):ZI s (Z n a) [b_ n,s_ a]:=⟨n,a,rfl,h,rfl⟩
theorem ZI.can {s:Nat} {z:Int} (h:Sz s z):ZI s z (enc z):=⟨_,_,rfl,h,(Z_I z).symm⟩
theorem ZI.sz {s:Nat} {z:Int} {ds:List D} (h:ZI s z ds):Sz s z:=by
 obtain ⟨n,a,_,h1,rfl⟩:=h
 exact .of h1
theorem RI.raw {s:Nat} (n:Bool) {a b:ByteArray} (ha:a.size<=s) (hb:b.size<=s):RI s (qv n a b) [b_ n,s_ a,s_ b]:=⟨n,a,b,rfl,ha,hb,rfl⟩
theorem RI.can {s:Nat} {q:Rat} (h:Sq s q):RI s q (encR q):=⟨_,_,_,rfl,h.1,h.dnc,(aHG q).symm⟩
theorem RI.sq {s:Nat} (hs:1<=s) {q:Rat} {ds:List D} (h:RI s q ds):Sq s q:=by
 obtain ⟨n,a,b,_,h1,h2,rfl⟩:=h
 exact .qv hs h1 h2
theorem And2.mk' {α β:Type} {P:α->List D->Prop} {Q:β->List D->Prop} {x:α} {y:β} {a b:List D} (h1:P x a) (h2:Q y b):And2 P Q (x,y) (a++b):=⟨a,b,h1,h2,rfl⟩
theorem ZI.le {s t:Nat} {z:Int} {ds:List D} (h:ZI s z ds) (hs:s<=t):ZI t z ds:=by
 obtain ⟨n,a,e,h1,h2⟩:=h
 exact ⟨n,a,e,by omega,h2⟩
theorem RI.le {s t:Nat} {q:Rat} {ds:List D} (h:RI s q ds) (hs:s<=t):RI t q ds:=by
 obtain ⟨n,a,b,e,h1,h2,h3⟩:=h
 exact ⟨n,a,b,e,by omega,by omega,h3⟩
theorem And2.mono {α β:Type} {P P':α->List D->Prop} {Q Q':β->List D->Prop} (hp:∀ v ds,P v ds->P' v ds) (hq:∀ v ds,Q v ds->Q' v ds) {v:α × β} {ds:List D} (h:And2 P Q v ds):And2 P' Q' v ds:=by
 obtain ⟨a,b,h1,h2,e⟩:=h
 exact ⟨a,b,hp _ _ h1,hq _ _ h2,e⟩
theorem VI.le {s t:Nat} {v:V3} {ds:List D} (h:VI s v ds) (hs:s<=t):VI t v ds:=And2.mono (λ _ _ h=>h.le hs) (λ _ _ h=>And2.mono (λ _ _ h=>h.le hs) (λ _ _ h=>h.le hs) h) h
theorem PI.le {s t:Nat} {p:Z4} {ds:List D} (h:PI s p ds) (hs:s<=t):PI t p ds:=And2.mono (λ _ _ h=>h.le hs) (λ _ _ h=>And2.mono (λ _ _ h=>h.le hs) (λ _ _ h=>And2.mono (λ _ _ h=>h.le hs) (λ _ _ h=>h.le hs) h) h) h
theorem VI.mk {s:Nat} {x y z:Rat} {a b c:List D} (h1:RI s x a) (h2:RI s y b) (h3:RI s z c):VI s (x,y,z) (a++(b++c)):=And2.mk' h1 (And2.mk' h2 h3)
theorem PI.mk {s:Nat} {x y z w:Int} {a b c d:List D} (h1:ZI s x a) (h2:ZI s y b) (h3:ZI s z c) (h4:ZI s w d):PI s (x,y,z,w) (a++(b++(c++d))):=And2.mk' h1 (And2.mk' h2 (And2.mk' h3 h4))
abbrev aC1 (v:V3):List D:=encR v.1++(encR v.2.1++encR v.2.2)
abbrev enc4 (p:Z4):List D:=enc p.1++(enc p.2.1++(enc p.2.2.1++enc p.2.2.2))
theorem VI.can {s:Nat} {v:V3} (h:Sv s v):VI s v (aC1 v):=VI.mk (.can h.1) (.can h.2.1) (.can h.2.2)
theorem PI.can {s:Nat} {p:Z4} (h:S4 s p):PI s p (enc4 p):=PI.mk (.can h.1) (.can h.2.1) (.can h.2.2.1) (.can h.2.2.2)
theorem VI.sv {s:Nat} (hs:1<=s) {v:V3} {ds:List D} (h:VI s v ds):Sv s v:=by
 obtain ⟨_,_,h1,⟨_,_,h2,h3,_⟩,_⟩:=h
 exact ⟨h1.sq hs,h2.sq hs,h3.sq hs⟩
theorem PI.s4 {s:Nat} {p:Z4} {ds:List D} (h:PI s p ds):S4 s p:=by
 obtain ⟨_,_,h1,⟨_,_,h2,⟨_,_,h3,h4,_⟩,_⟩,_⟩:=h
 exact ⟨h1.sz,h2.sz,h3.sz,h4.sz⟩
theorem PI.inv {s:Nat} {p:Z4} {ds:List D} (h:PI s p ds):∃ n a m b l c k d,ds=[b_ n,s_ a,b_ m,s_ b,b_ l,s_ c,b_ k,s_ d]/\a.size<=s/\b.size<=s/\c.size<=s/\d.size<=s/\p=(Z n a,Z m b,Z l c,Z k d):=by
 obtain ⟨x,y,z,w⟩:=p
 obtain ⟨_,_,⟨n,a,rfl,h1,e1⟩,⟨_,_,⟨m,b,rfl,h2,e2⟩,⟨_,_,⟨l,c,rfl,h3,e3⟩,⟨k,d,rfl,h4,e4⟩,rfl⟩,rfl⟩,rfl⟩:=h
 exact ⟨n,a,m,b,l,c,k,d,rfl,h1,h2,h3,h4,by dsimp only at *;rw [e1,e2,e3,e4]⟩
theorem VI.inv {s:Nat} {v:V3} {ds:List D} (h:VI s v ds):∃ n a b m c d l e f,ds=[b_ n,s_ a,s_ b,b_ m,s_ c,s_ d,b_ l,s_ e,s_ f]/\a.size<=s/\b.size<=s/\c.size<=s/\d.size<=s/\e.size<=s/\f.size<=s/\v=(qv n a b,qv m c d,qv l e f):=by
 obtain ⟨x,y,z⟩:=v
 obtain ⟨_,_,⟨n,a,b,rfl,h1,h2,e1⟩,⟨_,_,⟨m,c,d,rfl,h3,h4,e2⟩,⟨l,e,f,rfl,h5,h6,e3⟩,rfl⟩,rfl⟩:=h
 exact ⟨n,a,b,m,c,d,l,e,f,rfl,h1,h2,h3,h4,h5,h6,by dsimp only at *;rw [e1,e2,e3]⟩
abbrev Tk (α:Type):=List D->Option (α × List D)
def tkZ (s:Nat):Tk Int
 | .v (.bool n)::.v (.string a)::r=>if a.size<=s then some (Z n a,r) else none
 | _=>none
def tkR (s:Nat):Tk Rat
 | .v (.bool n)::.v (.string a)::.v (.string b)::r=>if a.size<=s/\b.size<=s then some (qv n a b,r) else none
 | _=>none
def tk2 {α β:Type} (f:Tk α) (g:Tk β):Tk (α × β):=λ ds=>(f ds).bind λ a=>(g a.2).bind λ b=>some ((a.1,b.1),b.2)
def Takes {α:Type} (f:Tk α) (P:α->List D->Prop):Prop:=(∀ v ds r,P v ds->f (ds++r)=some (v,r))/\∀ v ds r,f ds=some (v,r)->∃ e,P v e/\ds=e++r
theorem aHO (s:Nat):Takes (tkZ s) (ZI s):=by
 refine ⟨?_,?_⟩
 ·rintro v ds r ⟨n,a,rfl,h,rfl⟩
  exact if_pos h
 ·intro v ds r h
  unfold tkZ at h
  split at h
  ·split at h
   ·obtain ⟨rfl,rfl⟩:=Prod.mk.inj (Option.some.inj h)
    exact ⟨_,.raw _ ‹_›,rfl⟩
   ·cases h
  ·cases h
theorem aEZ (s:Nat):Takes (tkR s) (RI s):=by
 refine ⟨?_,?_⟩
 ·rintro v ds r ⟨n,a,b,rfl,h1,h2,rfl⟩
  exact if_pos ⟨h1,h2⟩
 ·intro v ds r h
  unfold tkR at h
  split at h
  ·split at h
   ·rename_i hc
    obtain ⟨rfl,rfl⟩:=Prod.mk.inj (Option.some.inj h)
    exact ⟨_,.raw _ hc.1 hc.2,rfl⟩
   ·cases h
  ·cases h
theorem Takes.two {α β:Type} {f:Tk α} {g:Tk β} {P:α->List D->Prop} {Q:β->List D->Prop} (hf:Takes f P) (hg:Takes g Q):Takes (tk2 f g) (And2 P Q):=by
 refine ⟨?_,?_⟩
 ·rintro ⟨x,y⟩ ds r ⟨a,b,h1,h2,rfl⟩
  unfold tk2
  rw [List.append_assoc,hf.1 x a (b++r) h1,Option.bind_some,hg.1 y b r h2,Option.bind_some]
 ·rintro ⟨x,y⟩ ds r h
  obtain ⟨⟨x',t⟩,h1,h3⟩:=Option.bind_eq_some_iff.1 h
  obtain ⟨⟨y',u⟩,h2,h4⟩:=Option.bind_eq_some_iff.1 h3
  clear h h3
  obtain ⟨a,p1,rfl⟩:=hf.2 _ _ _ h1
  obtain ⟨b,p2,e⟩:=hg.2 _ _ _ h2
  obtain ⟨e1,rfl⟩:=Prod.mk.inj (Option.some.inj h4)
  obtain ⟨rfl,rfl⟩:=Prod.mk.inj e1
  exact ⟨a++b,⟨a,b,p1,p2,rfl⟩,by rw [List.append_assoc];exact congrArg (a++·) e⟩
theorem aDs (s:Nat):Takes (tk2 (tkR s) (tk2 (tkR s) (tkR s))) (VI s):=(aEZ s).two ((aEZ s).two (aEZ s))
theorem aAv (s:Nat):Takes (tk2 (tkZ s) (tk2 (tkZ s) (tk2 (tkZ s) (tkZ s)))) (PI s):=(aHO s).two ((aHO s).two ((aHO s).two (aHO s)))
abbrev tkV (s:Nat):Tk V3:=tk2 (tkR s) (tk2 (tkR s) (tkR s))
abbrev tkP (s:Nat):Tk Z4:=tk2 (tkZ s) (tk2 (tkZ s) (tk2 (tkZ s) (tkZ s)))
def Fo {α:Type} (f:Tk α) (g:α->List D):Fct:=λ ds=>(f ds).bind λ x=>if x.2.isEmpty then some (g x.1) else none
theorem Fo.eq {α:Type} {f:Tk α} {P:α->List D->Prop} {g:α->List D} (hf:Takes f P) {v:α} {ds:List D} (h:P v ds):Fo f g ds=some (g v):=by
 have:=hf.1 v ds [] h
 rw [List.append_nil] at this
 unfold Fo
 rw [this]
 rfl
theorem Fo.inv {α:Type} {f:Tk α} {P:α->List D->Prop} {g:α->List D} (hf:Takes f P) {ds rs:List D} (h:Fo f g ds=some rs):∃ v,P v ds/\rs=g v:=by
 obtain ⟨⟨v,r⟩,h1,h2⟩:=Option.bind_eq_some_iff.1 h
 clear h
 cases r with
 | nil =>
  obtain ⟨e,p,rfl⟩:=hf.2 _ _ _ h1
  rw [List.append_nil]
  exact ⟨v,p,(Option.some.inj h2).symm⟩
 | cons x r=>cases h2
theorem I1.at {lim s:Nat} {g:Int->List D} {z:Int} {ds:List D} (h:ZI s z ds) (hs:s<=lim):I1 lim g ds=some (g z):=by
 obtain ⟨n,a,rfl,h1,rfl⟩:=h
 exact I1.eq kJ
theorem I2.at {s t:Nat} {g:Int->Int->List D} {x y:Int} {a b:List D} (h1:ZI s x a) (h2:ZI t y b) (hs:s<=9000) (ht:t<=9000):I2 g (a++b)=some (g x y):=by
 obtain ⟨n,a,rfl,h1,rfl⟩:=h1
 obtain ⟨m,b,rfl,h2,rfl⟩:=h2
 exact I2.eq kJ kJ
theorem R1.at {lim s:Nat} {g:Rat->List D} {q:Rat} {ds:List D} (h:RI s q ds) (hs:s<=lim):R1 lim g ds=some (g q):=by
 obtain ⟨n,a,b,rfl,h1,h2,rfl⟩:=h
 exact R1.eq kJ kJ
theorem R2.at {s t:Nat} {g:Rat->Rat->List D} {x y:Rat} {a b:List D} (h1:RI s x a) (h2:RI t y b) (hs:s<=2000) (ht:t<=2000):R2 g (a++b)=some (g x y):=by
 obtain ⟨n,a,b,rfl,g1,g2,rfl⟩:=h1
 obtain ⟨m,c,d,rfl,g3,g4,rfl⟩:=h2
 exact R2.eq kJ kJ kJ kJ
end Go.Proofs.YtjefbecmeobegaaGreatDoor.Sp
