import Derived.Test.YtjefbecmeobegaaGreatDoorSpB
import Derived.Test.YtjefbecmeobegaaGreatDoorSpQ
import Derived.Test.YtjefbecmeobegaaGreatDoorSpG
import Derived.Test.YtjefbecmeobegaaGreatDoorTr1
namespace Go.Proofs.YtjefbecmeobegaaGreatDoor.Sp
open Go Go.RowKit Sx NatA NatB NatC NatD NatI NatJ IntZ RatZ PtZ
theorem aEX (x y:Int) (R:Bool):((I x).1 == (I y).1 && (aDw (.string (I x).2) (.string (I y).2) && R))=(decide (x=y) && R):=by
 rw [<- Bool.and_assoc]
 congr 1
 have:=aKL x y
 have e:aAV [.bool (I x).1,.string (I x).2] [.bool (I y).1,.string (I y).2]=((I x).1 == (I y).1 && (aDw (.string (I x).2) (.string (I y).2) && true)):=rfl
 rw [<- this,e,Bool.and_true]
abbrev vz (z:Int):List Value:=[.bool (I z).1,.string (I z).2]
abbrev vq (q:Rat):List Value:=[.bool (I q.num).1,.string (I q.num).2,.string (dnc q.den)]
abbrev v4 (p:Z4):List Value:=vz p.1++(vz p.2.1++(vz p.2.2.1++vz p.2.2.2))
abbrev v3 (v:V3):List Value:=vq v.1++(vq v.2.1++vq v.2.2)
theorem aT7 (p q:Z4):aAV (v4 p) (v4 q)=decide (p=q):=by
 obtain ⟨x,y,z,w⟩:=p
 obtain ⟨x',y',z',w'⟩:=q
 have e:aAV (v4 (x,y,z,w)) (v4 (x',y',z',w'))=((I x).1 == (I x').1 && (aDw (.string (I x).2) (.string (I x').2) && ((I y).1 == (I y').1 && (aDw (.string (I y).2) (.string (I y').2) && ((I z).1 == (I z').1 && (aDw (.string (I z).2) (.string (I z').2) && ((I w).1 == (I w').1 && (aDw (.string (I w).2) (.string (I w').2) && true)))))))):=rfl
 rw [e,aEX,aEX,aEX,aEX,Bool.eq_iff_iff]
 simp only [Bool.and_true,Bool.and_eq_true,decide_eq_true_iff,Prod.mk.injEq]
def aBY:Fct
 | [.v (.bool _),.v (.string a),.v (.bool _),.v (.string b),.v (.bool _),.v (.string c),.v (.bool _),.v (.string d)]=>some [i_ (if a.size<=6/\b.size<=6/\c.size<=6/\d.size<=6 then 0 else 1)]
 | _=>none
theorem aBV:Tryz.prog.underlying 9=some .string:=by kernel_rfl
theorem aD6 {n k:Nat} (h:decide ((n:Int) > (k:Int))=false):n<=k:=by
 have:=of_decide_eq_false h
 omega
theorem aEH {n k:Nat} (h:decide ((n:Int) > (k:Int))=true):¬ n<=k:=by
 have:=of_decide_eq_true h
 omega
theorem g_great:Sx.Good Tryz.prog X.G 69 ⟨[.agg 8],.v1 .one⟩ aBY:=aAe (tb:=[]) trivial (λ _ _=>X.G_below) 400 kK (by kernel_rfl:_=some aGi) λ ds rs h=>by
 unfold aBY at h
 split at h
 ·rename_i a _ b _ c _ d
  obtain rfl:=Option.some.inj h
  refine ⟨0,?_⟩
  refine gP (aAu aBV a) (gP (aA8 _ _ .i64 (a.size:Int) 6) (aAw (b:=decide ((a.size:Int) > 6)) kK (λ h1=>?_) (λ h1=>?_)))
  ·rw [if_neg (λ hh=>aEH (k:=6) h1 hh.1)]
   exact aAc kK
  refine gP (aAu aBV b) (gP (aA8 _ _ .i64 (b.size:Int) 6) (aAw (b:=decide ((b.size:Int) > 6)) kK (λ h2=>?_) (λ h2=>?_)))
  ·rw [if_neg (λ hh=>aEH (k:=6) h2 hh.2.1)]
   exact aAc kK
  refine gP (aAu aBV c) (gP (aA8 _ _ .i64 (c.size:Int) 6) (aAw (b:=decide ((c.size:Int) > 6)) kK (λ h3=>?_) (λ h3=>?_)))
  ·rw [if_neg (λ hh=>aEH (k:=6) h3 hh.2.2.1)]
   exact aAc kK
  refine gP (aAu aBV d) (gP (aA8 _ _ .i64 (d.size:Int) 6) (aAw (b:=decide ((d.size:Int) > 6)) kK (λ h4=>?_) (λ h4=>?_)))
  ·rw [if_neg (λ hh=>aEH (k:=6) h4 hh.2.2.2)]
   exact aAc kK
  ·rw [if_pos ⟨aD6 (k:=6) h1,aD6 (k:=6) h2,aD6 (k:=6) h3,aD6 (k:=6) h4⟩]
   exact aAc kK
 ·cases h
theorem aMD (n1:Bool) (a1:ByteArray) (n2:Bool) (a2:ByteArray) (n3:Bool) (a3:ByteArray) (n4:Bool) (a4:ByteArray):aBY [b_ n1,s_ a1,b_ n2,s_ a2,b_ n3,s_ a3,b_ n4,s_ a4]=some [i_ 1]\/aBY [b_ n1,s_ a1,b_ n2,s_ a2,b_ n3,s_ a3,b_ n4,s_ a4]=some [i_ 0]/\PI 6 (Z n1 a1,Z n2 a2,Z n3 a3,Z n4 a4) [b_ n1,s_ a1,b_ n2,s_ a2,b_ n3,s_ a3,b_ n4,s_ a4]:=by
 unfold aBY
 dsimp only
 split
 ·rename_i h
  exact .inr ⟨rfl,PI.mk (.raw n1 h.1) (.raw n2 h.2.1) (.raw n3 h.2.2.1) (.raw n4 h.2.2.2)⟩
 ·exact .inl rfl
def okD:List Kc->List D->Bool
 | [],[]=>true
 | k::ks,.v x::ds=>k.ok x && okD ks ds
 | _,_=>false
def F_true (ks:List Kc):Fct:=λ ds=>if okD ks ds=true then some [b_ true] else none
theorem aNL:∀ {ks:List Kc} {ds:List D},okD ks ds=true->∃ vs,oks ks vs=true/\ds=vs.map D.v
 | [],[],_=>⟨[],rfl,rfl⟩
 | [],_::_,h=>by cases h
 | _::_,[],h=>by cases h
 | _::_,.l _ _::_,h=>by cases h
 | k::ks,.v x::ds,h=>by
  have h:(k.ok x && okD ks ds)=true:=h
  rw [Bool.and_eq_true] at h
  obtain ⟨vs,h1,rfl⟩:=aNL h.2
  refine ⟨x::vs,?_,rfl⟩
  show (k.ok x && oks ks vs)=true
  rw [h.1,h1]
  rfl
theorem aME:∀ {ks:List Kc} {vs:List Value},oks ks vs=true->okD ks (vs.map D.v)=true/\vs.all aAS=true
 | [],[],_=>⟨rfl,rfl⟩
 | [],_::_,h=>by cases h
 | _::_,[],h=>by cases h
 | k::ks,x::vs,h=>by
  have h:(k.ok x && oks ks vs)=true:=h
  rw [Bool.and_eq_true] at h
  obtain ⟨h1,h2⟩:=aME h.2
  refine ⟨?_,?_⟩
  ·show (k.ok x && okD ks (vs.map D.v))=true
   rw [h.1,h1]
   rfl
  ·rw [List.all_cons,h2,Bool.and_true]
   revert h
   cases k<;>cases x<;>simp [Kc.ok,aAS]
theorem F_true.inv {ks:List Kc} {ds rs:List D} (h:F_true ks ds=some rs):∃ vs,oks ks vs=true/\ds=vs.map D.v/\rs=[b_ true]:=by
 unfold F_true at h
 split at h
 ·obtain ⟨vs,h1,h2⟩:=aNL ‹_›
  exact ⟨vs,h1,h2,(Option.some.inj h).symm⟩
 ·cases h
theorem F_true.eq {ks:List Kc} {vs:List Value} (h:oks ks vs=true):F_true ks (vs.map D.v)=some [b_ true]:=if_pos (aME h).1
theorem calls_flat {P:Program} {G:World->Prop} {f:FuncId} {ps:List H1} {ks:List Kc} {cs:List Value} (hg:Sx.Good P G f ⟨ps,.v1 .one⟩ (F_true ks)) (hk:oks ks cs=true) (hl:ks.length=aD9 ps) {w:World} (hw:G w) :
  Calls P f (blds ps cs).toArray w λ e w'=>e=.returned (.bool true)/\Below w.heap.size w w':=aOD hg (F_true.eq hk) (aME hk).2 ((aBz hk).symm.trans hl) hw
theorem aJ5 {ks:List Kc} {vs:List Value} (h:oks (.b::ks) vs=true):∃ b r,vs=.bool b::r/\oks ks r=true:=by
 cases vs with
 | nil=>cases h
 | cons v r =>
  have h:(Kc.ok .b v && oks ks r)=true:=h
  rw [Bool.and_eq_true] at h
  cases v<;>first | exact ⟨_,_,rfl,h.2⟩ | (exact absurd h.1 kQ) | (cases h.1;done)
theorem aIh {ks:List Kc} {vs:List Value} (h:oks (.s::ks) vs=true):∃ b r,vs=.string b::r/\oks ks r=true:=by
 cases vs with
 | nil=>cases h
 | cons v r =>
  have h:(Kc.ok .s v && oks ks r)=true:=h
  rw [Bool.and_eq_true] at h
  cases v<;>first | exact ⟨_,_,rfl,h.2⟩ | (cases h.1;done)
theorem aT8 {vs:List Value} (h:oks [] vs=true):vs=[]:=by
 cases vs with
 | nil=>rfl
 | cons v r=>cases h
abbrev kR:List Kc:=[.b,.s,.s]
abbrev kP:List Kc:=[.b,.s,.b,.s,.b,.s,.b,.s]
theorem aSw {ks:List Kc} {vs:List Value} (h:oks (kP++ks) vs=true):∃ n1 a1 n2 a2 n3 a3 n4 a4 r,vs=[.bool n1,.string a1,.bool n2,.string a2,.bool n3,.string a3,.bool n4,.string a4]++r/\oks ks r=true:=by
 obtain ⟨n1,_,rfl,h1⟩:=aJ5 h
 obtain ⟨a1,_,rfl,h2⟩:=aIh h1
 obtain ⟨n2,_,rfl,h3⟩:=aJ5 h2
 obtain ⟨a2,_,rfl,h4⟩:=aIh h3
 obtain ⟨n3,_,rfl,h5⟩:=aJ5 h4
 obtain ⟨a3,_,rfl,h6⟩:=aIh h5
 obtain ⟨n4,_,rfl,h7⟩:=aJ5 h6
 obtain ⟨a4,r,rfl,h8⟩:=aIh h7
 exact ⟨n1,a1,n2,a2,n3,a3,n4,a4,r,rfl,h8⟩
theorem aUU {ks:List Kc} {vs:List Value} (h:oks (kR++ks) vs=true):∃ n a b r,vs=[.bool n,.string a,.string b]++r/\oks ks r=true:=by
 obtain ⟨n1,_,rfl,h1⟩:=aJ5 h
 obtain ⟨a1,_,rfl,h2⟩:=aIh h1
 obtain ⟨a2,r,rfl,h3⟩:=aIh h2
 exact ⟨n1,a1,a2,r,rfl,h3⟩
theorem aHL {n:Nat} {a:ByteArray} (h1:V a=n) (h2:N (V a)=a):enc (n:Int)=[b_ false,s_ a]:=by
 show [b_ (I (n:Int)).1,s_ (I (n:Int)).2]=_
 rw [aHP,<- h1,h2]
theorem aU0 {x:Nat} {a:ByteArray} (ha:V a=x) (sa:a.size<=1):RI 1 (Rat.divInt (x:Int) 1) [b_ false,s_ a,s_ (⟨#[]⟩:ByteArray)]:=by
 refine ⟨false,_,_,rfl,sa,Nat.zero_le 1,?_⟩
 unfold qv dn
 have e:Z false a=(x:Int):=by
  show (V a:Int)=_
  rw [ha]
 have h0:V (⟨#[]⟩:ByteArray)=0:=by rw [<- aCn,V_N]
 rw [e,if_pos h0]
def PA (s:Nat) (v:V3) (ds:List D):Prop:=∃ z,PI s z ds/\v=pv4 z
theorem PA.raw {s:Nat} {z:Z4} {ds:List D} (h:PI s z ds):PA s (pv4 z) ds:=⟨z,h,rfl⟩
theorem PA.can {s:Nat} {v:V3} (h:Sv s v):PA (3*s) v (aAB v):=⟨pt v,PI.can (S4.pt h),(aOQ v).symm⟩
theorem PA.sv {s:Nat} (hs:1<=s) {v:V3} {ds:List D} (h:PA s v ds):Sv s v:=by
 obtain ⟨z,h1,rfl⟩:=h
 exact Sv.pv4 hs h1.s4
theorem aRu {s:Nat} {v:V3} {ds:List D} (h:PA s v ds) (hs:s<=2500):aBd ds=some (aAB v):=by
 obtain ⟨z,h1,rfl⟩:=h
 exact Fo.eq (aAv 2500) (h1.le hs)
theorem aOH {s:Nat} {v:V3} {ds:List D} (h:PA s v ds) (hs:s<=1500):aA3 ds=some (aC1 v):=by
 obtain ⟨z,h1,rfl⟩:=h
 exact Fo.eq (aAv 1500) (h1.le hs)
theorem aEz {s:Nat} {v:V3} {ds:List D} (h:VI s v ds) (hs:s<=600):aA2 ds=some (aAB v):=Fo.eq (aDs 600) (h.le hs)
theorem Sv.vadd {s t:Nat} {u v:V3} (h:Sv s u) (g:Sv t v):Sv (s+t+1) (vadd u v):=⟨Sq.add h.1 g.1,Sq.add h.2.1 g.2.1,Sq.add h.2.2 g.2.2⟩
theorem Sv.vmid {s t r:Nat} {u v:V3} {q:Rat} (h:Sv s u) (g:Sv t v) (k:Sq r q):Sv (s+(r+(t+s+1))+1) (vmid u v q):=⟨Sq.add h.1 (Sq.mul kJ k (aBx g.1 h.1)),Sq.add h.2.1 (Sq.mul kJ k (aBx g.2.1 h.2.1)),Sq.add h.2.2 (Sq.mul kJ k (aBx g.2.2 h.2.2))⟩
theorem aHM (z:Int):-1<=sgn z/\sgn z<=1:=by
 unfold sgn
 split<;>(try split)<;>omega
theorem aIu (q:Rat):sgn q.num > 0 ↔ 0 < q:=by
 rw [aGp]
 have h:=Rat.num_nonneg (q:=-q)
 have e:(-q).num=-q.num:=rfl
 rw [e] at h
 constructor
 ·intro g
  have:¬ 0<=-q:=λ k=>by have:=h.2 k;omega
  grind
 ·intro g
  have:¬ 0<=-q.num:=λ k=>by have:=h.1 k;grind
  omega
theorem aIv (q:Rat):sgn q.num < 0 ↔ q < 0:=by
 rw [aHI]
 have:=Rat.num_nonneg (q:=q)
 constructor
 ·intro h
  have:¬ 0<=q:=λ g=>by have:=this.2 g;omega
  grind
 ·intro h
  have:¬ 0<=q.num:=λ g=>by have:=this.1 g;grind
  omega
def aGr:Fct
 | []=>some [b_ true]
 | _=>none
theorem awk:aGr []=some [b_ true]:=rfl
end Go.Proofs.YtjefbecmeobegaaGreatDoor.Sp
