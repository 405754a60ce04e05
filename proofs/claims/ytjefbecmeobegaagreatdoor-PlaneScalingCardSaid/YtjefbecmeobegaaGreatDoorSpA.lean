import Derived.Test.YtjefbecmeobegaaGreatDoorSpB
import Derived.Test.YtjefbecmeobegaaGreatDoorSpQ
import Derived.Test.YtjefbecmeobegaaGreatDoorSpG
import Derived.Test.YtjefbecmeobegaaGreatDoorTr1
namespace Go.Proofs.YtjefbecmeobegaaGreatDoor.Sp
open Go Go.RowKit Sx NatA NatB NatC NatD NatI NatJ IntZ RatZ PtZ
theorem aEK (x y:Int) (R:Bool):((I x).1 == (I y).1 && (aDg (.string (I x).2) (.string (I y).2) && R))=(decide (x=y) && R):=by
 rw [← Bool.and_assoc]
 congr 1
 have:=aP5 x y
 have e:aAT [.bool (I x).1,.string (I x).2] [.bool (I y).1,.string (I y).2]=((I x).1 == (I y).1 && (aDg (.string (I x).2) (.string (I y).2) && true)):=rfl
 rw [← this,e,Bool.and_true]
abbrev vz (z:Int):List Value:=[.bool (I z).1,.string (I z).2]
abbrev vq (q:Rat):List Value:=[.bool (I q.num).1,.string (I q.num).2,.string (dnc q.den)]
abbrev v4 (p:Z4):List Value:=vz p.1++(vz p.2.1++(vz p.2.2.1++vz p.2.2.2))
abbrev v3 (v:V3):List Value:=vq v.1++(vq v.2.1++vq v.2.2)
theorem aSF (p q:Z4):aAT (v4 p) (v4 q)=decide (p=q):=by
 obtain ⟨x,y,z,w⟩:=p
 obtain ⟨x',y',z',w'⟩:=q
 have e:aAT (v4 (x,y,z,w)) (v4 (x',y',z',w'))=((I x).1 == (I x').1 && (aDg (.string (I x).2) (.string (I x').2) && ((I y).1 == (I y').1 && (aDg (.string (I y).2) (.string (I y').2) && ((I z).1 == (I z').1 && (aDg (.string (I z).2) (.string (I z').2) && ((I w).1 == (I w').1 && (aDg (.string (I w).2) (.string (I w').2) && true)))))))):=rfl
 rw [e,aEK,aEK,aEK,aEK,Bool.eq_iff_iff]
 simp only [Bool.and_true,Bool.and_eq_true,decide_eq_true_iff,Prod.mk.injEq]
def aBg:Fct
 | [.v (.bool _),.v (.string a),.v (.bool _),.v (.string b),.v (.bool _),.v (.string c),.v (.bool _),.v (.string d)]=>some [i_ (if a.size≤6∧b.size≤6∧c.size≤6∧d.size≤6 then 0 else 1)]
 | _=>none
theorem aCy:Tryz.prog.underlying 9=some .string:=by kernel_rfl
theorem aE1 {n k:Nat} (h:decide ((n:Int) > (k:Int))=false):n≤k:=by
 have:=of_decide_eq_false h
 omega
theorem aE2 {n k:Nat} (h:decide ((n:Int) > (k:Int))=true):¬ n≤k:=by
 have:=of_decide_eq_true h
 omega
theorem g_great:Sx.Good Tryz.prog X.G 69 ⟨[.agg 8],.v1 .one⟩ aBg:=aAf (tb:=[]) trivial (fun _ _=>X.G_below) 400 (by kernel_rfl) (by kernel_rfl:_=some aFW) fun ds rs h=>by
 unfold aBg at h
 split at h
 ·rename_i a _ b _ c _ d
  obtain rfl:=Option.some.inj h
  refine ⟨0,?_⟩
  refine gP (aAs aCy a) (gP (aAA _ _ .i64 (a.size:Int) 6) (aAr (b:=decide ((a.size:Int) > 6)) (by kernel_rfl) (fun h1=>?_) (fun h1=>?_)))
  ·rw [if_neg (fun hh=>aE2 (k:=6) h1 hh.1)]
   exact aAb (by kernel_rfl)
  refine gP (aAs aCy b) (gP (aAA _ _ .i64 (b.size:Int) 6) (aAr (b:=decide ((b.size:Int) > 6)) (by kernel_rfl) (fun h2=>?_) (fun h2=>?_)))
  ·rw [if_neg (fun hh=>aE2 (k:=6) h2 hh.2.1)]
   exact aAb (by kernel_rfl)
  refine gP (aAs aCy c) (gP (aAA _ _ .i64 (c.size:Int) 6) (aAr (b:=decide ((c.size:Int) > 6)) (by kernel_rfl) (fun h3=>?_) (fun h3=>?_)))
  ·rw [if_neg (fun hh=>aE2 (k:=6) h3 hh.2.2.1)]
   exact aAb (by kernel_rfl)
  refine gP (aAs aCy d) (gP (aAA _ _ .i64 (d.size:Int) 6) (aAr (b:=decide ((d.size:Int) > 6)) (by kernel_rfl) (fun h4=>?_) (fun h4=>?_)))
  ·rw [if_neg (fun hh=>aE2 (k:=6) h4 hh.2.2.2)]
   exact aAb (by kernel_rfl)
  ·rw [if_pos ⟨aE1 (k:=6) h1,aE1 (k:=6) h2,aE1 (k:=6) h3,aE1 (k:=6) h4⟩]
   exact aAb (by kernel_rfl)
 ·cases h
theorem aGD (n1:Bool) (a1:ByteArray) (n2:Bool) (a2:ByteArray) (n3:Bool) (a3:ByteArray) (n4:Bool) (a4:ByteArray):aBg [b_ n1,s_ a1,b_ n2,s_ a2,b_ n3,s_ a3,b_ n4,s_ a4]=some [i_ 1]∨aBg [b_ n1,s_ a1,b_ n2,s_ a2,b_ n3,s_ a3,b_ n4,s_ a4]=some [i_ 0]∧PI 6 (Z n1 a1,Z n2 a2,Z n3 a3,Z n4 a4) [b_ n1,s_ a1,b_ n2,s_ a2,b_ n3,s_ a3,b_ n4,s_ a4]:=by
 unfold aBg
 dsimp only
 split
 ·rename_i h
  exact .inr ⟨rfl,PI.mk (.raw n1 h.1) (.raw n2 h.2.1) (.raw n3 h.2.2.1) (.raw n4 h.2.2.2)⟩
 ·exact .inl rfl
def okD:List Kc→List D→Bool
 | [],[]=>true
 | k::ks,.v x::ds=>k.ok x && okD ks ds
 | _,_=>false
def F_true (ks:List Kc):Fct:=fun ds=>if okD ks ds=true then some [b_ true] else none
theorem aNm:∀ {ks:List Kc} {ds:List D},okD ks ds=true→∃ vs,oks ks vs=true∧ds=vs.map D.v
 | [],[],_=>⟨[],rfl,rfl⟩
 | [],_::_,h=>by cases h
 | _::_,[],h=>by cases h
 | _::_,.l _ _::_,h=>by cases h
 | k::ks,.v x::ds,h=>by
  have h:(k.ok x && okD ks ds)=true:=h
  rw [Bool.and_eq_true] at h
  obtain ⟨vs,h1,rfl⟩:=aNm h.2
  refine ⟨x::vs,?_,rfl⟩
  show (k.ok x && oks ks vs)=true
  rw [h.1,h1]
  rfl
theorem aMh:∀ {ks:List Kc} {vs:List Value},oks ks vs=true→okD ks (vs.map D.v)=true∧vs.all aAQ=true
 | [],[],_=>⟨rfl,rfl⟩
 | [],_::_,h=>by cases h
 | _::_,[],h=>by cases h
 | k::ks,x::vs,h=>by
  have h:(k.ok x && oks ks vs)=true:=h
  rw [Bool.and_eq_true] at h
  obtain ⟨h1,h2⟩:=aMh h.2
  refine ⟨?_,?_⟩
  ·show (k.ok x && okD ks (vs.map D.v))=true
   rw [h.1,h1]
   rfl
  ·rw [List.all_cons,h2,Bool.and_true]
   revert h
   cases k<;>cases x<;>simp [Kc.ok,aAQ]
theorem F_true.inv {ks:List Kc} {ds rs:List D} (h:F_true ks ds=some rs):∃ vs,oks ks vs=true∧ds=vs.map D.v∧rs=[b_ true]:=by
 unfold F_true at h
 split at h
 ·obtain ⟨vs,h1,h2⟩:=aNm ‹_›
  exact ⟨vs,h1,h2,(Option.some.inj h).symm⟩
 ·cases h
theorem F_true.eq {ks:List Kc} {vs:List Value} (h:oks ks vs=true):F_true ks (vs.map D.v)=some [b_ true]:=if_pos (aMh h).1
theorem calls_flat {P:Program} {G:World→Prop} {f:FuncId} {ps:List H1} {ks:List Kc} {cs:List Value} (hg:Sx.Good P G f ⟨ps,.v1 .one⟩ (F_true ks)) (hk:oks ks cs=true) (hl:ks.length=aDr ps) {w:World} (hw:G w) :
  Calls P f (blds ps cs).toArray w fun e w'=>e=.returned (.bool true)∧Below w.heap.size w w':=aIY hg (F_true.eq hk) (aMh hk).2 ((aBp hk).symm.trans hl) hw
theorem aKJ {ks:List Kc} {vs:List Value} (h:oks (.b::ks) vs=true):∃ b r,vs=.bool b::r∧oks ks r=true:=by
 cases vs with
 | nil=>cases h
 | cons v r =>
  have h:(Kc.ok .b v && oks ks r)=true:=h
  rw [Bool.and_eq_true] at h
  cases v<;>first | exact ⟨_,_,rfl,h.2⟩ | (exact absurd h.1 (by decide)) | (cases h.1;done)
theorem aKK {ks:List Kc} {vs:List Value} (h:oks (.s::ks) vs=true):∃ b r,vs=.string b::r∧oks ks r=true:=by
 cases vs with
 | nil=>cases h
 | cons v r =>
  have h:(Kc.ok .s v && oks ks r)=true:=h
  rw [Bool.and_eq_true] at h
  cases v<;>first | exact ⟨_,_,rfl,h.2⟩ | (cases h.1;done)
theorem aNn {vs:List Value} (h:oks [] vs=true):vs=[]:=by
 cases vs with
 | nil=>rfl
 | cons v r=>cases h
abbrev kP:List Kc:=[.b,.s,.b,.s,.b,.s,.b,.s]
theorem aKL {ks:List Kc} {vs:List Value} (h:oks (kP++ks) vs=true):∃ n1 a1 n2 a2 n3 a3 n4 a4 r,vs=[.bool n1,.string a1,.bool n2,.string a2,.bool n3,.string a3,.bool n4,.string a4]++r∧oks ks r=true:=by
 obtain ⟨n1,_,rfl,h1⟩:=aKJ h
 obtain ⟨a1,_,rfl,h2⟩:=aKK h1
 obtain ⟨n2,_,rfl,h3⟩:=aKJ h2
 obtain ⟨a2,_,rfl,h4⟩:=aKK h3
 obtain ⟨n3,_,rfl,h5⟩:=aKJ h4
 obtain ⟨a3,_,rfl,h6⟩:=aKK h5
 obtain ⟨n4,_,rfl,h7⟩:=aKJ h6
 obtain ⟨a4,r,rfl,h8⟩:=aKK h7
 exact ⟨n1,a1,n2,a2,n3,a3,n4,a4,r,rfl,h8⟩
theorem aHz {n:Nat} {a:ByteArray} (h1:V a=n) (h2:N (V a)=a):enc (n:Int)=[b_ false,s_ a]:=by
 show [b_ (I (n:Int)).1,s_ (I (n:Int)).2]=_
 rw [aNt,← h1,h2]
theorem aT6 {x:Nat} {a:ByteArray} (ha:V a=x) (sa:a.size≤1):RI 1 (Rat.divInt (x:Int) 1) [b_ false,s_ a,s_ (⟨#[]⟩:ByteArray)]:=by
 refine ⟨false,_,_,rfl,sa,Nat.zero_le 1,?_⟩
 unfold qv dn
 have e:Z false a=(x:Int):=by
  show (V a:Int)=_
  rw [ha]
 have h0:V (⟨#[]⟩:ByteArray)=0:=by rw [← aDa,V_N]
 rw [e,if_pos h0]
theorem Sv.vadd {s t:Nat} {u v:V3} (h:Sv s u) (g:Sv t v):Sv (s+t+1) (vadd u v):=⟨Sq.add h.1 g.1,Sq.add h.2.1 g.2.1,Sq.add h.2.2 g.2.2⟩
theorem Sv.vmid {s t r:Nat} {u v:V3} {q:Rat} (h:Sv s u) (g:Sv t v) (k:Sq r q):Sv (s+(r+(t+s+1))+1) (vmid u v q):=⟨Sq.add h.1 (Sq.mul (by omega) k (aGc g.1 h.1)),Sq.add h.2.1 (Sq.mul (by omega) k (aGc g.2.1 h.2.1)),Sq.add h.2.2 (Sq.mul (by omega) k (aGc g.2.2 h.2.2))⟩
theorem aPE (z:Int):-1≤sgn z∧sgn z≤1:=by
 unfold sgn
 split<;>(try split)<;>omega
theorem aQJ {n1 n2 n3 n4 m1 m2 m3 m4:Bool} {a1 a2 a3 a4 c1 c2 c3 c4:ByteArray} (h:[b_ n1,s_ a1,b_ n2,s_ a2,b_ n3,s_ a3,b_ n4,s_ a4]=[b_ m1,s_ c1,b_ m2,s_ c2,b_ m3,s_ c3,b_ m4,s_ c4]):m1=n1∧c1=a1∧m2=n2∧c2=a2∧m3=n3∧c3=a3∧m4=n4∧c4=a4:=by
 injection h with h1 h
 injection h with h2 h
 injection h with h3 h
 injection h with h4 h
 injection h with h5 h
 injection h with h6 h
 injection h with h7 h
 injection h with h8 h
 injection h1 with h1
 injection h1 with h1
 injection h2 with h2
 injection h2 with h2
 injection h3 with h3
 injection h3 with h3
 injection h4 with h4
 injection h4 with h4
 injection h5 with h5
 injection h5 with h5
 injection h6 with h6
 injection h6 with h6
 injection h7 with h7
 injection h7 with h7
 injection h8 with h8
 injection h8 with h8
 exact ⟨h1.symm,h2.symm,h3.symm,h4.symm,h5.symm,h6.symm,h7.symm,h8.symm⟩
theorem aQK {s:Nat} {p:Z4} {n1 n2 n3 n4:Bool} {a1 a2 a3 a4:ByteArray} (h:PI s p [b_ n1,s_ a1,b_ n2,s_ a2,b_ n3,s_ a3,b_ n4,s_ a4]):a1.size≤s∧a2.size≤s∧a3.size≤s∧a4.size≤s:=by
 obtain ⟨m1,c1,m2,c2,m3,c3,m4,c4,e,h1,h2,h3,h4,-⟩:=h.inv
 obtain ⟨-,rfl,-,rfl,-,rfl,-,rfl⟩:=aQJ e
 exact ⟨h1,h2,h3,h4⟩
def aEW:Fct
 | []=>some [b_ true]
 | _=>none
theorem awk:aEW []=some [b_ true]:=rfl
end Go.Proofs.YtjefbecmeobegaaGreatDoor.Sp
