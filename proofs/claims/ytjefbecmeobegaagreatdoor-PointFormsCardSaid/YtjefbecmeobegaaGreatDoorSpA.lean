import Derived.Test.YtjefbecmeobegaaGreatDoorSpB
import Derived.Test.YtjefbecmeobegaaGreatDoorSpE
import Derived.Test.YtjefbecmeobegaaGreatDoorTr1
namespace Go.Proofs.YtjefbecmeobegaaGreatDoor.Sp
open Go Go.RowKit Sx NatA NatB NatC NatD NatI NatJ IntZ RatZ PtZ
theorem aEH (x y:Int) (R:Bool):((I x).1 == (I y).1 && (aBo (.string (I x).2) (.string (I y).2) && R))=(decide (x=y) && R):=by
 rw [← Bool.and_assoc]
 congr 1
 have:=aKu x y
 have e:aAA [.bool (I x).1,.string (I x).2] [.bool (I y).1,.string (I y).2]=((I x).1 == (I y).1 && (aBo (.string (I x).2) (.string (I y).2) && true)):=rfl
 rw [← this,e,Bool.and_true]
theorem aGB (x y:Rat) (R:Bool):((I x.num).1 == (I y.num).1 && (aBo (.string (I x.num).2) (.string (I y.num).2) && (aBo (.string (dnc x.den)) (.string (dnc y.den)) && R)))=(decide (x=y) && R):=by
 have:=aPn x y
 have e:aAA [.bool (I x.num).1,.string (I x.num).2,.string (dnc x.den)] [.bool (I y.num).1,.string (I y.num).2,.string (dnc y.den)]=((I x.num).1 == (I y.num).1 && (aBo (.string (I x.num).2) (.string (I y.num).2) && (aBo (.string (dnc x.den)) (.string (dnc y.den)) && true))):=rfl
 rw [← this,e,Bool.and_true,Bool.and_assoc,Bool.and_assoc]
abbrev vz (z:Int):List Value:=[.bool (I z).1,.string (I z).2]
abbrev vq (q:Rat):List Value:=[.bool (I q.num).1,.string (I q.num).2,.string (dnc q.den)]
abbrev v4 (p:Z4):List Value:=vz p.1++(vz p.2.1++(vz p.2.2.1++vz p.2.2.2))
abbrev v3 (v:V3):List Value:=vq v.1++(vq v.2.1++vq v.2.2)
theorem aSm (p q:Z4):aAA (v4 p) (v4 q)=decide (p=q):=by
 obtain ⟨x,y,z,w⟩:=p
 obtain ⟨x',y',z',w'⟩:=q
 have e:aAA (v4 (x,y,z,w)) (v4 (x',y',z',w'))=((I x).1 == (I x').1 && (aBo (.string (I x).2) (.string (I x').2) && ((I y).1 == (I y').1 && (aBo (.string (I y).2) (.string (I y').2) && ((I z).1 == (I z').1 && (aBo (.string (I z).2) (.string (I z').2) && ((I w).1 == (I w').1 && (aBo (.string (I w).2) (.string (I w').2) && true)))))))):=rfl
 rw [e,aEH,aEH,aEH,aEH,Bool.eq_iff_iff]
 simp only [Bool.and_true,Bool.and_eq_true,decide_eq_true_iff,Prod.mk.injEq]
theorem aSn (p q:V3):aAA (v3 p) (v3 q)=decide (p=q):=by
 obtain ⟨x,y,z⟩:=p
 obtain ⟨x',y',z'⟩:=q
 have e:aAA (v3 (x,y,z)) (v3 (x',y',z'))=((I x.num).1 == (I x'.num).1 && (aBo (.string (I x.num).2) (.string (I x'.num).2) && (aBo (.string (dnc x.den)) (.string (dnc x'.den)) && ((I y.num).1 == (I y'.num).1 && (aBo (.string (I y.num).2) (.string (I y'.num).2) && (aBo (.string (dnc y.den)) (.string (dnc y'.den)) && ((I z.num).1 == (I z'.num).1 && (aBo (.string (I z.num).2) (.string (I z'.num).2) && (aBo (.string (dnc z.den)) (.string (dnc z'.den)) && true))))))))):=rfl
 rw [e,aGB,aGB,aGB,Bool.eq_iff_iff]
 simp only [Bool.and_true,Bool.and_eq_true,decide_eq_true_iff,Prod.mk.injEq]
theorem eq_4 (k:Bool) (p q:Z4):(Pu.bin .eql 25 k).run Tryz.prog [.agg (enc4 p),.agg (enc4 q)]=some (b_ (decide (p=q))):=by
 rw [← aSm]
 exact (aGj (P:=Tryz.prog) (t:=25) k (ks:=[.b,.s,.b,.s,.b,.s,.b,.s]) (by kernel_rfl) (by kernel_rfl) (xs:=v4 p) (ys:=v4 q) rfl rfl).1
theorem aTz (u v:V3):decide (pt u=pt v)=decide (u=v):=by
 rw [Bool.eq_iff_iff,decide_eq_true_iff,decide_eq_true_iff]
 exact aTk
theorem aKO (k:Bool) (u v:V3):(Pu.bin .eql 25 k).run Tryz.prog [.agg (aAB u),.agg (aAB v)]=some (b_ (decide (u=v))):=by rw [← aTz];exact eq_4 k _ _
theorem aT0 (k:Bool) (u v:V3):(Pu.bin .eql 29 k).run Tryz.prog [.agg (aCi u),.agg (aCi v)]=some (b_ (decide (u=v))):=by
 rw [← aSn]
 exact (aGj (P:=Tryz.prog) (t:=29) k (ks:=[.b,.s,.s,.b,.s,.s,.b,.s,.s]) (by kernel_rfl) (by kernel_rfl) (xs:=v3 u) (ys:=v3 v) rfl rfl).1
def aCa:Fct
 | [.v (.bool _),.v (.string a),.v (.bool _),.v (.string b),.v (.bool _),.v (.string c),.v (.bool _),.v (.string d)]=>some [i_ (if a.size≤6∧b.size≤6∧c.size≤6∧d.size≤6 then 0 else 1)]
 | _=>none
def aCB:Fct
 | [.v (.bool _),.v (.string a),.v (.string b),.v (.bool _),.v (.string c),.v (.string d),.v (.bool _),.v (.string e),.v (.string f)]=>some [i_ (if a.size≤6∧b.size≤6∧c.size≤6∧d.size≤6∧e.size≤6∧f.size≤6 then 0 else 1)]
 | _=>none
theorem aBM:Tryz.prog.underlying 9=some .string:=by kernel_rfl
theorem aDt {n k:Nat} (h:decide ((n:Int) > (k:Int))=false):n≤k:=by
 have:=of_decide_eq_false h
 omega
theorem aDu {n k:Nat} (h:decide ((n:Int) > (k:Int))=true):¬ n≤k:=by
 have:=of_decide_eq_true h
 omega
theorem g_great:Sx.Good Tryz.prog X.G 69 ⟨[.agg 8],.v1 .one⟩ aCa:=aAd (tb:=[]) trivial (fun _ _=>X.G_below) 400 (by kernel_rfl) (by kernel_rfl:_=some aFS) fun ds rs h=>by
 unfold aCa at h
 split at h
 ·rename_i a _ b _ c _ d
  obtain rfl:=Option.some.inj h
  refine ⟨0,?_⟩
  refine gP (aAp aBM a) (gP (aAC _ _ .i64 (a.size:Int) 6) (aA0 (b:=decide ((a.size:Int) > 6)) (by kernel_rfl) (fun h1=>?_) (fun h1=>?_)))
  ·rw [if_neg (fun hh=>aDu (k:=6) h1 hh.1)]
   exact aAc (by kernel_rfl)
  refine gP (aAp aBM b) (gP (aAC _ _ .i64 (b.size:Int) 6) (aA0 (b:=decide ((b.size:Int) > 6)) (by kernel_rfl) (fun h2=>?_) (fun h2=>?_)))
  ·rw [if_neg (fun hh=>aDu (k:=6) h2 hh.2.1)]
   exact aAc (by kernel_rfl)
  refine gP (aAp aBM c) (gP (aAC _ _ .i64 (c.size:Int) 6) (aA0 (b:=decide ((c.size:Int) > 6)) (by kernel_rfl) (fun h3=>?_) (fun h3=>?_)))
  ·rw [if_neg (fun hh=>aDu (k:=6) h3 hh.2.2.1)]
   exact aAc (by kernel_rfl)
  refine gP (aAp aBM d) (gP (aAC _ _ .i64 (d.size:Int) 6) (aA0 (b:=decide ((d.size:Int) > 6)) (by kernel_rfl) (fun h4=>?_) (fun h4=>?_)))
  ·rw [if_neg (fun hh=>aDu (k:=6) h4 hh.2.2.2)]
   exact aAc (by kernel_rfl)
  ·rw [if_pos ⟨aDt (k:=6) h1,aDt (k:=6) h2,aDt (k:=6) h3,aDt (k:=6) h4⟩]
   exact aAc (by kernel_rfl)
 ·cases h
theorem g_wide:Sx.Good Tryz.prog X.G 18 ⟨[.agg 9],.v1 .one⟩ aCB:=aAd (tb:=[]) trivial (fun _ _=>X.G_below) 400 (by kernel_rfl) (by kernel_rfl:_=some aG2) fun ds rs h=>by
 unfold aCB at h
 split at h
 ·rename_i a b _ c d _ e f
  obtain rfl:=Option.some.inj h
  refine ⟨0,?_⟩
  refine gP (aAp aBM a) (gP (aAC _ _ .i64 (a.size:Int) 6) (aA0 (b:=decide ((a.size:Int) > 6)) (by kernel_rfl) (fun h1=>?_) (fun h1=>?_)))
  ·rw [if_neg (fun hh=>aDu (k:=6) h1 hh.1)]
   exact aAc (by kernel_rfl)
  refine gP (aAp aBM b) (gP (aAC _ _ .i64 (b.size:Int) 6) (aA0 (b:=decide ((b.size:Int) > 6)) (by kernel_rfl) (fun h2=>?_) (fun h2=>?_)))
  ·rw [if_neg (fun hh=>aDu (k:=6) h2 hh.2.1)]
   exact aAc (by kernel_rfl)
  refine gP (aAp aBM c) (gP (aAC _ _ .i64 (c.size:Int) 6) (aA0 (b:=decide ((c.size:Int) > 6)) (by kernel_rfl) (fun h3=>?_) (fun h3=>?_)))
  ·rw [if_neg (fun hh=>aDu (k:=6) h3 hh.2.2.1)]
   exact aAc (by kernel_rfl)
  refine gP (aAp aBM d) (gP (aAC _ _ .i64 (d.size:Int) 6) (aA0 (b:=decide ((d.size:Int) > 6)) (by kernel_rfl) (fun h4=>?_) (fun h4=>?_)))
  ·rw [if_neg (fun hh=>aDu (k:=6) h4 hh.2.2.2.1)]
   exact aAc (by kernel_rfl)
  refine gP (aAp aBM e) (gP (aAC _ _ .i64 (e.size:Int) 6) (aA0 (b:=decide ((e.size:Int) > 6)) (by kernel_rfl) (fun h5=>?_) (fun h5=>?_)))
  ·rw [if_neg (fun hh=>aDu (k:=6) h5 hh.2.2.2.2.1)]
   exact aAc (by kernel_rfl)
  refine gP (aAp aBM f) (gP (aAC _ _ .i64 (f.size:Int) 6) (aA0 (b:=decide ((f.size:Int) > 6)) (by kernel_rfl) (fun h6=>?_) (fun h6=>?_)))
  ·rw [if_neg (fun hh=>aDu (k:=6) h6 hh.2.2.2.2.2)]
   exact aAc (by kernel_rfl)
  ·rw [if_pos ⟨aDt (k:=6) h1,aDt (k:=6) h2,aDt (k:=6) h3,aDt (k:=6) h4,aDt (k:=6) h5,aDt (k:=6) h6⟩]
   exact aAc (by kernel_rfl)
 ·cases h
theorem aIy (n1:Bool) (a1:ByteArray) (n2:Bool) (a2:ByteArray) (n3:Bool) (a3:ByteArray) (n4:Bool) (a4:ByteArray):aCa [b_ n1,s_ a1,b_ n2,s_ a2,b_ n3,s_ a3,b_ n4,s_ a4]=some [i_ 1]∨aCa [b_ n1,s_ a1,b_ n2,s_ a2,b_ n3,s_ a3,b_ n4,s_ a4]=some [i_ 0]∧PI 6 (Z n1 a1,Z n2 a2,Z n3 a3,Z n4 a4) [b_ n1,s_ a1,b_ n2,s_ a2,b_ n3,s_ a3,b_ n4,s_ a4]:=by
 unfold aCa
 dsimp only
 split
 ·rename_i h
  exact .inr ⟨rfl,PI.mk (.raw n1 h.1) (.raw n2 h.2.1) (.raw n3 h.2.2.1) (.raw n4 h.2.2.2)⟩
 ·exact .inl rfl
theorem aJO (n:Bool) (a b:ByteArray) (m:Bool) (c d:ByteArray) (l:Bool) (e f:ByteArray):aCB [b_ n,s_ a,s_ b,b_ m,s_ c,s_ d,b_ l,s_ e,s_ f]=some [i_ 1]∨aCB [b_ n,s_ a,s_ b,b_ m,s_ c,s_ d,b_ l,s_ e,s_ f]=some [i_ 0]∧RI 6 (qv n a b) [b_ n,s_ a,s_ b]∧RI 6 (qv m c d) [b_ m,s_ c,s_ d]∧RI 6 (qv l e f) [b_ l,s_ e,s_ f]:=by
 unfold aCB
 dsimp only
 split
 ·rename_i h
  exact .inr ⟨rfl,.raw n h.1 h.2.1,.raw m h.2.2.1 h.2.2.2.1,.raw l h.2.2.2.2.1 h.2.2.2.2.2⟩
 ·exact .inl rfl
def okD:List Kc→List D→Bool
 | [],[]=>true
 | k::ks,.v x::ds=>k.ok x && okD ks ds
 | _,_=>false
def F_true (ks:List Kc):Fct:=fun ds=>if okD ks ds=true then some [b_ true] else none
theorem aNf:∀ {ks:List Kc} {ds:List D},okD ks ds=true→∃ vs,oks ks vs=true∧ds=vs.map D.v
 | [],[],_=>⟨[],rfl,rfl⟩
 | [],_::_,h=>by cases h
 | _::_,[],h=>by cases h
 | _::_,.l _ _::_,h=>by cases h
 | k::ks,.v x::ds,h=>by
  have h:(k.ok x && okD ks ds)=true:=h
  rw [Bool.and_eq_true] at h
  obtain ⟨vs,h1,rfl⟩:=aNf h.2
  refine ⟨x::vs,?_,rfl⟩
  show (k.ok x && oks ks vs)=true
  rw [h.1,h1]
  rfl
theorem aMb:∀ {ks:List Kc} {vs:List Value},oks ks vs=true→okD ks (vs.map D.v)=true∧vs.all aAL=true
 | [],[],_=>⟨rfl,rfl⟩
 | [],_::_,h=>by cases h
 | _::_,[],h=>by cases h
 | k::ks,x::vs,h=>by
  have h:(k.ok x && oks ks vs)=true:=h
  rw [Bool.and_eq_true] at h
  obtain ⟨h1,h2⟩:=aMb h.2
  refine ⟨?_,?_⟩
  ·show (k.ok x && okD ks (vs.map D.v))=true
   rw [h.1,h1]
   rfl
  ·rw [List.all_cons,h2,Bool.and_true]
   revert h
   cases k<;>cases x<;>simp [Kc.ok,aAL]
theorem F_true.inv {ks:List Kc} {ds rs:List D} (h:F_true ks ds=some rs):∃ vs,oks ks vs=true∧ds=vs.map D.v∧rs=[b_ true]:=by
 unfold F_true at h
 split at h
 ·obtain ⟨vs,h1,h2⟩:=aNf ‹_›
  exact ⟨vs,h1,h2,(Option.some.inj h).symm⟩
 ·cases h
theorem F_true.eq {ks:List Kc} {vs:List Value} (h:oks ks vs=true):F_true ks (vs.map D.v)=some [b_ true]:=if_pos (aMb h).1
theorem calls_flat {P:Program} {G:World→Prop} {f:FuncId} {ps:List H1} {ks:List Kc} {cs:List Value} (hg:Sx.Good P G f ⟨ps,.v1 .one⟩ (F_true ks)) (hk:oks ks cs=true) (hl:ks.length=aDw ps) {w:World} (hw:G w) :
  Calls P f (blds ps cs).toArray w fun e w'=>e=.returned (.bool true)∧Below w.heap.size w w':=aNY hg (F_true.eq hk) (aMb hk).2 ((aBp hk).symm.trans hl) hw
theorem aJf {ks:List Kc} {vs:List Value} (h:oks (.b::ks) vs=true):∃ b r,vs=.bool b::r∧oks ks r=true:=by
 cases vs with
 | nil=>cases h
 | cons v r =>
  have h:(Kc.ok .b v && oks ks r)=true:=h
  rw [Bool.and_eq_true] at h
  cases v<;>first | exact ⟨_,_,rfl,h.2⟩ | (exact absurd h.1 (by decide)) | (cases h.1;done)
theorem aHN {ks:List Kc} {vs:List Value} (h:oks (.s::ks) vs=true):∃ b r,vs=.string b::r∧oks ks r=true:=by
 cases vs with
 | nil=>cases h
 | cons v r =>
  have h:(Kc.ok .s v && oks ks r)=true:=h
  rw [Bool.and_eq_true] at h
  cases v<;>first | exact ⟨_,_,rfl,h.2⟩ | (cases h.1;done)
theorem aNg {vs:List Value} (h:oks [] vs=true):vs=[]:=by
 cases vs with
 | nil=>rfl
 | cons v r=>cases h
abbrev kR:List Kc:=[.b,.s,.s]
abbrev kP:List Kc:=[.b,.s,.b,.s,.b,.s,.b,.s]
abbrev kV:List Kc:=[.b,.s,.s,.b,.s,.s,.b,.s,.s]
theorem aOc {ks:List Kc} {vs:List Value} (h:oks (kP++ks) vs=true):∃ n1 a1 n2 a2 n3 a3 n4 a4 r,vs=[.bool n1,.string a1,.bool n2,.string a2,.bool n3,.string a3,.bool n4,.string a4]++r∧oks ks r=true:=by
 obtain ⟨n1,_,rfl,h1⟩:=aJf h
 obtain ⟨a1,_,rfl,h2⟩:=aHN h1
 obtain ⟨n2,_,rfl,h3⟩:=aJf h2
 obtain ⟨a2,_,rfl,h4⟩:=aHN h3
 obtain ⟨n3,_,rfl,h5⟩:=aJf h4
 obtain ⟨a3,_,rfl,h6⟩:=aHN h5
 obtain ⟨n4,_,rfl,h7⟩:=aJf h6
 obtain ⟨a4,r,rfl,h8⟩:=aHN h7
 exact ⟨n1,a1,n2,a2,n3,a3,n4,a4,r,rfl,h8⟩
theorem aKP {ks:List Kc} {vs:List Value} (h:oks (kR++ks) vs=true):∃ n a b r,vs=[.bool n,.string a,.string b]++r∧oks ks r=true:=by
 obtain ⟨n1,_,rfl,h1⟩:=aJf h
 obtain ⟨a1,_,rfl,h2⟩:=aHN h1
 obtain ⟨a2,r,rfl,h3⟩:=aHN h2
 exact ⟨n1,a1,a2,r,rfl,h3⟩
theorem aRo {ks:List Kc} {vs:List Value} (h:oks (kV++ks) vs=true):∃ n a b m c d l e f r,vs=[.bool n,.string a,.string b,.bool m,.string c,.string d,.bool l,.string e,.string f]++r∧oks ks r=true:=by
 obtain ⟨n,a,b,_,rfl,h1⟩:=aKP (ks:=kR++(kR++ks)) h
 obtain ⟨m,c,d,_,rfl,h2⟩:=aKP h1
 obtain ⟨l,e,f,r,rfl,h3⟩:=aKP h2
 exact ⟨n,a,b,m,c,d,l,e,f,r,rfl,h3⟩
theorem aQs:pt (Rat.divInt 1 2,Rat.divInt 1 3,Rat.divInt 0 1)=(3,2,0,6):=by
 have e1:Rat.divInt 1 2=Rat.divInt 3 6:=(Rat.divInt_eq_divInt_iff (by decide) (by decide)).2 (by decide)
 have e2:Rat.divInt 1 3=Rat.divInt 2 6:=(Rat.divInt_eq_divInt_iff (by decide) (by decide)).2 (by decide)
 have e3:Rat.divInt 0 1=Rat.divInt 0 6:=(Rat.divInt_eq_divInt_iff (by decide) (by decide)).2 (by decide)
 rw [e1,e2,e3]
 have:=aLR (x:=3) (y:=2) (z:=0) (w:=6) (by decide)
 exact this.symm.trans (by decide)
theorem aT1:qv false (⟨#[]⟩:ByteArray) (⟨#[]⟩:ByteArray)=Rat.divInt 0 1:=by
 have h0:V (⟨#[]⟩:ByteArray)=0:=by rw [← aCg,V_N]
 unfold qv dn
 rw [if_pos h0]
 congr 1
theorem aQt:aAw (Rat.divInt 1 2)=(⟨#[49,47,50]⟩:ByteArray):=by
 have h1:(Rat.divInt 1 2).num=1:=by rw [Rat.num_divInt];rfl
 have h2:(Rat.divInt 1 2).den=2:=by rw [Rat.den_divInt];rfl
 unfold aAw
 rw [h1,h2,if_neg (by decide)]
 have t5:aBz 1=(⟨#[49]⟩:ByteArray):=by
  unfold aBz text
  rw [if_neg (by decide),show Int.natAbs 1=1 from rfl,Lib.decDigits_one (by decide)]
  rfl
 have t6:aBz ((2:Nat):Int)=(⟨#[50]⟩:ByteArray):=by
  unfold aBz text
  rw [if_neg (by decide),show Int.natAbs ((2:Nat):Int)=2 from rfl,Lib.decDigits_one (by decide)]
  rfl
 rw [t5,t6]
 rfl
theorem aQu:aAw (Rat.divInt 1 1)=(⟨#[49]⟩:ByteArray):=by
 have h1:(Rat.divInt 1 1).num=1:=by rw [Rat.num_divInt];rfl
 have h2:(Rat.divInt 1 1).den=1:=by rw [Rat.den_divInt];rfl
 unfold aAw
 rw [h1,h2,if_pos rfl]
 unfold aBz text
 rw [if_neg (by decide),show Int.natAbs 1=1 from rfl,Lib.decDigits_one (by decide)]
 rfl
theorem aQv:aAw (Rat.divInt 3 2)=(⟨#[51,47,50]⟩:ByteArray):=by
 have h1:(Rat.divInt 3 2).num=3:=by rw [Rat.num_divInt];rfl
 have h2:(Rat.divInt 3 2).den=2:=by rw [Rat.den_divInt];rfl
 unfold aAw
 rw [h1,h2,if_neg (by decide)]
 have t5:aBz 3=(⟨#[51]⟩:ByteArray):=by
  unfold aBz text
  rw [if_neg (by decide),show Int.natAbs 3=3 from rfl,Lib.decDigits_one (by decide)]
  rfl
 have t6:aBz ((2:Nat):Int)=(⟨#[50]⟩:ByteArray):=by
  unfold aBz text
  rw [if_neg (by decide),show Int.natAbs ((2:Nat):Int)=2 from rfl,Lib.decDigits_one (by decide)]
  rfl
 rw [t5,t6]
 rfl
theorem aPu:vmid (Rat.divInt 0 1,Rat.divInt 0 1,Rat.divInt 0 1) (Rat.divInt 1 1,Rat.divInt 2 1,Rat.divInt 3 1) (Rat.divInt 1 2)=(Rat.divInt 1 2,Rat.divInt 1 1,Rat.divInt 3 2):=by
 have e0:Rat.divInt 0 1=0:=Rat.zero_divInt 1
 have e (q:Rat):0+q*1=q:=by grind
 unfold vmid
 dsimp only
 rw [e0]
 have z (q:Rat):0+Rat.divInt 1 2*(q - 0)=Rat.divInt 1 2*q:=by grind
 rw [z,z,z,Rat.divInt_mul_divInt,Rat.divInt_mul_divInt,Rat.divInt_mul_divInt]
 have e1:Rat.divInt (1*1) (2*1)=Rat.divInt 1 2:=rfl
 have e2:Rat.divInt (1*2) (2*1)=Rat.divInt 1 1:=(Rat.divInt_eq_divInt_iff (by decide) (by decide)).2 (by decide)
 have e3:Rat.divInt (1*3) (2*1)=Rat.divInt 3 2:=rfl
 rw [e1,e2,e3]
theorem aOd:aCb (Rat.divInt 1 2,Rat.divInt 1 1,Rat.divInt 3 2)=(⟨#[40,49,47,50,44,32,49,44,32,51,47,50,41]⟩:ByteArray):=by
 unfold aCb
 dsimp only
 rw [aQt,aQu,aQv]
 rfl
theorem aH4 {n:Nat} {a:ByteArray} (h1:V a=n) (h2:N (V a)=a):enc (n:Int)=[b_ false,s_ a]:=by
 show [b_ (I (n:Int)).1,s_ (I (n:Int)).2]=_
 rw [aGb,← h1,h2]
theorem aSo:enc 0=[b_ false,s_ (⟨#[]⟩:ByteArray)]:=by
 show [b_ (I (0:Int)).1,s_ (I (0:Int)).2]=_
 rw [show I (0:Int)=(false,N 0) from aGb 0,aCg]
theorem aMc {x y:Nat} {a b:ByteArray} (ha:V a=x) (hb:V b=y) (hy:y≠0) (sa:a.size≤1) (sb:b.size≤1):RI 1 (Rat.divInt (x:Int) (y:Int)) [b_ false,s_ a,s_ b]:=by
 refine ⟨false,_,_,rfl,sa,sb,?_⟩
 unfold qv dn
 have e:Z false a=(x:Int):=by
  show (V a:Int)=_
  rw [ha]
 rw [e,hb,if_neg hy]
theorem aMd {x:Nat} {a:ByteArray} (ha:V a=x) (sa:a.size≤1):RI 1 (Rat.divInt (x:Int) 1) [b_ false,s_ a,s_ (⟨#[]⟩:ByteArray)]:=by
 refine ⟨false,_,_,rfl,sa,Nat.zero_le 1,?_⟩
 unfold qv dn
 have e:Z false a=(x:Int):=by
  show (V a:Int)=_
  rw [ha]
 have h0:V (⟨#[]⟩:ByteArray)=0:=by rw [← aCg,V_N]
 rw [e,if_pos h0]
def PA (s:Nat) (v:V3) (ds:List D):Prop:=∃ z,PI s z ds∧v=pv4 z
theorem PA.raw {s:Nat} {z:Z4} {ds:List D} (h:PI s z ds):PA s (pv4 z) ds:=⟨z,h,rfl⟩
theorem PA.can {s:Nat} {v:V3} (h:Sv s v):PA (3*s) v (aAB v):=⟨pt v,PI.can (S4.pt h),(aS3 v).symm⟩
theorem PA.sv {s:Nat} (hs:1≤s) {v:V3} {ds:List D} (h:PA s v ds):Sv s v:=by
 obtain ⟨z,h1,rfl⟩:=h
 exact Sv.pv4 hs h1.s4
theorem aMe {s:Nat} {v:V3} {ds:List D} (h:PA s v ds) (hs:s≤2500):aAS ds=some (aAB v):=by
 obtain ⟨z,h1,rfl⟩:=h
 exact Fo.eq (aA5 2500) (h1.le hs)
theorem aJg {s:Nat} {v:V3} {ds:List D} (h:PA s v ds) (hs:s≤1500):aAm ds=some (aCi v):=by
 obtain ⟨z,h1,rfl⟩:=h
 exact Fo.eq (aA5 1500) (h1.le hs)
theorem aNh {s:Nat} {v:V3} {ds:List D} (h:PA s v ds) (hs:s≤600):aDo ds=some [s_ (aCb v)]:=by
 obtain ⟨z,h1,rfl⟩:=h
 exact Fo.eq (aA5 600) (h1.le hs)
theorem aGC {s:Nat} {v:V3} {ds:List D} (h:VI s v ds) (hs:s≤600):aAN ds=some (aAB v):=Fo.eq (aDT 600) (h.le hs)
theorem aSp {s t:Nat} {u v:V3} {a b:List D} (h:PA s u a) (g:PA t v b) (hs:s≤200) (ht:t≤200):aEp (a++b)=some [i_ (lex u v)]:=by
 obtain ⟨y,h1,rfl⟩:=h
 obtain ⟨z,g1,rfl⟩:=g
 exact Fo.eq (v:=(y,z)) (aHY 200) (And2.mk' (h1.le hs) (g1.le ht))
theorem aSq {s t:Nat} {u v:V3} {a b:List D} (h:PA s u a) (g:VI t v b) (hs:s≤200) (ht:t≤200):aCQ (a++b)=some (aAB (vadd u v)):=by
 obtain ⟨y,h1,rfl⟩:=h
 exact Fo.eq (v:=(y,v)) (aFX 200) (And2.mk' (h1.le hs) (g.le ht))
theorem aMf {s t r:Nat} {u v:V3} {q:Rat} {a b c:List D} (h:PA s u a) (g:PA t v b) (k:RI r q c) (hs:s≤66) (ht:t≤66) (hr:r≤66):aCC (a++(b++c))=some (aAB (vmid u v q)):=by
 obtain ⟨y,h1,rfl⟩:=h
 obtain ⟨z,g1,rfl⟩:=g
 exact Fo.eq (v:=(y,z,q)) (aGX 66) (And2.mk' (h1.le hs) (And2.mk' (g1.le ht) (k.le hr)))
theorem Sv.vadd {s t:Nat} {u v:V3} (h:Sv s u) (g:Sv t v):Sv (s+t+1) (vadd u v):=⟨Sq.add h.1 g.1,Sq.add h.2.1 g.2.1,Sq.add h.2.2 g.2.2⟩
theorem Sv.vmid {s t r:Nat} {u v:V3} {q:Rat} (h:Sv s u) (g:Sv t v) (k:Sq r q):Sv (s+(r+(t+s+1))+1) (vmid u v q):=⟨Sq.add h.1 (Sq.mul (by omega) k (aDR g.1 h.1)),Sq.add h.2.1 (Sq.mul (by omega) k (aDR g.2.1 h.2.1)),Sq.add h.2.2 (Sq.mul (by omega) k (aDR g.2.2 h.2.2))⟩
def aEP:Fct
 | []=>some [b_ true]
 | _=>none
theorem awk:aEP []=some [b_ true]:=rfl
end Go.Proofs.YtjefbecmeobegaaGreatDoor.Sp
