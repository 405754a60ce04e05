/- MERGED by merge.py: RatZ PtZ PlZ -/
import Derived.Test.YtjefbecmeobegaaGreatDoorIntZ
namespace Go.Proofs.YtjefbecmeobegaaGreatDoor.RatZ
open Go Go.RowKit NatA NatB NatC NatD NatI NatJ IntZ
def Sz (s:Nat) (z:Int):Prop:=(I z).2.size<=s
theorem Sz.le {s t:Nat} {z:Int} (h:Sz s z) (hs:s<=t):Sz t z:=Nat.le_trans h hs
theorem Sz.of {s:Nat} {n:Bool} {a:ByteArray} (h:a.size<=s):Sz s (Z n a):=aUj n a h
theorem Sz.neg {s:Nat} {z:Int} (h:Sz s z):Sz s (-z):=by unfold Sz I at *;rw [Int.natAbs_neg];exact h
theorem Sz.add {s t:Nat} {x y:Int} (hx:Sz s x) (hy:Sz t y):Sz (s+t+1) (x+y):=aMx (s:=s+t) (hx.le kJ) (hy.le kJ)
theorem Sz.sub {s t:Nat} {x y:Int} (hx:Sz s x) (hy:Sz t y):Sz (s+t+1) (x - y):=aRc (s:=s+t) (hx.le kJ) (hy.le kJ)
theorem Sz.mul {s t:Nat} {x y:Int} (hx:Sz s x) (hy:Sz t y):Sz (s+t) (x*y):=aRd hx hy
theorem Sz.abs {s:Nat} {x y:Int} (h:Sz s x) (hy:y.natAbs<=x.natAbs):Sz s y:=aA9 (Nat.lt_of_le_of_lt hy (aAW h))
theorem Sz.i64 {n:Int} (h0:-9223372036854775808<=n) (h1:n<=9223372036854775807):Sz 8 n:=aA9 (by
 have:(256:Nat) ^ 8=18446744073709551616:=by decide
 omega)
theorem Sz.one:Sz 1 1:=aA9 kQ
def dn (b:ByteArray):Int:=if V b=0 then 1 else (V b:Int)
theorem aDp (b:ByteArray):0 < dn b:=by
 unfold dn
 split<;>omega
theorem Sz.dn {s:Nat} {b:ByteArray} (h:b.size<=s) (hs:1<=s):Sz s (dn b):=by
 unfold RatZ.dn
 split
 ·exact Sz.one.le hs
 ·exact Sz.of (n:=false) h
def qv (n:Bool) (a b:ByteArray):Rat:=Rat.divInt (Z n a) (dn b)
def dnc (d:Nat):ByteArray:=if d=1 then (⟨#[]⟩:ByteArray) else N d
theorem aPP {d:Nat} (h:d≠0):dn (dnc d)=d:=by
 unfold dn dnc
 by_cases h1:d=1
 ·rw [if_pos h1,<- aCn,V_N,if_pos rfl,h1]
  rfl
 ·rw [if_neg h1,V_N,if_neg h]
theorem aHG (q:Rat):qv (I q.num).1 (I q.num).2 (dnc q.den)=q:=by
 unfold qv
 rw [Z_I,aPP q.den_nz]
 exact Rat.num_divInt_den q
def Sq (s:Nat) (q:Rat):Prop:=Sz s q.num/\Sz s q.den
theorem Sq.le {s t:Nat} {q:Rat} (h:Sq s q) (hs:s<=t):Sq t q:=⟨h.1.le hs,h.2.le hs⟩
theorem Sq.dnc {s:Nat} {q:Rat} (h:Sq s q):(dnc q.den).size<=s:=by
 unfold RatZ.dnc
 split
 ·exact Nat.zero_le _
 ·exact h.2
theorem aF4 {x y:Nat} (h:y≠0):Nat.gcd x y<=y:=Nat.le_of_dvd kJ (Nat.gcd_dvd_right x y)
theorem Sq.divInt {s:Nat} (hs:1<=s) {x y:Int} (hx:Sz s x) (hy:Sz s y):Sq s (Rat.divInt x y):=by
 constructor
 ·refine hx.abs ?_
  rw [Rat.num_divInt]
  refine Nat.le_trans (Int.natAbs_ediv_le_natAbs _ _) ?_
  rw [Int.natAbs_mul,Int.natAbs_sign]
  split
  ·omega
  ·omega
 ·rw [Rat.den_divInt]
  by_cases h:y=0
  ·rw [if_pos h]
   exact Sz.one.le hs
  ·rw [if_neg h]
   refine hy.abs ?_
   rw [Int.natAbs_natCast]
   exact Nat.div_le_self _ _
theorem Sq.qv {s:Nat} (hs:1<=s) {n:Bool} {a b:ByteArray} (ha:a.size<=s) (hb:b.size<=s):Sq s (qv n a b):=Sq.divInt hs (.of ha) (.dn hb hs)
theorem aBo (q:Rat):(q.den:Int)≠0:=by
 have:=q.den_nz
 omega
theorem Sq.add {s t:Nat} {x y:Rat} (hx:Sq s x) (hy:Sq t y):Sq (s+t+1) (x+y):=by
 rw [<- Rat.num_divInt_den x,<- Rat.num_divInt_den y,Rat.divInt_add_divInt _ _ (aBo x) (aBo y)]
 exact Sq.divInt kJ (aMx (hx.1.mul hy.2) ((hy.1.mul hx.2).le kJ)) ((hx.2.mul hy.2).le kJ)
theorem Sq.neg {s:Nat} {x:Rat} (hx:Sq s x):Sq s (-x):=⟨hx.1.neg,hx.2⟩
theorem Sq.mul {s t:Nat} (hs:1<=s+t) {x y:Rat} (hx:Sq s x) (hy:Sq t y):Sq (s+t) (x*y):=by
 rw [<- Rat.num_divInt_den x,<- Rat.num_divInt_den y,Rat.divInt_mul_divInt]
 exact Sq.divInt hs (hx.1.mul hy.1) (hx.2.mul hy.2)
theorem aTl (m:Bool) {q:Nat} (h:q≠0):(sg m q).sign=if m=true then -1 else 1:=by
 unfold sg
 split
 ·rw [Int.sign_neg,Int.sign_natCast_of_ne_zero h]
 ·exact Int.sign_natCast_of_ne_zero h
theorem aUg (c:Bool) {p g:Nat} (hg:g ∣ p) (h0:g≠0):sg c p / (g:Int)=sg c (p / g):=by
 obtain ⟨k,rfl⟩:=hg
 rw [Nat.mul_div_cancel_left _ kJ]
 unfold sg
 split
 ·rw [Int.natCast_mul,<- Int.mul_neg]
  exact Int.mul_ediv_cancel_left _ kJ
 ·rw [Int.natCast_mul]
  exact Int.mul_ediv_cancel_left _ kJ
theorem aN6 (a b:Int):Int.gcd a b=Nat.gcd a.natAbs b.natAbs:=rfl
theorem aTm (n m:Bool) {p q:Nat} (hq:q≠0):(Rat.divInt (sg n p) (sg m q)).num=sg (n != m) (p / Nat.gcd p q):=by
 have hg:Nat.gcd p q≠0:=λ h=>hq (Nat.gcd_eq_zero_iff.1 h).2
 rw [Rat.num_divInt,aTl m hq,aN6,aCo,aCo,Nat.gcd_comm q p,<- aUg _ (Nat.gcd_dvd_left p q) hg]
 congr 1
 cases n<;>cases m<;>simp [sg]
theorem aTn (n m:Bool) {p q:Nat} (hq:q≠0):(Rat.divInt (sg n p) (sg m q)).den=q / Nat.gcd p q:=by
 rw [Rat.den_divInt,if_neg (λ h=>hq (by have:=congrArg Int.natAbs h;rw [aCo] at this;exact this)),aN6,aCo,aCo,Nat.gcd_comm q p]
theorem aTo {g:Nat} (h:g≠0) (k:Int):sgn ((g:Int)*k)=sgn k:=by
 have hg:0 < (g:Int):=by omega
 unfold sgn
 rcases Int.lt_trichotomy k 0 with hk | hk | hk
 ·rw [if_pos hk,if_pos (Int.mul_neg_of_pos_of_neg hg hk)]
 ·rw [hk,Int.mul_zero]
 ·have:=Int.mul_pos hg hk
  rw [if_neg kJ,if_neg kJ,if_neg kJ,if_neg kJ]
theorem aPQ {n d:Int} (hd:0 < d):∃ g:Nat,g≠0/\n=g*(Rat.divInt n d).num/\d=g*((Rat.divInt n d).den:Int):=by
 have hg:Int.gcd d n≠0:=λ h=>by have:=(Int.gcd_eq_zero_iff.1 h).1;omega
 refine ⟨Int.gcd d n,hg,?_,?_⟩
 ·rw [Rat.num_divInt,Int.sign_eq_one_of_pos hd,Int.one_mul]
  exact (Int.mul_ediv_cancel' (Int.gcd_dvd_right _ _)).symm
 ·rw [Rat.den_divInt,if_neg kJ,Int.natCast_ediv,Int.natAbs_of_nonneg kJ]
  exact (Int.mul_ediv_cancel' (Int.gcd_dvd_left _ _)).symm
theorem aGl {n d:Int} (hd:0 < d):sgn (Rat.divInt n d).num=sgn n:=by
 obtain ⟨g,hg,h1,_⟩:=aPQ (n:=n) hd
 conv=>rhs;rw [h1]
 exact (aTo hg _).symm
theorem aUh (n m:Bool) (a b c d:ByteArray):sgn (Z n a*dn d - Z m c*dn b)=sgn (qv n a b - qv m c d).num:=by
 unfold qv
 have h1:=aDp b
 have h2:=aDp d
 rw [Rat.divInt_sub_divInt _ _ kJ kJ]
 exact (aGl (Int.mul_pos h1 h2)).symm
theorem aGO (a b c d:Int):Rat.divInt a b / Rat.divInt c d=Rat.divInt (a*d) (b*c):=by
 rw [Rat.div_def,Rat.inv_divInt,Rat.divInt_mul_divInt]
end Go.Proofs.YtjefbecmeobegaaGreatDoor.RatZ
namespace Go.Proofs.YtjefbecmeobegaaGreatDoor.PtZ
open Go Go.RowKit NatA NatB NatC NatD NatI NatJ IntZ RatZ
abbrev V3:=Rat × Rat × Rat
abbrev Z4:=Int × Int × Int × Int
def g4 (x y z w:Int):Nat:=Nat.gcd (Nat.gcd (Nat.gcd x.natAbs y.natAbs) z.natAbs) w.natAbs
def cd (w:Int) (g:Nat) (k:Int):Int:=if w < 0 then -(k / (g:Int)) else k / (g:Int)
def nrm (p:Z4):Z4:=
 let g:=g4 p.1 p.2.1 p.2.2.1 p.2.2.2
 (cd p.2.2.2 g p.1,cd p.2.2.2 g p.2.1,cd p.2.2.2 g p.2.2.1,cd p.2.2.2 g p.2.2.2)
def co (p:Z4):V3:=(Rat.divInt p.1 p.2.2.2,Rat.divInt p.2.1 p.2.2.2,Rat.divInt p.2.2.1 p.2.2.2)
theorem aEE (x y z w:Int):(g4 x y z w:Int) ∣ x/\(g4 x y z w:Int) ∣ y/\(g4 x y z w:Int) ∣ z/\(g4 x y z w:Int) ∣ w:=by
 have h1:g4 x y z w ∣ Nat.gcd (Nat.gcd x.natAbs y.natAbs) z.natAbs:=Nat.gcd_dvd_left _ _
 have h2:=Nat.dvd_trans h1 (Nat.gcd_dvd_left _ _)
 exact ⟨Int.ofNat_dvd_left.2 (Nat.dvd_trans h2 (Nat.gcd_dvd_left _ _)),Int.ofNat_dvd_left.2 (Nat.dvd_trans h2 (Nat.gcd_dvd_right _ _)),Int.ofNat_dvd_left.2 (Nat.dvd_trans h1 (Nat.gcd_dvd_right _ _)),Int.ofNat_dvd_left.2 (Nat.gcd_dvd_right _ _)⟩
theorem aGn {x y z w:Int} (h:w≠0):0 < g4 x y z w:=Nat.gcd_pos_of_pos_right _ kJ
theorem aPR (k x y z w:Int):g4 (k*x) (k*y) (k*z) (k*w)=k.natAbs*g4 x y z w:=by
 unfold g4
 rw [Int.natAbs_mul,Int.natAbs_mul,Int.natAbs_mul,Int.natAbs_mul,Nat.gcd_mul_left,Nat.gcd_mul_left,Nat.gcd_mul_left]
theorem aJ0 {k w x:Int} {g:Nat} (hk:k≠0) (hg:(g:Int) ∣ x):cd (k*w) (k.natAbs*g) (k*x)=cd w g x\/w=0:=by
 by_cases h0:w=0
 ·exact .inr h0
 left
 unfold cd
 rcases Int.lt_or_gt_of_ne hk with h | h
 ·have e:((k.natAbs*g:Nat):Int)=(-k)*(g:Int):=by
   rw [Int.natCast_mul]
   congr 1
   omega
  rw [e,show k*x=(-k)*(-x) by rw [Int.neg_mul_neg],Int.mul_ediv_mul_of_pos _ _ kJ,Int.neg_ediv_of_dvd hg]
  rcases Int.lt_or_gt_of_ne h0 with hw | hw
  ·rw [if_neg (by have:=Int.mul_pos_of_neg_of_neg h hw;omega),if_pos hw]
  ·rw [if_pos (Int.mul_neg_of_neg_of_pos h hw),if_neg kJ,Int.neg_neg]
 ·have e:((k.natAbs*g:Nat):Int)=k*(g:Int):=by
   rw [Int.natCast_mul]
   congr 1
   omega
  rw [e,Int.mul_ediv_mul_of_pos _ _ h]
  rcases Int.lt_or_gt_of_ne h0 with hw | hw
  ·rw [if_pos (Int.mul_neg_of_pos_of_neg h hw),if_pos hw]
  ·rw [if_neg (by have:=Int.mul_pos h hw;omega),if_neg kJ]
theorem aN9 {k x y z w:Int} (hk:k≠0) (hw:w≠0):nrm (k*x,k*y,k*z,k*w)=nrm (x,y,z,w):=by
 obtain ⟨d1,d2,d3,d4⟩:=aEE x y z w
 have h1:=(aJ0 (w:=w) hk d1).resolve_right hw
 have h2:=(aJ0 (w:=w) hk d2).resolve_right hw
 have h3:=(aJ0 (w:=w) hk d3).resolve_right hw
 have h4:=(aJ0 (w:=w) hk d4).resolve_right hw
 unfold nrm
 dsimp only
 rw [aPR,h1,h2,h3,h4]
def hc (v:V3):Z4:=(v.1.num*((v.2.1.den:Int)*v.2.2.den),v.2.1.num*((v.1.den:Int)*v.2.2.den),v.2.2.num*((v.1.den:Int)*v.2.1.den),(v.1.den:Int)*v.2.1.den*v.2.2.den)
def pt (v:V3):Z4:=nrm (hc v)
theorem aGP {q:Rat} {x w:Int} (h:q=Rat.divInt x w) (hw:w≠0):q.num*w=x*q.den:=by
 have:=(Rat.divInt_eq_divInt_iff (aBo q) hw).1 ((Rat.num_divInt_den q).trans h)
 exact this
theorem aPS {x y z w:Int} (hw:w≠0):nrm (x,y,z,w)=pt (co (x,y,z,w)):=by
 obtain ⟨a,ha⟩:∃ a,a=Rat.divInt x w:=⟨_,rfl⟩
 obtain ⟨b,hb⟩:∃ a,a=Rat.divInt y w:=⟨_,rfl⟩
 obtain ⟨c,hc'⟩:∃ a,a=Rat.divInt z w:=⟨_,rfl⟩
 have e:co (x,y,z,w)=(a,b,c):=by rw [ha,hb,hc'];rfl
 have h1:=aGP ha hw
 have h2:=aGP hb hw
 have h3:=aGP hc' hw
 have na:=aBo a
 have nb:=aBo b
 have nc:=aBo c
 rw [e]
 show _=nrm (a.num*((b.den:Int)*c.den),b.num*((a.den:Int)*c.den),c.num*((a.den:Int)*b.den),(a.den:Int)*b.den*c.den)
 have hD:(a.den:Int)*b.den*c.den≠0:=Int.mul_ne_zero (Int.mul_ne_zero na nb) nc
 rw [<- aN9 (k:=(a.den:Int)*b.den*c.den) hD hw,<- aN9 (k:=w) hw hD]
 generalize (a.den:Int)=p at *
 generalize (b.den:Int)=q at *
 generalize (c.den:Int)=r at *
 have e1:p*q*r*x=w*(a.num*(q*r)):=by
  have:p*q*r*x=(x*p)*(q*r):=by grind
  rw [this,<- h1]
  grind
 have e2:p*q*r*y=w*(b.num*(p*r)):=by
  have:p*q*r*y=(y*q)*(p*r):=by grind
  rw [this,<- h2]
  grind
 have e3:p*q*r*z=w*(c.num*(p*q)):=by
  have:p*q*r*z=(z*r)*(p*q):=by grind
  rw [this,<- h3]
  grind
 rw [e1,e2,e3,Int.mul_comm (p*q*r) w]
theorem aPT (v:V3):0 < (hc v).2.2.2:=by
 have h1:=v.1.den_nz
 have h2:=v.2.1.den_nz
 have h3:=v.2.2.den_nz
 exact Int.mul_pos (Int.mul_pos kJ kJ) kJ
theorem aMz {g w:Int} (hg:0 < g) (hw:0 < w) (h:g ∣ w):0 < w / g:=by
 obtain ⟨k,rfl⟩:=h
 rw [Int.mul_ediv_cancel_left _ kJ]
 exact Int.pos_of_mul_pos_right hw hg
theorem aEO {g x w:Int} (hg:0 < g) (hw:0 < w) (h1:g ∣ x) (h2:g ∣ w):Rat.divInt (x / g) (w / g)=Rat.divInt x w:=by
 have hp:=aMz hg hw h2
 refine (Rat.divInt_eq_divInt_iff kJ kJ).2 ?_
 obtain ⟨k,rfl⟩:=h1
 obtain ⟨l,rfl⟩:=h2
 rw [Int.mul_ediv_cancel_left _ kJ,Int.mul_ediv_cancel_left _ kJ]
 grind
theorem aD5 (v:V3):0 < (pt v).2.2.2:=by
 have h:=aPT v
 unfold pt nrm cd
 dsimp only
 rw [if_neg kJ]
 exact aMz (by have:=aGn (x:=(hc v).1) (y:=(hc v).2.1) (z:=(hc v).2.2.1) (w:=(hc v).2.2.2) kJ;omega) h (aEE _ _ _ _).2.2.2
theorem aOC (v:V3):co (hc v)=v:=by
 obtain ⟨a,b,c⟩:=v
 have na:=aBo a
 have nb:=aBo b
 have nc:=aBo c
 have hD:(a.den:Int)*b.den*c.den≠0:=Int.mul_ne_zero (Int.mul_ne_zero na nb) nc
 have e1:Rat.divInt (a.num*((b.den:Int)*c.den)) ((a.den:Int)*b.den*c.den)=a:=by
  conv=>rhs;rw [<- Rat.num_divInt_den a]
  exact (Rat.divInt_eq_divInt_iff hD na).2 (by grind)
 have e2:Rat.divInt (b.num*((a.den:Int)*c.den)) ((a.den:Int)*b.den*c.den)=b:=by
  conv=>rhs;rw [<- Rat.num_divInt_den b]
  exact (Rat.divInt_eq_divInt_iff hD nb).2 (by grind)
 have e3:Rat.divInt (c.num*((a.den:Int)*b.den)) ((a.den:Int)*b.den*c.den)=c:=by
  conv=>rhs;rw [<- Rat.num_divInt_den c]
  exact (Rat.divInt_eq_divInt_iff hD nc).2 (by grind)
 show (_,_,_)=_
 dsimp only [hc]
 rw [e1,e2,e3]
theorem aE3 (v:V3):co (pt v)=v:=by
 have h:=aPT v
 conv=>rhs;rw [<- aOC v]
 have hg:=aGn (x:=(hc v).1) (y:=(hc v).2.1) (z:=(hc v).2.2.1) (w:=(hc v).2.2.2) kJ
 obtain ⟨d1,d2,d3,d4⟩:=aEE (hc v).1 (hc v).2.1 (hc v).2.2.1 (hc v).2.2.2
 unfold pt nrm co cd
 dsimp only
 rw [if_neg kJ,if_neg kJ,if_neg kJ,if_neg kJ,aEO kJ h d1 d4,aEO kJ h d2 d4,aEO kJ h d3 d4]
def w1 (w:Int):Int:=if w=0 then 1 else w
theorem aSk (w:Int):w1 w≠0:=by
 unfold w1
 split<;>omega
def pv (x y z w:Int):V3:=co (x,y,z,w1 w)
theorem aUP (v:V3):pv (pt v).1 (pt v).2.1 (pt v).2.2.1 (pt v).2.2.2=v:=by
 have h:=aD5 v
 unfold pv w1
 rw [if_neg kJ]
 exact aE3 v
def Sv (s:Nat) (v:V3):Prop:=Sq s v.1/\Sq s v.2.1/\Sq s v.2.2
theorem Sv.le {s t:Nat} {v:V3} (h:Sv s v) (hs:s<=t):Sv t v:=⟨h.1.le hs,h.2.1.le hs,h.2.2.le hs⟩
def S4 (s:Nat) (p:Z4):Prop:=Sz s p.1/\Sz s p.2.1/\Sz s p.2.2.1/\Sz s p.2.2.2
theorem S4.le {s t:Nat} {p:Z4} (h:S4 s p) (hs:s<=t):S4 t p:=⟨h.1.le hs,h.2.1.le hs,h.2.2.1.le hs,h.2.2.2.le hs⟩
theorem aUQ {s:Nat} (hs:1<=s) {w:Int} (h:Sz s w):Sz s (w1 w):=by
 unfold PtZ.w1
 split
 ·exact Sz.one.le hs
 ·exact h
theorem Sv.co {s:Nat} (hs:1<=s) {x y z w:Int} (h1:Sz s x) (h2:Sz s y) (h3:Sz s z) (h4:Sz s w):Sv s (co (x,y,z,w)):=⟨Sq.divInt hs h1 h4,Sq.divInt hs h2 h4,Sq.divInt hs h3 h4⟩
theorem Sv.pv {s:Nat} (hs:1<=s) {x y z w:Int} (h1:Sz s x) (h2:Sz s y) (h3:Sz s z) (h4:Sz s w):Sv s (pv x y z w):=Sv.co hs h1 h2 h3 (aUQ hs h4)
theorem aB5 {s:Nat} {x g:Int} (h:Sz s x):Sz s (x / g):=h.abs (Int.natAbs_ediv_le_natAbs _ _)
theorem aLo {s:Nat} {x w:Int} {g:Nat} (h:Sz s x):Sz s (cd w g x):=by
 unfold PtZ.cd
 split
 ·exact (aB5 h).neg
 ·exact aB5 h
theorem S4.nrm {s:Nat} {p:Z4} (h:S4 s p):S4 s (nrm p):=⟨aLo h.1,aLo h.2.1,aLo h.2.2.1,aLo h.2.2.2⟩
theorem S4.hc {s:Nat} {v:V3} (h:Sv s v):S4 (3*s) (hc v):=by
 obtain ⟨⟨a1,a2⟩,⟨b1,b2⟩,⟨c1,c2⟩⟩:=h
 exact ⟨(a1.mul (b2.mul c2)).le kJ,(b1.mul (a2.mul c2)).le kJ,(c1.mul (a2.mul b2)).le kJ,((a2.mul b2).mul c2).le kJ⟩
theorem S4.pt {s:Nat} {v:V3} (h:Sv s v):S4 (3*s) (pt v):=(S4.hc h).nrm
def lex (u v:V3):Int:=if u.1=v.1 then if u.2.1=v.2.1 then sgn (u.2.2 - v.2.2).num else sgn (u.2.1 - v.2.1).num else sgn (u.1 - v.1).num
def vadd (u v:V3):V3:=(u.1+v.1,u.2.1+v.2.1,u.2.2+v.2.2)
def vmid (u v:V3) (t:Rat):V3:=(u.1+t*(v.1 - u.1),u.2.1+t*(v.2.1 - u.2.1),u.2.2+t*(v.2.2 - u.2.2))
end Go.Proofs.YtjefbecmeobegaaGreatDoor.PtZ
namespace Go.Proofs.YtjefbecmeobegaaGreatDoor.PlZ
open Go Go.RowKit NatA NatB NatC NatD NatI NatJ IntZ RatZ PtZ
abbrev V4:=Rat × Rat × Rat × Rat
def quo (p:Z4):Z4:=(p.1 / (g4 p.1 p.2.1 p.2.2.1 p.2.2.2:Int),p.2.1 / (g4 p.1 p.2.1 p.2.2.1 p.2.2.2:Int),p.2.2.1 / (g4 p.1 p.2.1 p.2.2.1 p.2.2.2:Int),p.2.2.2 / (g4 p.1 p.2.1 p.2.2.1 p.2.2.2:Int))
def Flat (p:Z4):Prop:=p.1=0/\p.2.1=0/\p.2.2.1=0
instance (p:Z4):Decidable (Flat p):=inferInstanceAs (Decidable (_/\_/\_))
def plz (p:Z4):Z4 × Bool:=if Flat p then ((0,0,0,0),false) else (quo p,true)
def aDD (k:Int) (p:Z4):Z4:=(k*p.1,k*p.2.1,k*p.2.2.1,k*p.2.2.2)
theorem aRh {k:Int} (hk:0 < k) (p:Z4):quo (aDD k p)=quo p:=by
 obtain ⟨x,y,z,w⟩:=p
 have e:((k.natAbs*g4 x y z w:Nat):Int)=k*(g4 x y z w:Int):=by
  rw [Int.natCast_mul]
  congr 1
  omega
 unfold quo aDD
 dsimp only
 rw [aPR,e,Int.mul_ediv_mul_of_pos _ _ hk,Int.mul_ediv_mul_of_pos _ _ hk,Int.mul_ediv_mul_of_pos _ _ hk,Int.mul_ediv_mul_of_pos _ _ hk]
theorem aPU {k:Int} (hk:k≠0) (p:Z4):Flat (aDD k p) ↔ Flat p:=by
 have e (x:Int):k*x=0 ↔ x=0:=by rw [Int.mul_eq_zero];omega
 unfold Flat aDD
 rw [e,e,e]
theorem aII {k:Int} (hk:0 < k) (p:Z4):plz (aDD k p)=plz p:=by
 have h:=aPU (k:=k) kJ p
 unfold plz
 rw [aRh hk]
 by_cases f:Flat p
 ·rw [if_pos f,if_pos (h.2 f)]
 ·rw [if_neg f,if_neg (mt h.1 f)]
def aBy (p:Z4):Z4:=(-p.1,-p.2.1,-p.2.2.1,-p.2.2.2)
theorem aTq (p:Z4):quo (aBy p)=aBy (quo p):=by
 obtain ⟨x,y,z,w⟩:=p
 obtain ⟨d1,d2,d3,d4⟩:=aEE x y z w
 have e:g4 (-x) (-y) (-z) (-w)=g4 x y z w:=by
  unfold g4
  simp only [Int.natAbs_neg]
 unfold quo aBy
 dsimp only
 rw [e,Int.neg_ediv_of_dvd d1,Int.neg_ediv_of_dvd d2,Int.neg_ediv_of_dvd d3,Int.neg_ediv_of_dvd d4]
theorem aM2 (p:Z4):Flat (aBy p) ↔ Flat p:=by
 have e (x:Int):-x=0 ↔ x=0:=by omega
 unfold Flat aBy
 rw [e,e,e]
theorem aNB (p:Z4):plz (aBy p)=(aBy (plz p).1,(plz p).2):=by
 unfold plz
 by_cases f:Flat p
 ·rw [if_pos f,if_pos ((aM2 p).2 f)]
  rfl
 ·rw [if_neg f,if_neg (mt (aM2 p).1 f),aTq]
theorem aFi {p:Z4} (h:¬ Flat p):0 < (g4 p.1 p.2.1 p.2.2.1 p.2.2.2:Int):=by
 have:g4 p.1 p.2.1 p.2.2.1 p.2.2.2≠0:=λ e=>h (by
  obtain ⟨d1,d2,d3,-⟩:=aEE p.1 p.2.1 p.2.2.1 p.2.2.2
  rw [e] at d1 d2 d3
  exact ⟨Int.zero_dvd.1 d1,Int.zero_dvd.1 d2,Int.zero_dvd.1 d3⟩)
 omega
theorem aRi {p:Z4}:aDD (g4 p.1 p.2.1 p.2.2.1 p.2.2.2:Int) (quo p)=p:=by
 obtain ⟨x,y,z,w⟩:=p
 obtain ⟨d1,d2,d3,d4⟩:=aEE x y z w
 unfold aDD quo
 dsimp only
 rw [Int.mul_ediv_cancel' d1,Int.mul_ediv_cancel' d2,Int.mul_ediv_cancel' d3,Int.mul_ediv_cancel' d4]
def Pc (q:Z4):Prop:=plz q=(q,true)
theorem aM3 {p q:Z4} (h:plz p=(q,true)):Pc q/\¬ Flat p/\∃ k:Int,0 < k/\p=aDD k q:=by
 unfold plz at h
 by_cases f:Flat p
 ·rw [if_pos f] at h
  cases h
 ·rw [if_neg f] at h
  obtain ⟨rfl,-⟩:=Prod.mk.inj h
  refine ⟨?_,f,_,aFi f,aRi.symm⟩
  have:=aII (aFi f) (quo p)
  rw [aRi] at this
  unfold Pc
  rw [<- this]
  unfold plz
  rw [if_neg f]
theorem Pc.nflat {q:Z4} (h:Pc q):¬ Flat q:=(aM3 h).2.1
theorem Pc.neg {q:Z4} (h:Pc q):Pc (aBy q):=by
 unfold Pc at *
 rw [aNB,h]
theorem aPV (p:Z4):plz p=((0,0,0,0),false)\/∃ q,plz p=(q,true):=by
 unfold plz
 by_cases f:Flat p
 ·rw [if_pos f]
  exact .inl rfl
 ·rw [if_neg f]
  exact .inr ⟨_,rfl⟩
def D4 (v:V4):Int:=(v.1.den:Int)*v.2.1.den*v.2.2.1.den*v.2.2.2.den
def hc4 (v:V4):Z4:=(v.1.num*((v.2.1.den:Int)*v.2.2.1.den*v.2.2.2.den),v.2.1.num*((v.1.den:Int)*v.2.2.1.den*v.2.2.2.den),v.2.2.1.num*((v.1.den:Int)*v.2.1.den*v.2.2.2.den),v.2.2.2.num*((v.1.den:Int)*v.2.1.den*v.2.2.1.den))
def plv (v:V4):Z4 × Bool:=plz (hc4 v)
theorem aDE (q:Rat):(0:Int) < q.den:=by
 have:=q.den_nz
 omega
theorem aEx (a:Rat):(a.num:Rat)=a*((a.den:Int):Rat):=by
 have h:=Rat.num_divInt_den a
 rw [Rat.divInt_eq_div] at h
 have hd:((a.den:Int):Rat)≠0:=λ e=>aBo a (Rat.intCast_inj.1 e)
 generalize ((a.den:Int):Rat)=d at *
 generalize (a.num:Rat)=n at *
 rw [<- h]
 grind
theorem aM4 (v:V4):0 < D4 v:=Int.mul_pos (Int.mul_pos (Int.mul_pos (aDE _) (aDE _)) (aDE _)) (aDE _)
theorem aKm (v:V4):((hc4 v).1:Rat)=v.1*(D4 v:Rat)/\((hc4 v).2.1:Rat)=v.2.1*(D4 v:Rat)/\((hc4 v).2.2.1:Rat)=v.2.2.1*(D4 v:Rat)/\((hc4 v).2.2.2:Rat)=v.2.2.2*(D4 v:Rat):=by
 obtain ⟨a,b,c,d⟩:=v
 have h1:=aEx a
 have h2:=aEx b
 have h3:=aEx c
 have h4:=aEx d
 unfold hc4 D4
 dsimp only
 simp only [Rat.intCast_mul]
 generalize ((a.den:Int):Rat)=a1 at *
 generalize ((b.den:Int):Rat)=b1 at *
 generalize ((c.den:Int):Rat)=c1 at *
 generalize ((d.den:Int):Rat)=d1 at *
 rw [h1,h2,h3,h4]
 refine ⟨by grind,by grind,by grind,by grind⟩
theorem aIJ {K:Rat} (h:0 < K):0 < K.num:=by
 have h1:=Rat.num_nonneg (q:=K)
 have h2:=Rat.num_eq_zero (q:=K)
 have:0<=K.num:=h1.2 (by grind)
 have:K.num≠0:=λ e=>by
  have:=h2.1 e
  grind
 omega
theorem aJ2 {p:Z4} {v:V4} {K:Rat} (hK:0 < K) (h1:(p.1:Rat)=K*v.1) (h2:(p.2.1:Rat)=K*v.2.1) (h3:(p.2.2.1:Rat)=K*v.2.2.1) (h4:(p.2.2.2:Rat)=K*v.2.2.2):plz p=plv v:=by
 obtain ⟨g1,g2,g3,g4⟩:=aKm v
 have hD:=aM4 v
 have hk:=aEx K
 have hd:=aDE K
 have hn:=aIJ hK
 have e {x y:Int} {r:Rat} (e1:(x:Rat)=K*r) (e2:(y:Rat)=r*(D4 v:Rat)):D4 v*(K.den:Int)*x=K.num*y:=by
  apply Rat.intCast_inj.1
  rw [Rat.intCast_mul,Rat.intCast_mul,Rat.intCast_mul,hk,e1,e2]
  grind
 have:aDD (D4 v*(K.den:Int)) p=aDD K.num (hc4 v):=by
  unfold aDD
  rw [e h1 g1,e h2 g2,e h3 g3,e h4 g4]
 unfold plv
 rw [<- aII (Int.mul_pos hD hd) p,this,aII hn]
abbrev rv (p:Z4):V4:=((p.1:Rat),(p.2.1:Rat),(p.2.2.1:Rat),(p.2.2.2:Rat))
theorem aUo (p:Z4):plv (rv p)=plz p:=(aJ2 (K:=1) kQ (by rw [Rat.one_mul]) (by rw [Rat.one_mul]) (by rw [Rat.one_mul]) (by rw [Rat.one_mul])).symm
def aHJ (v:V4):V4:=(-v.1,-v.2.1,-v.2.2.1,-v.2.2.2)
theorem aTr (v:V4):plv (aHJ v)=(aBy (plv v).1,(plv v).2):=by
 obtain ⟨g1,g2,g3,g4⟩:=aKm v
 have hD:=aM4 v
 have hD':(0:Rat) < (D4 v:Rat):=Rat.intCast_pos.2 hD
 have h:=aNB (hc4 v)
 have e:=aJ2 (p:=aBy (hc4 v)) (v:=aHJ v) (K:=(D4 v:Rat)) hD' (by unfold aBy aHJ;rw [Rat.intCast_neg,g1];grind) (by unfold aBy aHJ;rw [Rat.intCast_neg,g2];grind) (by unfold aBy aHJ;rw [Rat.intCast_neg,g3];grind) (by unfold aBy aHJ;rw [Rat.intCast_neg,g4];grind)
 rw [<- e,h]
 rfl
theorem aTs {v:V4} {q:Z4} (h:plv v=(q,true)):Pc q/\∃ K:Rat,0 < K/\v.1=K*(q.1:Rat)/\v.2.1=K*(q.2.1:Rat)/\v.2.2.1=K*(q.2.2.1:Rat)/\v.2.2.2=K*(q.2.2.2:Rat):=by
 obtain ⟨h1,-,k,hk,e⟩:=aM3 h
 obtain ⟨g1,g2,g3,g4⟩:=aKm v
 have hD:(0:Rat) < (D4 v:Rat):=Rat.intCast_pos.2 (aM4 v)
 have hk':(0:Rat) < (k:Rat):=Rat.intCast_pos.2 hk
 rw [e] at g1 g2 g3 g4
 unfold aDD at g1 g2 g3 g4
 dsimp only at g1 g2 g3 g4
 rw [Rat.intCast_mul] at g1 g2 g3 g4
 generalize (D4 v:Rat)=D at *
 generalize (k:Rat)=k' at *
 have cl {a b:Rat} (g:k'*a=b*D):b=k' / D*a:=by grind
 refine ⟨h1,k' / D,?_,cl g1,cl g2,cl g3,cl g4⟩
 rw [Rat.div_def]
 exact Rat.mul_pos hk' (Rat.inv_pos.2 hD)
def sdz (p x:Z4):Int:=p.1*x.1+p.2.1*x.2.1+p.2.2.1*x.2.2.1 - p.2.2.2*x.2.2.2
def sdv (p:V4) (v:V3):Rat:=p.1*v.1+p.2.1*v.2.1+p.2.2.1*v.2.2 - p.2.2.2
theorem aGR {x w:Int} {r:Rat} (hw:0 < w) (h:Rat.divInt x w=r):(x:Rat)=r*(w:Rat):=by
 have hd:(0:Rat) < (w:Rat):=Rat.intCast_pos.2 hw
 rw [Rat.divInt_eq_div] at h
 rw [<- h]
 grind
theorem aJ3 {x y z w:Int} {v:V3} (hw:0 < w) (h:co (x,y,z,w)=v):(x:Rat)=v.1*(w:Rat)/\(y:Rat)=v.2.1*(w:Rat)/\(z:Rat)=v.2.2*(w:Rat):=
 ⟨aGR hw (congrArg (·.1) h),aGR hw (congrArg (·.2.1) h),aGR hw (congrArg (·.2.2) h)⟩
theorem aTt {n W:Int} {r:Rat} (hW:0 < W) (h:(n:Rat)=r*(W:Rat)):sgn n=sgn r.num:=by
 have hd:(0:Rat) < (W:Rat):=Rat.intCast_pos.2 hW
 have e:r=Rat.divInt n W:=by
  rw [Rat.divInt_eq_div,h]
  grind
 rw [e,aGl hW]
theorem aTu {p:Z4} {x y z w:Int} {v:V3} (hw:0 < w) (h:co (x,y,z,w)=v):sgn (sdz p (x,y,z,w))=sgn (sdv (rv p) v).num:=by
 obtain ⟨h1,h2,h3⟩:=aJ3 hw h
 refine aTt hw ?_
 unfold sdz sdv
 dsimp only
 rw [Rat.intCast_sub,Rat.intCast_add,Rat.intCast_add,Rat.intCast_mul,Rat.intCast_mul,Rat.intCast_mul,Rat.intCast_mul,h1,h2,h3]
 grind
theorem aNC (p:Z4) (v:V3):sgn (sdz p (pt v))=sgn (sdv (rv p) v).num:=aTu (aD5 v) (aE3 v)
def ix3 (p:Z4):Nat->Int
 | 0=>p.1
 | 1=>p.2.1
 | _=>p.2.2.1
def axz (p:Z4):Nat:=if p.2.2.1.natAbs < p.2.1.natAbs then (if p.2.1.natAbs < p.1.natAbs then 0 else 1) else (if p.2.2.1.natAbs < p.1.natAbs then 0 else 2)
theorem aDq (p:Z4):axz p=0\/axz p=1\/axz p=2:=by
 unfold axz
 split<;>split<;>simp
theorem aPW {p:Z4} (h:¬ Flat p):ix3 p (axz p)≠0:=by
 obtain ⟨x,y,z,w⟩:=p
 unfold Flat at h
 dsimp only at h
 by_cases h1:z.natAbs < y.natAbs
 ·by_cases h2:y.natAbs < x.natAbs
  ·have e:axz (x,y,z,w)=0:=by unfold axz;dsimp only;rw [if_pos h1,if_pos h2]
   rw [e]
   show x≠0
   omega
  ·have e:axz (x,y,z,w)=1:=by unfold axz;dsimp only;rw [if_pos h1,if_neg h2]
   rw [e]
   show y≠0
   omega
 ·by_cases h2:z.natAbs < x.natAbs
  ·have e:axz (x,y,z,w)=0:=by unfold axz;dsimp only;rw [if_neg h1,if_pos h2]
   rw [e]
   show x≠0
   omega
  ·have e:axz (x,y,z,w)=2:=by unfold axz;dsimp only;rw [if_neg h1,if_neg h2]
   rw [e]
   show z≠0
   omega
theorem aM5 {k:Int} (hk:k≠0) (p:Z4):axz (aDD k p)=axz p:=by
 have hp:0 < k.natAbs:=by omega
 have e (x y:Int):(k*x).natAbs < (k*y).natAbs ↔ x.natAbs < y.natAbs:=by
  rw [Int.natAbs_mul,Int.natAbs_mul]
  exact Nat.mul_lt_mul_left hp
 unfold axz aDD
 simp only [e]
theorem aTv (p:Z4):axz (aBy p)=axz p:=by
 unfold axz aBy
 simp only [Int.natAbs_neg]
theorem aTw (p:Z4) (n:Nat):ix3 (aBy p) n=-ix3 p n:=by
 unfold ix3 aBy
 split<;>rfl
theorem aRj {p q:Z4} {K:Rat} (hK:0 < K) (h1:(p.1:Rat)=K*(q.1:Rat)) (h2:(p.2.1:Rat)=K*(q.2.1:Rat)) (h3:(p.2.2.1:Rat)=K*(q.2.2.1:Rat)):axz p=axz q:=by
 have hd:=aDE K
 have hn:=aIJ hK
 have hk:=aEx K
 have e {x y:Int} (h:(x:Rat)=K*(y:Rat)):(K.den:Int)*x=K.num*y:=by
  apply Rat.intCast_inj.1
  rw [Rat.intCast_mul,Rat.intCast_mul,hk,h]
  grind
 have e1:=e h1
 have e2:=e h2
 have e3:=e h3
 rw [<- aM5 (k:=(K.den:Int)) kJ p,<- aM5 (k:=K.num) kJ q]
 unfold axz aDD
 dsimp only
 rw [e1,e2,e3]
def prj (p:Z4) (v:V3):V3:=match axz p with
 | 0=>(((p.2.2.2:Rat) - (p.2.1:Rat)*v.2.1 - (p.2.2.1:Rat)*v.2.2) / (p.1:Rat),v.2.1,v.2.2)
 | 1=>(v.1,((p.2.2.2:Rat) - (p.1:Rat)*v.1 - (p.2.2.1:Rat)*v.2.2) / (p.2.1:Rat),v.2.2)
 | _=>(v.1,v.2.1,((p.2.2.2:Rat) - (p.1:Rat)*v.1 - (p.2.1:Rat)*v.2.1) / (p.2.2.1:Rat))
theorem aPX {p:Z4} (h:¬ Flat p) (v:V3):sdv (rv p) (prj p v)=0:=by
 have hn:=aPW h
 have hn':((ix3 p (axz p):Int):Rat)≠0:=λ e=>hn (Rat.intCast_inj.1 e)
 unfold prj sdv
 rcases aDq p with e | e | e<;>rw [e] at hn' ⊢<;>unfold ix3 at hn'<;>dsimp only at hn' ⊢<;>grind
def aAR (p:Z4):Rat:=(((ix3 p (axz p)).natAbs:Int):Rat)
def off (p:Z4) (h:Rat):Z4 × Bool:=plv ((p.1:Rat),(p.2.1:Rat),(p.2.2.1:Rat),(p.2.2.2:Rat)+h*aAR p)
theorem aTx {v:V4}:Flat (hc4 v) ↔ v.1=0/\v.2.1=0/\v.2.2.1=0:=by
 have e (q:Rat) {x:Int} (hx:x≠0):q.num*x=0 ↔ q=0:=by
  rw [Int.mul_eq_zero,Rat.num_eq_zero]
  simp [hx]
 have n (a b c:Rat):(a.den:Int)*b.den*c.den≠0:=Int.mul_ne_zero (Int.mul_ne_zero (aBo a) (aBo b)) (aBo c)
 unfold Flat hc4
 dsimp only
 rw [e _ (n _ _ _),e _ (n _ _ _),e _ (n _ _ _)]
theorem aRk {v:V4}:(plv v).2=true ↔ ¬ (v.1=0/\v.2.1=0/\v.2.2.1=0):=by
 rw [<- aTx]
 unfold plv plz
 by_cases f:Flat (hc4 v)
 ·rw [if_pos f]
  simp [f]
 ·rw [if_neg f]
  simp [f]
theorem aTy {p:Z4} (h:¬ Flat p):¬ ((p.1:Rat)=0/\(p.2.1:Rat)=0/\(p.2.2.1:Rat)=0):=λ ⟨h1,h2,h3⟩=>h ⟨Rat.intCast_inj.1 h1,Rat.intCast_inj.1 h2,Rat.intCast_inj.1 h3⟩
theorem aRl {d a b K:Rat} (hd:0 < d) (h:d*a=K*d*b):a=K*b:=by
 have h1:d≠0:=by grind
 have h2:d*(a - K*b)=0:=by grind
 rcases Rat.mul_eq_zero.1 h2 with h3 | h3
 ·exact absurd h3 h1
 ·grind
theorem aKn {q:Z4} (h:¬ Flat q) (t:Rat):∃ far:Z4,off q t=(far,true)/\Pc far/\∃ K:Rat,0 < K/\(q.1:Rat)=K*(far.1:Rat)/\(q.2.1:Rat)=K*(far.2.1:Rat)/\(q.2.2.1:Rat)=K*(far.2.2.1:Rat)/\(q.2.2.2:Rat)+t*aAR q=K*(far.2.2.2:Rat)/\axz far=axz q/\aAR q=K*aAR far:=by
 have ht:(off q t).2=true:=aRk.2 (aTy h)
 obtain ⟨far,hf⟩:∃ far,off q t=(far,true):=⟨_,Prod.ext rfl ht⟩
 obtain ⟨hp,K,hK,e1,e2,e3,e4⟩:=aTs hf
 dsimp only at e1 e2 e3 e4
 have hax:=aRj hK e1 e2 e3
 refine ⟨far,hf,hp,K,hK,e1,e2,e3,e4,hax.symm,?_⟩
 have ab (x y:Int) (h:(x:Rat)=K*(y:Rat)):((x.natAbs:Int):Rat)=K*((y.natAbs:Int):Rat):=by
  have hd:=aDE K
  have hn:=aIJ hK
  have hk:=aEx K
  have g:(K.den:Int)*x=K.num*y:=by
   apply Rat.intCast_inj.1
   rw [Rat.intCast_mul,Rat.intCast_mul,hk,h]
   grind
  have g2:(K.den:Int)*(x.natAbs:Int)=K.num*(y.natAbs:Int):=by
   have g3:=congrArg Int.natAbs g
   rw [Int.natAbs_mul,Int.natAbs_mul] at g3
   have g4:=congrArg (Nat.cast (R:=Int)) g3
   rw [Int.natCast_mul,Int.natCast_mul] at g4
   rw [show ((K.den:Int).natAbs:Int)=(K.den:Int) by omega,show ((K.num.natAbs:Nat):Int)=K.num by omega] at g4
   exact g4
  have g5:=congrArg (Int.cast (R:=Rat)) g2
  rw [Rat.intCast_mul,Rat.intCast_mul,hk] at g5
  have hd':(0:Rat) < ((K.den:Int):Rat):=Rat.intCast_pos.2 hd
  exact aRl hd' g5
 unfold aAR
 rw [<- hax]
 rcases aDq q with e | e | e<;>rw [e]
 ·exact ab _ _ e1
 ·exact ab _ _ e2
 ·exact ab _ _ e3
def nrv (a b c:V3):V3:=((b.2.1 - a.2.1)*(c.2.2 - a.2.2) - (b.2.2 - a.2.2)*(c.2.1 - a.2.1),(b.2.2 - a.2.2)*(c.1 - a.1) - (b.1 - a.1)*(c.2.2 - a.2.2),(b.1 - a.1)*(c.2.1 - a.2.1) - (b.2.1 - a.2.1)*(c.1 - a.1))
def thr (a b c:V3):V4:=((nrv a b c).1,(nrv a b c).2.1,(nrv a b c).2.2,(nrv a b c).1*a.1+(nrv a b c).2.1*a.2.1+(nrv a b c).2.2*a.2.2)
def thz (a b c:Z4):Z4:=
 let u1:=b.1*a.2.2.2 - a.1*b.2.2.2
 let u2:=b.2.1*a.2.2.2 - a.2.1*b.2.2.2
 let u3:=b.2.2.1*a.2.2.2 - a.2.2.1*b.2.2.2
 let v1:=c.1*a.2.2.2 - a.1*c.2.2.2
 let v2:=c.2.1*a.2.2.2 - a.2.1*c.2.2.2
 let v3:=c.2.2.1*a.2.2.2 - a.2.2.1*c.2.2.2
 let l1:=u2*v3 - u3*v2
 let l2:=u3*v1 - u1*v3
 let l3:=u1*v2 - u2*v1
 (l1*a.2.2.2,l2*a.2.2.2,l3*a.2.2.2,l1*a.1+l2*a.2.1+l3*a.2.2.1)
theorem aND {a b c:Z4} (ha:0 < a.2.2.2) (hb:0 < b.2.2.2) (hc:0 < c.2.2.2):plz (thz a b c)=plv (thr (co a) (co b) (co c)):=by
 obtain ⟨a1,a2,a3,a4⟩:=a
 obtain ⟨b1,b2,b3,b4⟩:=b
 obtain ⟨c1,c2,c3,c4⟩:=c
 dsimp only at ha hb hc
 obtain ⟨e1,e2,e3⟩:=aJ3 (x:=a1) (y:=a2) (z:=a3) (v:=co (a1,a2,a3,a4)) ha rfl
 obtain ⟨f1,f2,f3⟩:=aJ3 (x:=b1) (y:=b2) (z:=b3) (v:=co (b1,b2,b3,b4)) hb rfl
 obtain ⟨g1,g2,g3⟩:=aJ3 (x:=c1) (y:=c2) (z:=c3) (v:=co (c1,c2,c3,c4)) hc rfl
 have ha':(0:Rat) < (a4:Rat):=Rat.intCast_pos.2 ha
 have hb':(0:Rat) < (b4:Rat):=Rat.intCast_pos.2 hb
 have hc':(0:Rat) < (c4:Rat):=Rat.intCast_pos.2 hc
 refine aJ2 (K:=(a4:Rat)*(a4:Rat)*(a4:Rat)*(b4:Rat)*(c4:Rat)) (Rat.mul_pos (Rat.mul_pos (Rat.mul_pos (Rat.mul_pos ha' ha') ha') hb') hc') ?_ ?_ ?_ ?_
 all_goals
  unfold thz thr nrv
  dsimp only
  simp only [Rat.intCast_sub,Rat.intCast_add,Rat.intCast_mul]
  generalize co (a1,a2,a3,a4)=A at *
  generalize co (b1,b2,b3,b4)=B at *
  generalize co (c1,c2,c3,c4)=C at *
  generalize (a1:Rat)=A1' at *
  generalize (a2:Rat)=A2' at *
  generalize (a3:Rat)=A3' at *
  generalize (a4:Rat)=A4' at *
  generalize (b1:Rat)=B1' at *
  generalize (b2:Rat)=B2' at *
  generalize (b3:Rat)=B3' at *
  generalize (b4:Rat)=B4' at *
  generalize (c1:Rat)=C1' at *
  generalize (c2:Rat)=C2' at *
  generalize (c3:Rat)=C3' at *
  generalize (c4:Rat)=C4' at *
  clear ha hb hc ha' hb' hc'
  subst e1 e2 e3 f1 f2 f3 g1 g2 g3
  grind
end Go.Proofs.YtjefbecmeobegaaGreatDoor.PlZ
