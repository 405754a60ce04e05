import Derived.Test.YtjefbecmeobegaaGreatDoorRatZ
namespace Go.Proofs.YtjefbecmeobegaaGreatDoor.PtZ
open Go Go.RowKit NatA NatB NatC NatD NatI NatJ IntZ RatZ
abbrev V3:=Rat × Rat × Rat
abbrev Z4:=Int × Int × Int × Int
def g4 (x y z w:Int):Nat:=Nat.gcd (Nat.gcd (Nat.gcd x.natAbs y.natAbs) z.natAbs) w.natAbs
def cd (w:Int) (g:Nat) (k:Int):Int:=if w < 0 then -(k / (g:Int)) else k / (g:Int)
def nrm (p:Z4):Z4:=
 let g:=g4 p.1 p.2.1 p.2.2.1 p.2.2.2
 (cd p.2.2.2 g p.1,cd p.2.2.2 g p.2.1,cd p.2.2.2 g p.2.2.1,cd p.2.2.2 g p.2.2.2)
def co (p:Z4):V3:=(Rat.divInt p.1 p.2.2.2,Rat.divInt p.2.1 p.2.2.2,Rat.divInt p.2.2.1 p.2.2.2)
theorem aH2 (x y z w:Int):(g4 x y z w:Int) ∣ x∧(g4 x y z w:Int) ∣ y∧(g4 x y z w:Int) ∣ z∧(g4 x y z w:Int) ∣ w:=by
 have h1:g4 x y z w ∣ Nat.gcd (Nat.gcd x.natAbs y.natAbs) z.natAbs:=Nat.gcd_dvd_left _ _
 have h2:=Nat.dvd_trans h1 (Nat.gcd_dvd_left _ _)
 exact ⟨Int.ofNat_dvd_left.2 (Nat.dvd_trans h2 (Nat.gcd_dvd_left _ _)),Int.ofNat_dvd_left.2 (Nat.dvd_trans h2 (Nat.gcd_dvd_right _ _)),Int.ofNat_dvd_left.2 (Nat.dvd_trans h1 (Nat.gcd_dvd_right _ _)),Int.ofNat_dvd_left.2 (Nat.gcd_dvd_right _ _)⟩
theorem aFU {x y z w:Int} (h:w≠0):0 < g4 x y z w:=Nat.gcd_pos_of_pos_right _ (by omega)
theorem aTj (k x y z w:Int):g4 (k*x) (k*y) (k*z) (k*w)=k.natAbs*g4 x y z w:=by
 unfold g4
 rw [Int.natAbs_mul,Int.natAbs_mul,Int.natAbs_mul,Int.natAbs_mul,Nat.gcd_mul_left,Nat.gcd_mul_left,Nat.gcd_mul_left]
theorem aJc {k w x:Int} {g:Nat} (hk:k≠0) (hg:(g:Int) ∣ x):cd (k*w) (k.natAbs*g) (k*x)=cd w g x∨w=0:=by
 by_cases h0:w=0
 ·exact .inr h0
 left
 unfold cd
 rcases Int.lt_or_gt_of_ne hk with h | h
 ·have e:((k.natAbs*g:Nat):Int)=(-k)*(g:Int):=by
   rw [Int.natCast_mul]
   congr 1
   omega
  rw [e,show k*x=(-k)*(-x) by rw [Int.neg_mul_neg],Int.mul_ediv_mul_of_pos _ _ (by omega),Int.neg_ediv_of_dvd hg]
  rcases Int.lt_or_gt_of_ne h0 with hw | hw
  ·rw [if_neg (by have:=Int.mul_pos_of_neg_of_neg h hw;omega),if_pos hw]
  ·rw [if_pos (Int.mul_neg_of_neg_of_pos h hw),if_neg (by omega),Int.neg_neg]
 ·have e:((k.natAbs*g:Nat):Int)=k*(g:Int):=by
   rw [Int.natCast_mul]
   congr 1
   omega
  rw [e,Int.mul_ediv_mul_of_pos _ _ h]
  rcases Int.lt_or_gt_of_ne h0 with hw | hw
  ·rw [if_pos (Int.mul_neg_of_pos_of_neg h hw),if_pos hw]
  ·rw [if_neg (by have:=Int.mul_pos h hw;omega),if_neg (by omega)]
theorem aMZ {k x y z w:Int} (hk:k≠0) (hw:w≠0):nrm (k*x,k*y,k*z,k*w)=nrm (x,y,z,w):=by
 obtain ⟨d1,d2,d3,d4⟩:=aH2 x y z w
 have h1:=(aJc (w:=w) hk d1).resolve_right hw
 have h2:=(aJc (w:=w) hk d2).resolve_right hw
 have h3:=(aJc (w:=w) hk d3).resolve_right hw
 have h4:=(aJc (w:=w) hk d4).resolve_right hw
 unfold nrm
 dsimp only
 rw [aTj,h1,h2,h3,h4]
def hc (v:V3):Z4:=(v.1.num*((v.2.1.den:Int)*v.2.2.den),v.2.1.num*((v.1.den:Int)*v.2.2.den),v.2.2.num*((v.1.den:Int)*v.2.1.den),(v.1.den:Int)*v.2.1.den*v.2.2.den)
def pt (v:V3):Z4:=nrm (hc v)
theorem aG6 {q:Rat} {x w:Int} (h:q=Rat.divInt x w) (hw:w≠0):q.num*w=x*q.den:=by
 have:=(Rat.divInt_eq_divInt_iff (aB1 q) hw).1 ((Rat.num_divInt_den q).trans h)
 exact this
theorem aLR {x y z w:Int} (hw:w≠0):nrm (x,y,z,w)=pt (co (x,y,z,w)):=by
 obtain ⟨a,ha⟩:∃ a,a=Rat.divInt x w:=⟨_,rfl⟩
 obtain ⟨b,hb⟩:∃ a,a=Rat.divInt y w:=⟨_,rfl⟩
 obtain ⟨c,hc'⟩:∃ a,a=Rat.divInt z w:=⟨_,rfl⟩
 have e:co (x,y,z,w)=(a,b,c):=by rw [ha,hb,hc'];rfl
 have h1:=aG6 ha hw
 have h2:=aG6 hb hw
 have h3:=aG6 hc' hw
 have na:=aB1 a
 have nb:=aB1 b
 have nc:=aB1 c
 rw [e]
 show _=nrm (a.num*((b.den:Int)*c.den),b.num*((a.den:Int)*c.den),c.num*((a.den:Int)*b.den),(a.den:Int)*b.den*c.den)
 have hD:(a.den:Int)*b.den*c.den≠0:=Int.mul_ne_zero (Int.mul_ne_zero na nb) nc
 rw [← aMZ (k:=(a.den:Int)*b.den*c.den) hD hw,← aMZ (k:=w) hw hD]
 generalize (a.den:Int)=p at *
 generalize (b.den:Int)=q at *
 generalize (c.den:Int)=r at *
 have e1:p*q*r*x=w*(a.num*(q*r)):=by
  have:p*q*r*x=(x*p)*(q*r):=by grind
  rw [this,← h1]
  grind
 have e2:p*q*r*y=w*(b.num*(p*r)):=by
  have:p*q*r*y=(y*q)*(p*r):=by grind
  rw [this,← h2]
  grind
 have e3:p*q*r*z=w*(c.num*(p*q)):=by
  have:p*q*r*z=(z*r)*(p*q):=by grind
  rw [this,← h3]
  grind
 rw [e1,e2,e3,Int.mul_comm (p*q*r) w]
theorem aPm (v:V3):0 < (hc v).2.2.2:=by
 have h1:=v.1.den_nz
 have h2:=v.2.1.den_nz
 have h3:=v.2.2.den_nz
 exact Int.mul_pos (Int.mul_pos (by omega) (by omega)) (by omega)
theorem aLS {g w:Int} (hg:0 < g) (hw:0 < w) (h:g ∣ w):0 < w / g:=by
 obtain ⟨k,rfl⟩:=h
 rw [Int.mul_ediv_cancel_left _ (by omega)]
 exact Int.pos_of_mul_pos_right hw hg
theorem aE8 {g x w:Int} (hg:0 < g) (hw:0 < w) (h1:g ∣ x) (h2:g ∣ w):Rat.divInt (x / g) (w / g)=Rat.divInt x w:=by
 have hp:=aLS hg hw h2
 refine (Rat.divInt_eq_divInt_iff (by omega) (by omega)).2 ?_
 obtain ⟨k,rfl⟩:=h1
 obtain ⟨l,rfl⟩:=h2
 rw [Int.mul_ediv_cancel_left _ (by omega),Int.mul_ediv_cancel_left _ (by omega)]
 grind
theorem aDP (v:V3):0 < (pt v).2.2.2:=by
 have h:=aPm v
 unfold pt nrm cd
 dsimp only
 rw [if_neg (by omega)]
 exact aLS (by have:=aFU (x:=(hc v).1) (y:=(hc v).2.1) (z:=(hc v).2.2.1) (w:=(hc v).2.2.2) (by omega);omega) h (aH2 _ _ _ _).2.2.2
theorem aNW (v:V3):co (hc v)=v:=by
 obtain ⟨a,b,c⟩:=v
 have na:=aB1 a
 have nb:=aB1 b
 have nc:=aB1 c
 have hD:(a.den:Int)*b.den*c.den≠0:=Int.mul_ne_zero (Int.mul_ne_zero na nb) nc
 have e1:Rat.divInt (a.num*((b.den:Int)*c.den)) ((a.den:Int)*b.den*c.den)=a:=by
  conv=>rhs;rw [← Rat.num_divInt_den a]
  exact (Rat.divInt_eq_divInt_iff hD na).2 (by grind)
 have e2:Rat.divInt (b.num*((a.den:Int)*c.den)) ((a.den:Int)*b.den*c.den)=b:=by
  conv=>rhs;rw [← Rat.num_divInt_den b]
  exact (Rat.divInt_eq_divInt_iff hD nb).2 (by grind)
 have e3:Rat.divInt (c.num*((a.den:Int)*b.den)) ((a.den:Int)*b.den*c.den)=c:=by
  conv=>rhs;rw [← Rat.num_divInt_den c]
  exact (Rat.divInt_eq_divInt_iff hD nc).2 (by grind)
 show (_,_,_)=_
 dsimp only [hc]
 rw [e1,e2,e3]
theorem aDQ (v:V3):co (pt v)=v:=by
 have h:=aPm v
 conv=>rhs;rw [← aNW v]
 have hg:=aFU (x:=(hc v).1) (y:=(hc v).2.1) (z:=(hc v).2.2.1) (w:=(hc v).2.2.2) (by omega)
 obtain ⟨d1,d2,d3,d4⟩:=aH2 (hc v).1 (hc v).2.1 (hc v).2.2.1 (hc v).2.2.2
 unfold pt nrm co cd
 dsimp only
 rw [if_neg (by omega),if_neg (by omega),if_neg (by omega),if_neg (by omega),aE8 (by omega) h d1 d4,aE8 (by omega) h d2 d4,aE8 (by omega) h d3 d4]
theorem aTk {u v:V3}:pt u=pt v ↔ u=v:=⟨fun h=>by rw [← aDQ u,h,aDQ],fun h=>by rw [h]⟩
def w1 (w:Int):Int:=if w=0 then 1 else w
theorem aRb (w:Int):w1 w≠0:=by
 unfold w1
 split<;>omega
def pv (x y z w:Int):V3:=co (x,y,z,w1 w)
theorem aTP (v:V3):pv (pt v).1 (pt v).2.1 (pt v).2.2.1 (pt v).2.2.2=v:=by
 have h:=aDP v
 unfold pv w1
 rw [if_neg (by omega)]
 exact aDQ v
def Sv (s:Nat) (v:V3):Prop:=Sq s v.1∧Sq s v.2.1∧Sq s v.2.2
theorem Sv.le {s t:Nat} {v:V3} (h:Sv s v) (hs:s≤t):Sv t v:=⟨h.1.le hs,h.2.1.le hs,h.2.2.le hs⟩
def S4 (s:Nat) (p:Z4):Prop:=Sz s p.1∧Sz s p.2.1∧Sz s p.2.2.1∧Sz s p.2.2.2
theorem S4.le {s t:Nat} {p:Z4} (h:S4 s p) (hs:s≤t):S4 t p:=⟨h.1.le hs,h.2.1.le hs,h.2.2.1.le hs,h.2.2.2.le hs⟩
theorem aTQ {s:Nat} (hs:1≤s) {w:Int} (h:Sz s w):Sz s (w1 w):=by
 unfold PtZ.w1
 split
 ·exact Sz.one.le hs
 ·exact h
theorem Sv.co {s:Nat} (hs:1≤s) {x y z w:Int} (h1:Sz s x) (h2:Sz s y) (h3:Sz s z) (h4:Sz s w):Sv s (co (x,y,z,w)):=⟨Sq.divInt hs h1 h4,Sq.divInt hs h2 h4,Sq.divInt hs h3 h4⟩
theorem Sv.pv {s:Nat} (hs:1≤s) {x y z w:Int} (h1:Sz s x) (h2:Sz s y) (h3:Sz s z) (h4:Sz s w):Sv s (pv x y z w):=Sv.co hs h1 h2 h3 (aTQ hs h4)
theorem aBP {s:Nat} {x g:Int} (h:Sz s x):Sz s (x / g):=h.abs (Int.natAbs_ediv_le_natAbs _ _)
theorem aKN {s:Nat} {x w:Int} {g:Nat} (h:Sz s x):Sz s (cd w g x):=by
 unfold PtZ.cd
 split
 ·exact (aBP h).neg
 ·exact aBP h
theorem S4.nrm {s:Nat} {p:Z4} (h:S4 s p):S4 s (nrm p):=⟨aKN h.1,aKN h.2.1,aKN h.2.2.1,aKN h.2.2.2⟩
theorem S4.hc {s:Nat} {v:V3} (h:Sv s v):S4 (3*s) (hc v):=by
 obtain ⟨⟨a1,a2⟩,⟨b1,b2⟩,⟨c1,c2⟩⟩:=h
 exact ⟨(a1.mul (b2.mul c2)).le (by omega),(b1.mul (a2.mul c2)).le (by omega),(c1.mul (a2.mul b2)).le (by omega),((a2.mul b2).mul c2).le (by omega)⟩
theorem S4.pt {s:Nat} {v:V3} (h:Sv s v):S4 (3*s) (pt v):=(S4.hc h).nrm
def lex (u v:V3):Int:=if u.1=v.1 then if u.2.1=v.2.1 then sgn (u.2.2 - v.2.2).num else sgn (u.2.1 - v.2.1).num else sgn (u.1 - v.1).num
def vadd (u v:V3):V3:=(u.1+v.1,u.2.1+v.2.1,u.2.2+v.2.2)
def vmid (u v:V3) (t:Rat):V3:=(u.1+t*(v.1 - u.1),u.2.1+t*(v.2.1 - u.2.1),u.2.2+t*(v.2.2 - u.2.2))
end Go.Proofs.YtjefbecmeobegaaGreatDoor.PtZ
