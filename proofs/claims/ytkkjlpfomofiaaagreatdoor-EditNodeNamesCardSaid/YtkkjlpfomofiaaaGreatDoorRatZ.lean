import Derived.Test.YtkkjlpfomofiaaaGreatDoorIntZ
namespace Go.Proofs.YtkkjlpfomofiaaaGreatDoor.RatZ
open Go Go.RowKit NatA NatB NatC NatD NatI NatJ IntZ
def Sz (s:Nat) (z:Int):Prop:=(I z).2.size≤s
theorem Sz.le {s t:Nat} {z:Int} (h:Sz s z) (hs:s≤t):Sz t z:=Nat.le_trans h hs
theorem Sz.of {s:Nat} {n:Bool} {a:ByteArray} (h:a.size≤s):Sz s (Z n a):=aQg n a h
theorem Sz.neg {s:Nat} {z:Int} (h:Sz s z):Sz s (-z):=by unfold Sz I at *;rw [Int.natAbs_neg];exact h
theorem Sz.add {s t:Nat} {x y:Int} (hx:Sz s x) (hy:Sz t y):Sz (s+t+1) (x+y):=aJY (s:=s+t) (hx.le (by omega)) (hy.le (by omega))
theorem Sz.sub {s t:Nat} {x y:Int} (hx:Sz s x) (hy:Sz t y):Sz (s+t+1) (x - y):=aNZ (s:=s+t) (hx.le (by omega)) (hy.le (by omega))
theorem Sz.mul {s t:Nat} {x y:Int} (hx:Sz s x) (hy:Sz t y):Sz (s+t) (x*y):=aOa hx hy
theorem Sz.abs {s:Nat} {x y:Int} (h:Sz s x) (hy:y.natAbs≤x.natAbs):Sz s y:=aBg (Nat.lt_of_le_of_lt hy (aCG h))
theorem Sz.i64 {n:Int} (h0:-9223372036854775808≤n) (h1:n≤9223372036854775807):Sz 8 n:=aBg (by
 have:(256:Nat) ^ 8=18446744073709551616:=by decide
 omega)
theorem Sz.one:Sz 1 1:=aBg (by decide)
def dn (b:ByteArray):Int:=if V b=0 then 1 else (V b:Int)
theorem aQc (b:ByteArray):0 < dn b:=by
 unfold dn
 split<;>omega
theorem Sz.dn {s:Nat} {b:ByteArray} (h:b.size≤s) (hs:1≤s):Sz s (dn b):=by
 unfold RatZ.dn
 split
 ·exact Sz.one.le hs
 ·exact Sz.of (n:=false) h
def qv (n:Bool) (a b:ByteArray):Rat:=Rat.divInt (Z n a) (dn b)
def dnc (d:Nat):ByteArray:=if d=1 then (⟨#[]⟩:ByteArray) else N d
theorem aQd {d:Nat} (h:d≠0):dn (dnc d)=d:=by
 unfold dn dnc
 by_cases h1:d=1
 ·rw [if_pos h1,← aFs,V_N,if_pos rfl,h1]
  rfl
 ·rw [if_neg h1,V_N,if_neg h]
def Sq (s:Nat) (q:Rat):Prop:=Sz s q.num∧Sz s q.den
theorem Sq.le {s t:Nat} {q:Rat} (h:Sq s q) (hs:s≤t):Sq t q:=⟨h.1.le hs,h.2.le hs⟩
theorem Sq.dnc {s:Nat} {q:Rat} (h:Sq s q):(dnc q.den).size≤s:=by
 unfold RatZ.dnc
 split
 ·exact Nat.zero_le _
 ·exact h.2
theorem aJW {x y:Nat} (h:y≠0):Nat.gcd x y≤y:=Nat.le_of_dvd (by omega) (Nat.gcd_dvd_right x y)
theorem Sq.divInt {s:Nat} (hs:1≤s) {x y:Int} (hx:Sz s x) (hy:Sz s y):Sq s (Rat.divInt x y):=by
 constructor
 ·refine hx.abs ?_
  rw [Rat.num_divInt]
  refine Nat.le_trans (Int.natAbs_ediv_le_natAbs _ _) ?_
  rw [Int.natAbs_mul,Int.natAbs_sign]
  split
  ·omega
  ·omega
 ·rw [Rat.den_divInt]
  by_cases h:y=0
  ·rw [if_pos h]
   exact Sz.one.le hs
  ·rw [if_neg h]
   refine hy.abs ?_
   rw [Int.natAbs_natCast]
   exact Nat.div_le_self _ _
theorem Sq.qv {s:Nat} (hs:1≤s) {n:Bool} {a b:ByteArray} (ha:a.size≤s) (hb:b.size≤s):Sq s (qv n a b):=Sq.divInt hs (.of ha) (.dn hb hs)
theorem aNb (q:Rat):(q.den:Int)≠0:=by
 have:=q.den_nz
 omega
theorem Sq.add {s t:Nat} {x y:Rat} (hx:Sq s x) (hy:Sq t y):Sq (s+t+1) (x+y):=by
 rw [← Rat.num_divInt_den x,← Rat.num_divInt_den y,Rat.divInt_add_divInt _ _ (aNb x) (aNb y)]
 exact Sq.divInt (by omega) (aJY (hx.1.mul hy.2) ((hy.1.mul hx.2).le (by omega))) ((hx.2.mul hy.2).le (by omega))
theorem Sq.neg {s:Nat} {x:Rat} (hx:Sq s x):Sq s (-x):=⟨hx.1.neg,hx.2⟩
theorem Sq.mul {s t:Nat} (hs:1≤s+t) {x y:Rat} (hx:Sq s x) (hy:Sq t y):Sq (s+t) (x*y):=by
 rw [← Rat.num_divInt_den x,← Rat.num_divInt_den y,Rat.divInt_mul_divInt]
 exact Sq.divInt hs (hx.1.mul hy.1) (hx.2.mul hy.2)
theorem aPq (m:Bool) {q:Nat} (h:q≠0):(sg m q).sign=if m=true then -1 else 1:=by
 unfold sg
 split
 ·rw [Int.sign_neg,Int.sign_natCast_of_ne_zero h]
 ·exact Int.sign_natCast_of_ne_zero h
theorem aQe (c:Bool) {p g:Nat} (hg:g ∣ p) (h0:g≠0):sg c p / (g:Int)=sg c (p / g):=by
 obtain ⟨k,rfl⟩:=hg
 rw [Nat.mul_div_cancel_left _ (by omega)]
 unfold sg
 split
 ·rw [Int.natCast_mul,← Int.mul_neg]
  exact Int.mul_ediv_cancel_left _ (by omega)
 ·rw [Int.natCast_mul]
  exact Int.mul_ediv_cancel_left _ (by omega)
theorem aKT (a b:Int):Int.gcd a b=Nat.gcd a.natAbs b.natAbs:=rfl
theorem aPr (n m:Bool) {p q:Nat} (hq:q≠0):(Rat.divInt (sg n p) (sg m q)).num=sg (n != m) (p / Nat.gcd p q):=by
 have hg:Nat.gcd p q≠0:=fun h=>hq (Nat.gcd_eq_zero_iff.1 h).2
 rw [Rat.num_divInt,aPq m hq,aKT,aB3,aB3,Nat.gcd_comm q p,← aQe _ (Nat.gcd_dvd_left p q) hg]
 congr 1
 cases n<;>cases m<;>simp [sg]
theorem aPs (n m:Bool) {p q:Nat} (hq:q≠0):(Rat.divInt (sg n p) (sg m q)).den=q / Nat.gcd p q:=by
 rw [Rat.den_divInt,if_neg (fun h=>hq (by have:=congrArg Int.natAbs h;rw [aB3] at this;exact this)),aKT,aB3,aB3,Nat.gcd_comm q p]
end Go.Proofs.YtkkjlpfomofiaaaGreatDoor.RatZ
