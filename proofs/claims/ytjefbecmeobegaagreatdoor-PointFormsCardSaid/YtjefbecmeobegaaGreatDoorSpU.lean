import Derived.Test.YtjefbecmeobegaaGreatDoorSpE
import Derived.Test.YtjefbecmeobegaaGreatDoorSpS
import Derived.Test.YtjefbecmeobegaaGreatDoorTr1
namespace Go.Proofs.YtjefbecmeobegaaGreatDoor.Sp
open Go Go.RowKit Sx NatA NatB NatC NatD NatI NatJ IntZ RatZ
def aF2:Fct
 | []=>some (enc 1)
 | _=>none
def aBZ:Fct:=Rc 9000 fun x _=>enc x
def F_below:Fct:=Rc 9000 fun _ y=>enc y
theorem aRc (n:Nat):Z false (N n)=(n:Int):=by
 unfold Z sg
 rw [if_neg (by decide),V_N]
theorem aLV {n:Nat} (h:(N n).size≤9000):aAh [b_ false,s_ (N n)]=some (enc (n:Int)):=by
 have:=I1.eq (lim:=19000) (g:=enc) (n:=false) (a:=N n) (by omega)
 rw [aRc] at this
 exact this
theorem aSc {n:Nat} (h:(N n).size≤9000):aBh [s_ (⟨#[]⟩:ByteArray),s_ (N n)]=some [s_ (N n)]:=by
 have:=S2.eqN (lim:=20000) (g:=fun x y=>[s_ (N (Nat.gcd x y))]) (x:=0) (y:=n) (by rw [aCg];decide) (by omega)
 rw [aCg,Nat.gcd_zero_left] at this
 exact this
theorem aNb {p g:Nat} (hp:(N p).size≤9000) (hs:(N g).size≤9000) (hg:g≠0):aAj ([b_ false,s_ (N p)]++enc (g:Int))=some (enc ((p / g:Nat):Int)++enc ((p % g:Nat):Int)++[b_ true]):=by
 have:=I2.left (g:=aGY) (n:=false) (y:=(g:Int)) hp (by show Sz 9000 (g:Int);unfold Sz;rw [aGb];exact hs)
 rw [aRc] at this
 refine (show aAj _=_ from this).trans ?_
 unfold aGY aEo
 rw [if_neg (by omega),← Int.natCast_ediv,← Int.natCast_emod]
 rfl
theorem aTR:Sx.Good Tryz.prog X.G 133 ⟨[],.v1 (.agg 2)⟩ aF2:=aAd okS8 (fun _ _=>X.G_below) 400 (by kernel_rfl) (by kernel_rfl:_=some aCJ) fun ds rs h=>by
 unfold aF2 at h
 split at h
 ·obtain rfl:=Option.some.inj h
  exact ⟨0,aAb F_ifrom rfl rfl (F_ifrom.eq (n:=1) (by decide) (by decide)) rfl (aAc rfl)⟩
 ·cases h
def tbU0:Tb:=(133,aF2)::tbS8
theorem okU0:TbOk Tryz.prog X.G tbU0:=.cons (by kernel_rfl) aTR okS8
theorem aSd:Sx.Good Tryz.prog X.G 113 ⟨[.agg 3],.v1 (.agg 2)⟩ aBZ:=aAd okU0 (fun _ _=>X.G_below) 400 (by kernel_rfl) (by kernel_rfl:_=some aFP) fun ds rs h=>by
 obtain ⟨n,a,b,rfl,ha,hb,rfl⟩:=Rc.inv h
 exact ⟨0,aAb aAh rfl rfl (I1.eq (by omega)) rfl (aAc rfl)⟩
def tbU1:Tb:=(113,aBZ)::tbU0
theorem okU1:TbOk Tryz.prog X.G tbU1:=.cons (by kernel_rfl) aSd okU0
theorem aSe:Sx.Good Tryz.prog X.G 114 ⟨[.agg 3],.v1 (.agg 2)⟩ F_below:=aAd okU1 (fun _ _=>X.G_below) 400 (by kernel_rfl) (by kernel_rfl:_=some aFQ) fun ds rs h=>by
 obtain ⟨n,a,b,rfl,ha,hb,rfl⟩:=Rc.inv h
 refine ⟨0,aAb aAh rfl rfl (I1.eq (by omega)) rfl (aAe rfl (aBN _ _ _ _) ?_)⟩
 have ez:Z false b=(V b:Int):=by unfold Z sg;rw [if_neg (by decide)]
 rw [ez,aGb]
 refine aA0 rfl (fun e=>?_) (fun e=>?_)
 ·have hd:dn b=1:=if_pos (N_nil.1 (of_decide_eq_true e))
  rw [hd]
  exact aAb aF2 rfl rfl rfl rfl (aAc rfl)
 ·have hd:dn b=(V b:Int):=if_neg fun h=>of_decide_eq_false e (N_nil.2 h)
  refine aAc ?_
  rw [hd]
  show some [b_ false,s_ (N (V b))]=some [b_ (I (V b:Int)).1,s_ (I (V b:Int)).2]
  rw [aGb]
def tbU2:Tb:=(114,F_below)::tbU1
theorem okU2:TbOk Tryz.prog X.G tbU2:=.cons (by kernel_rfl) aSe okU1
set_option maxHeartbeats 2000000 in
theorem aTl:Sx.Good Tryz.prog X.G 81 ⟨[.agg 2,.agg 2],.tup [.agg 3,.one]⟩ aAZ:=aAd okU2 (fun _ _=>X.G_below) 400 (by kernel_rfl) (by kernel_rfl:_=some aBK) fun ds rs h=>by
 obtain ⟨n,a,m,b,rfl,ha,hb,rfl⟩:=I2.inv h
 have s1:Sz 9000 (Z n a):=.of ha
 have s2:Sz 9000 (Z m b):=.of hb
 refine ⟨0,aAb aAh rfl rfl (I1.eq (by omega)) rfl (aAb aAh rfl rfl (I1.eq (by omega)) rfl (aAe rfl (aBN _ _ _ _) ?_))⟩
 generalize Z n a=x at *
 generalize Z m b=y at *
 have s1:(N x.natAbs).size≤9000:=s1
 have s2:(N y.natAbs).size≤9000:=s2
 by_cases hy:y=0
 ·refine aBj (congrArg (fun x=>some (b_ x)) (decide_eq_true (N_nil.2 (by omega)))) (aAc ?_)
  rw [hy,Rat.divInt_zero,aFm]
  rfl
 have hq:y.natAbs≠0:=by omega
 refine aBe (congrArg (fun x=>some (b_ x)) (decide_eq_false fun h=>hq (N_nil.1 h))) (aAe rfl (aD4 _ _ _ _ aB3) (aAb aBh rfl rfl (aSc s1) rfl (aAb aBh rfl rfl (S2.eqN (by omega) (by omega)) rfl ?_)))
 have hg:Nat.gcd x.natAbs y.natAbs≠0:=fun h=>hq (Nat.gcd_eq_zero_iff.1 h).2
 have hgs:(N (Nat.gcd x.natAbs y.natAbs)).size≤9000:=Nat.le_trans ((aA9 _ (N y.natAbs).size).2 (Nat.lt_of_le_of_lt (aFj hq) ((aA9 _ _).1 (Nat.le_refl _)))) s2
 refine aAb aAh rfl rfl (aLV hgs) rfl (aAb aAj rfl rfl (aNb s1 hgs hg) rfl (aAb aAj rfl rfl (aNb s2 hgs hg) rfl (aAe rfl (aBN _ _ _ _) ?_)))
 rw [decide_eq_false hy]
 by_cases hx:x=0
 ·have e1:x.natAbs / Nat.gcd x.natAbs y.natAbs=0:=by rw [hx];exact Nat.zero_div _
  have e2:y.natAbs / Nat.gcd x.natAbs y.natAbs=1:=by
   rw [hx]
   show y.natAbs / Nat.gcd 0 y.natAbs=1
   rw [Nat.gcd_zero_left]
   exact Nat.div_self (by omega)
  refine aBj (congrArg (fun x=>some (b_ x)) (decide_eq_true (N_nil.2 e1))) (aAb aF2 rfl rfl rfl rfl ?_)
  refine aAe rfl (aLW false ((y.natAbs / Nat.gcd x.natAbs y.natAbs:Nat):Int) 1) (aBj (congrArg (fun x=>some (b_ x)) (decide_eq_true (by rw [e2];rfl))) (aAc ?_))
  show some [b_ false,s_ (N (x.natAbs / Nat.gcd x.natAbs y.natAbs)),s_ (⟨#[]⟩:ByteArray),b_ true]=_
  rw [e1,hx,Rat.zero_divInt,aFm,aCg]
  rfl
 ·have hp:x.natAbs≠0:=by omega
  have h:x.natAbs / Nat.gcd x.natAbs y.natAbs≠0:=by
   have h1:Nat.gcd x.natAbs y.natAbs≤x.natAbs:=Nat.le_of_dvd (by omega) (Nat.gcd_dvd_left _ _)
   have h2:=Nat.div_pos h1 (by omega)
   omega
  refine aBe (congrArg (fun x=>some (b_ x)) (decide_eq_false fun e=>h (N_nil.1 e))) (aAb aF2 rfl rfl rfl rfl ?_)
  have e3:=aLW false ((y.natAbs / Nat.gcd x.natAbs y.natAbs:Nat):Int) 1
  have e:=aKQ (decide (x < 0)) (decide (y < 0)) hp hq
  rw [aEl,aEl] at e
  rw [e]
  unfold dnc
  refine aAe rfl e3 (aA0 rfl (fun h1=>?_) (fun h1=>?_))
  ·have h1:=of_decide_eq_true h1
   rw [if_pos (by omega)]
   exact aAc rfl
  ·have h1:=of_decide_eq_false h1
   rw [if_neg (by omega)]
   exact aAc rfl
def tbU3:Tb:=(81,aAZ)::tbU2
theorem okU3:TbOk Tryz.prog X.G tbU3:=.cons (by kernel_rfl) aTl okU2
theorem aSf:Sx.Good Tryz.prog X.G 58 ⟨[.agg 3],.v1 (.agg 3)⟩ aDU:=aAd okU3 (fun _ _=>X.G_below) 400 (by kernel_rfl) (by kernel_rfl:_=some aGy) fun ds rs h=>by
 obtain ⟨n,a,b,rfl,ha,hb,rfl⟩:=R1.inv h
 have s1:Sz 9000 (Z n a):=.of ha
 have s2:Sz 9000 (dn b):=.dn hb (by decide)
 exact ⟨0,aAb aBZ rfl rfl (Rc.eq (by omega) (by omega)) rfl (aAb F_below rfl rfl (Rc.eq (by omega) (by omega)) rfl (aAb aAZ rfl rfl (I2.can s1 s2) rfl (aAc rfl)))⟩
def tbU4:Tb:=(58,aDU)::tbU3
theorem okU4:TbOk Tryz.prog X.G tbU4:=.cons (by kernel_rfl) aSf okU3
theorem aSg:Sx.Good Tryz.prog X.G 87 ⟨[.agg 3],.tup [.agg 2,.agg 2]⟩ aAR:=aAd okU4 (fun _ _=>X.G_below) 400 (by kernel_rfl) (by kernel_rfl:_=some aFR) fun ds rs h=>by
 obtain ⟨n,a,b,rfl,ha,hb,rfl⟩:=R1.inv h
 have hq:Sq 9000 (qv n a b):=.qv (by decide) ha hb
 exact ⟨0,aAb aDU rfl rfl (R1.eq ha hb) rfl (aAb aBZ rfl rfl (Rc.can hq) rfl (aAb F_below rfl rfl (Rc.can hq) rfl (aAc rfl)))⟩
def tbU5:Tb:=(87,aAR)::tbU4
theorem okU5:TbOk Tryz.prog X.G tbU5:=.cons (by kernel_rfl) aSg okU4
theorem aTm:Sx.Good Tryz.prog X.G 65 ⟨[.agg 3,.agg 3],.v1 (.agg 3)⟩ aAW:=aAd okU5 (fun _ _=>X.G_below) 400 (by kernel_rfl) (by kernel_rfl:_=some aGN) fun ds rs h=>by
 obtain ⟨n,a,b,m,c,d,rfl,ha,hb,hc,hd,rfl⟩:=R2.inv h
 have s1:Sz 2000 (Z n a):=.of ha
 have s2:Sz 2000 (dn b):=.dn hb (by decide)
 have s3:Sz 2000 (Z m c):=.of hc
 have s4:Sz 2000 (dn d):=.dn hd (by decide)
 refine ⟨0,aAb aBZ rfl rfl (Rc.eq (by omega) (by omega)) rfl (aAb F_below rfl rfl (Rc.eq (by omega) (by omega)) rfl (aAb aAn rfl rfl (I2.can (s1.le (by decide)) (s4.le (by decide))) rfl (aAb aBZ rfl rfl (Rc.eq (by omega) (by omega)) rfl (aAb F_below rfl rfl (Rc.eq (by omega) (by omega)) rfl (aAb aAn rfl rfl (I2.can (s3.le (by decide)) (s2.le (by decide))) rfl (aAb aDq rfl rfl (I2.can ((s1.mul s4).le (by decide)) ((s3.mul s2).le (by decide))) rfl (aAb F_below rfl rfl (Rc.eq (by omega) (by omega)) rfl (aAb F_below rfl rfl (Rc.eq (by omega) (by omega)) rfl (aAb aAn rfl rfl (I2.can (s2.le (by decide)) (s4.le (by decide))) rfl (aAb aAZ rfl rfl (I2.can (((s1.mul s4).add (s3.mul s2)).le (by decide)) ((s2.mul s4).le (by decide))) rfl (aAc ?_)))))))))))⟩
 have h1:=aDd b
 have h2:=aDd d
 unfold qv
 rw [Rat.divInt_add_divInt _ _ (by omega) (by omega)]
 rfl
def tbU6:Tb:=(65,aAW)::tbU5
theorem okU6:TbOk Tryz.prog X.G tbU6:=.cons (by kernel_rfl) aTm okU5
theorem aTn:Sx.Good Tryz.prog X.G 67 ⟨[.agg 3],.v1 (.agg 3)⟩ aF9:=aAd okU6 (fun _ _=>X.G_below) 400 (by kernel_rfl) (by kernel_rfl:_=some aGO) fun ds rs h=>by
 obtain ⟨n,a,b,rfl,ha,hb,rfl⟩:=R1.inv h
 have s1:Sz 9000 (Z n a):=.of ha
 have s2:Sz 9000 (dn b):=.dn hb (by decide)
 refine ⟨0,aAb aBZ rfl rfl (Rc.eq (by omega) (by omega)) rfl (aAb aAz rfl rfl (I1.can (s1.le (by decide))) rfl (aAb F_below rfl rfl (Rc.eq (by omega) (by omega)) rfl (aAb aAZ rfl rfl (I2.can s1.neg s2) rfl (aAc ?_))))⟩
 unfold qv
 rw [Rat.neg_divInt]
 rfl
def tbU7:Tb:=(67,aF9)::tbU6
theorem okU7:TbOk Tryz.prog X.G tbU7:=.cons (by kernel_rfl) aTn okU6
theorem aTo:Sx.Good Tryz.prog X.G 66 ⟨[.agg 3,.agg 3],.v1 (.agg 3)⟩ aB6:=aAd okU7 (fun _ _=>X.G_below) 400 (by kernel_rfl) (by kernel_rfl:_=some aGP) fun ds rs h=>by
 obtain ⟨n,a,b,m,c,d,rfl,ha,hb,hc,hd,rfl⟩:=R2.inv h
 have hq:Sq 2000 (qv m c d):=.qv (by decide) hc hd
 refine ⟨0,aAb aF9 rfl rfl (R1.eq (by omega) (by omega)) rfl (aAb aAW rfl rfl (R2.left ha hb hq.neg) rfl (aAc ?_))⟩
 rw [Rat.sub_eq_add_neg]
 rfl
def tbU8:Tb:=(66,aB6)::tbU7
theorem okU8:TbOk Tryz.prog X.G tbU8:=.cons (by kernel_rfl) aTo okU7
theorem aTp:Sx.Good Tryz.prog X.G 91 ⟨[.agg 3,.agg 3],.v1 (.agg 3)⟩ aBD:=aAd okU8 (fun _ _=>X.G_below) 400 (by kernel_rfl) (by kernel_rfl:_=some aGQ) fun ds rs h=>by
 obtain ⟨n,a,b,m,c,d,rfl,ha,hb,hc,hd,rfl⟩:=R2.inv h
 have s1:Sz 2000 (Z n a):=.of ha
 have s2:Sz 2000 (dn b):=.dn hb (by decide)
 have s3:Sz 2000 (Z m c):=.of hc
 have s4:Sz 2000 (dn d):=.dn hd (by decide)
 refine ⟨0,aAb aBZ rfl rfl (Rc.eq (by omega) (by omega)) rfl (aAb aBZ rfl rfl (Rc.eq (by omega) (by omega)) rfl (aAb aAn rfl rfl (I2.can (s1.le (by decide)) (s3.le (by decide))) rfl (aAb F_below rfl rfl (Rc.eq (by omega) (by omega)) rfl (aAb F_below rfl rfl (Rc.eq (by omega) (by omega)) rfl (aAb aAn rfl rfl (I2.can (s2.le (by decide)) (s4.le (by decide))) rfl (aAb aAZ rfl rfl (I2.can ((s1.mul s3).le (by decide)) ((s2.mul s4).le (by decide))) rfl (aAc ?_)))))))⟩
 unfold qv
 rw [Rat.divInt_mul_divInt]
 rfl
def tbU9:Tb:=(91,aBD)::tbU8
theorem okU9:TbOk Tryz.prog X.G tbU9:=.cons (by kernel_rfl) aTp okU8
theorem aTq:Sx.Good Tryz.prog X.G 121 ⟨[.agg 3,.agg 3],.tup [.agg 3,.one]⟩ aI1:=aAd okU9 (fun _ _=>X.G_below) 400 (by kernel_rfl) (by kernel_rfl:_=some aGR) fun ds rs h=>by
 obtain ⟨n,a,b,m,c,d,rfl,ha,hb,hc,hd,rfl⟩:=R2.inv h
 have s1:Sz 2000 (Z n a):=.of ha
 have s2:Sz 2000 (dn b):=.dn hb (by decide)
 have s3:Sz 2000 (Z m c):=.of hc
 have s4:Sz 2000 (dn d):=.dn hd (by decide)
 refine ⟨0,aAb aBZ rfl rfl (Rc.eq (by omega) (by omega)) rfl (aAb F_below rfl rfl (Rc.eq (by omega) (by omega)) rfl (aAb aAn rfl rfl (I2.can (s1.le (by decide)) (s4.le (by decide))) rfl (aAb F_below rfl rfl (Rc.eq (by omega) (by omega)) rfl (aAb aBZ rfl rfl (Rc.eq (by omega) (by omega)) rfl (aAb aAn rfl rfl (I2.can (s2.le (by decide)) (s3.le (by decide))) rfl (aAb aAZ rfl rfl (I2.can ((s1.mul s4).le (by decide)) ((s2.mul s3).le (by decide))) rfl (aAc ?_)))))))⟩
 have e:decide (dn b*Z m c=0)=decide (qv m c d=0):=by
  have:=aDd b
  rw [Bool.eq_iff_iff,decide_eq_true_iff,decide_eq_true_iff,aM0,Int.mul_eq_zero]
  omega
 unfold qv at *
 rw [aJb,← e]
 rfl
def aRd:Tb:=(121,aI1)::tbU9
theorem aRe:TbOk Tryz.prog X.G aRd:=.cons (by kernel_rfl) aTq okU9
theorem aSh:Sx.Good Tryz.prog X.G 68 ⟨[.agg 3],.v1 .one⟩ aF8:=aAd aRe (fun _ _=>X.G_below) 400 (by kernel_rfl) (by kernel_rfl:_=some aGz) fun ds rs h=>by
 obtain ⟨n,a,b,rfl,ha,hb,rfl⟩:=R1.inv h
 have s1:Sz 9000 (Z n a):=.of ha
 have s2:Sz 9000 (dn b):=.dn hb (by decide)
 refine ⟨0,aAb aBZ rfl rfl (Rc.eq (by omega) (by omega)) rfl (aAb aAO rfl rfl (I1.can (s1.le (by decide))) rfl (aAc ?_))⟩
 unfold qv
 rw [aHM (aDd b)]
 rfl
def aRf:Tb:=(68,aF8)::aRd
theorem aRg:TbOk Tryz.prog X.G aRf:=.cons (by kernel_rfl) aSh aRe
theorem aTr:Sx.Good Tryz.prog X.G 89 ⟨[.agg 3,.agg 3],.v1 .one⟩ aDp:=aAd aRg (fun _ _=>X.G_below) 400 (by kernel_rfl) (by kernel_rfl:_=some aGS) fun ds rs h=>by
 obtain ⟨n,a,b,m,c,d,rfl,ha,hb,hc,hd,rfl⟩:=R2.inv h
 have h1:Sq 2000 (qv n a b):=.qv (by decide) ha hb
 have h2:Sq 2000 (qv m c d):=.qv (by decide) hc hd
 have h3:=h1.add h2.neg
 rw [← Rat.sub_eq_add_neg] at h3
 exact ⟨0,aAb aB6 rfl rfl (R2.eq ha hb hc hd) rfl (aAb aF8 rfl rfl (R1.can (h3.le (by decide))) rfl (aAc rfl))⟩
def aRh:Tb:=(89,aDp)::aRf
theorem aRi:TbOk Tryz.prog X.G aRh:=.cons (by kernel_rfl) aTr aRg
end Go.Proofs.YtjefbecmeobegaaGreatDoor.Sp
