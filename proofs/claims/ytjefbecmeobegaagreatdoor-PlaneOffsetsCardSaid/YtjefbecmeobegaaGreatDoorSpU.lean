import Derived.Test.YtjefbecmeobegaaGreatDoorSpQ
import Derived.Test.YtjefbecmeobegaaGreatDoorSpG
import Derived.Test.YtjefbecmeobegaaGreatDoorSpS
import Derived.Test.YtjefbecmeobegaaGreatDoorTr1
namespace Go.Proofs.YtjefbecmeobegaaGreatDoor.Sp
open Go Go.RowKit Sx NatA NatB NatC NatD NatI NatJ IntZ RatZ
def aIf:Fct
 | []=>some (enc 1)
 | _=>none
def aCg:Fct:=Rc 9000 λ x _=>enc x
def F_below:Fct:=Rc 9000 λ _ y=>enc y
theorem aSl (n:Nat):Z false (N n)=(n:Int):=by
 unfold Z sg
 rw [if_neg kQ,V_N]
theorem aGq {n:Nat} (h:(N n).size<=9000):aAj [b_ false,s_ (N n)]=some (enc (n:Int)):=by
 have:=I1.eq (lim:=19000) (g:=enc) (n:=false) (a:=N n) kJ
 rw [aSl] at this
 exact this
theorem aT0 {n:Nat} (h:(N n).size<=9000):aA6 [s_ (⟨#[]⟩:ByteArray),s_ (N n)]=some [s_ (N n)]:=by
 have:=S2.eqN (lim:=20000) (g:=λ x y=>[s_ (N (Nat.gcd x y))]) (x:=0) (y:=n) (by rw [aCn];decide) kJ
 rw [aCn,Nat.gcd_zero_left] at this
 exact this
theorem aNE {p g:Nat} (hp:(N p).size<=9000) (hs:(N g).size<=9000) (hg:g≠0):aAh ([b_ false,s_ (N p)]++enc (g:Int))=some (enc ((p / g:Nat):Int)++enc ((p % g:Nat):Int)++[b_ true]):=by
 have:=I2.left (g:=aGy) (n:=false) (y:=(g:Int)) hp (by show Sz 9000 (g:Int);unfold Sz;rw [aHP];exact hs)
 rw [aSl] at this
 refine (show aAh _=_ from this).trans ?_
 unfold aGy aEb
 rw [if_neg kJ,<- Int.natCast_ediv,<- Int.natCast_emod]
 rfl
theorem aUR:Sx.Good Tryz.prog X.G 133 ⟨[],.v1 (.agg 2)⟩ aIf:=aAe aOE (λ _ _=>X.G_below) 400 kK (by kernel_rfl:_=some aCV) λ ds rs h=>by
 unfold aIf at h
 split at h
 ·obtain rfl:=Option.some.inj h
  exact ⟨0,aAb F_ifrom rfl rfl (F_ifrom.eq (n:=1) kQ kQ) rfl (aAc rfl)⟩
 ·cases h
def tbU0:Tb:=(133,aIf)::tbS8
theorem okU0:TbOk Tryz.prog X.G tbU0:=.cons kK aUR aOE
theorem aT1:Sx.Good Tryz.prog X.G 113 ⟨[.agg 3],.v1 (.agg 2)⟩ aCg:=aAe okU0 (λ _ _=>X.G_below) 400 kK (by kernel_rfl:_=some aGf) λ ds rs h=>by
 obtain ⟨n,a,b,rfl,ha,hb,rfl⟩:=Rc.inv h
 exact ⟨0,aAb aAj rfl rfl (I1.eq kJ) rfl (aAc rfl)⟩
def tbU1:Tb:=(113,aCg)::tbU0
theorem okU1:TbOk Tryz.prog X.G tbU1:=.cons kK aT1 okU0
theorem aT2:Sx.Good Tryz.prog X.G 114 ⟨[.agg 3],.v1 (.agg 2)⟩ F_below:=aAe okU1 (λ _ _=>X.G_below) 400 kK (by kernel_rfl:_=some aGg) λ ds rs h=>by
 obtain ⟨n,a,b,rfl,ha,hb,rfl⟩:=Rc.inv h
 refine ⟨0,aAb aAj rfl rfl (I1.eq kJ) rfl (aAf rfl (aC3 _ _ _ _) ?_)⟩
 have ez:Z false b=(V b:Int):=by unfold Z sg;rw [if_neg kQ]
 rw [ez,aHP]
 refine aAw rfl (λ e=>?_) (λ e=>?_)
 ·have hd:dn b=1:=if_pos (N_nil.1 (of_decide_eq_true e))
  rw [hd]
  exact aAb aIf rfl rfl rfl rfl (aAc rfl)
 ·have hd:dn b=(V b:Int):=if_neg λ h=>of_decide_eq_false e (N_nil.2 h)
  refine aAc ?_
  rw [hd]
  show some [b_ false,s_ (N (V b))]=some [b_ (I (V b:Int)).1,s_ (I (V b:Int)).2]
  rw [aHP]
def tbU2:Tb:=(114,F_below)::tbU1
theorem okU2:TbOk Tryz.prog X.G tbU2:=.cons kK aT2 okU1
set_option maxHeartbeats 2000000 in
theorem aUp:Sx.Good Tryz.prog X.G 81 ⟨[.agg 2,.agg 2],.tup [.agg 3,.one]⟩ aAm:=aAe okU2 (λ _ _=>X.G_below) 400 kK (by kernel_rfl:_=some aCJ) λ ds rs h=>by
 obtain ⟨n,a,m,b,rfl,ha,hb,rfl⟩:=I2.inv h
 have s1:Sz 9000 (Z n a):=.of ha
 have s2:Sz 9000 (Z m b):=.of hb
 refine ⟨0,aAb aAj rfl rfl (I1.eq kJ) rfl (aAb aAj rfl rfl (I1.eq kJ) rfl (aAf rfl (aC3 _ _ _ _) ?_))⟩
 generalize Z n a=x at *
 generalize Z m b=y at *
 have s1:(N x.natAbs).size<=9000:=s1
 have s2:(N y.natAbs).size<=9000:=s2
 by_cases hy:y=0
 ·refine aAZ (congrArg (λ x=>some (b_ x)) (decide_eq_true (N_nil.2 kJ))) (aAc ?_)
  rw [hy,Rat.divInt_zero,aF7]
  rfl
 have hq:y.natAbs≠0:=by omega
 refine aBq (congrArg (λ x=>some (b_ x)) (decide_eq_false λ h=>hq (N_nil.1 h))) (aAf rfl (aDH _ _ _ _ aBJ) (aAb aA6 rfl rfl (aT0 s1) rfl (aAb aA6 rfl rfl (S2.eqN kJ kJ) rfl ?_)))
 have hg:Nat.gcd x.natAbs y.natAbs≠0:=λ h=>hq (Nat.gcd_eq_zero_iff.1 h).2
 have hgs:(N (Nat.gcd x.natAbs y.natAbs)).size<=9000:=Nat.le_trans ((aAH _ (N y.natAbs).size).2 (Nat.lt_of_le_of_lt (aF4 hq) ((aAH _ _).1 (Nat.le_refl _)))) s2
 refine aAb aAj rfl rfl (aGq hgs) rfl (aAb aAh rfl rfl (aNE s1 hgs hg) rfl (aAb aAh rfl rfl (aNE s2 hgs hg) rfl (aAf rfl (aC3 _ _ _ _) ?_)))
 rw [decide_eq_false hy]
 by_cases hx:x=0
 ·have e1:x.natAbs / Nat.gcd x.natAbs y.natAbs=0:=by rw [hx];exact Nat.zero_div _
  have e2:y.natAbs / Nat.gcd x.natAbs y.natAbs=1:=by
   rw [hx]
   show y.natAbs / Nat.gcd 0 y.natAbs=1
   rw [Nat.gcd_zero_left]
   exact Nat.div_self kJ
  refine aAZ (congrArg (λ x=>some (b_ x)) (decide_eq_true (N_nil.2 e1))) (aAb aIf rfl rfl rfl rfl ?_)
  refine aAf rfl (aQc false ((y.natAbs / Nat.gcd x.natAbs y.natAbs:Nat):Int) 1) (aAZ (congrArg (λ x=>some (b_ x)) (decide_eq_true (by rw [e2];rfl))) (aAc ?_))
  show some [b_ false,s_ (N (x.natAbs / Nat.gcd x.natAbs y.natAbs)),s_ (⟨#[]⟩:ByteArray),b_ true]=_
  rw [e1,hx,Rat.zero_divInt,aF7,aCn]
  rfl
 ·have hp:x.natAbs≠0:=by omega
  have h:x.natAbs / Nat.gcd x.natAbs y.natAbs≠0:=by
   have h1:Nat.gcd x.natAbs y.natAbs<=x.natAbs:=Nat.le_of_dvd kJ (Nat.gcd_dvd_left _ _)
   have h2:=Nat.div_pos h1 kJ
   omega
  refine aBq (congrArg (λ x=>some (b_ x)) (decide_eq_false λ e=>h (N_nil.1 e))) (aAb aIf rfl rfl rfl rfl ?_)
  have e3:=aQc false ((y.natAbs / Nat.gcd x.natAbs y.natAbs:Nat):Int) 1
  have e:=aLu (decide (x < 0)) (decide (y < 0)) hp hq
  rw [aEw,aEw] at e
  rw [e]
  unfold dnc
  refine aAf rfl e3 (aAw rfl (λ h1=>?_) (λ h1=>?_))
  ·have h1:=of_decide_eq_true h1
   rw [if_pos kJ]
   exact aAc rfl
  ·have h1:=of_decide_eq_false h1
   rw [if_neg kJ]
   exact aAc rfl
def aRm:Tb:=(81,aAm)::tbU2
theorem aRn:TbOk Tryz.prog X.G aRm:=.cons kK aUp okU2
theorem aNF:Sx.Good Tryz.prog X.G 58 ⟨[.agg 3],.v1 (.agg 3)⟩ aCO:=aAe aRn (λ _ _=>X.G_below) 400 kK (by kernel_rfl:_=some aGJ) λ ds rs h=>by
 obtain ⟨n,a,b,rfl,ha,hb,rfl⟩:=R1.inv h
 have s1:Sz 9000 (Z n a):=.of ha
 have s2:Sz 9000 (dn b):=.dn hb kQ
 exact ⟨0,aAb aCg rfl rfl (Rc.eq kJ kJ) rfl (aAb F_below rfl rfl (Rc.eq kJ kJ) rfl (aAb aAm rfl rfl (I2.can s1 s2) rfl (aAc rfl)))⟩
def tbU4:Tb:=(58,aCO)::aRm
theorem okU4:TbOk Tryz.prog X.G tbU4:=.cons kK aNF aRn
theorem aT3:Sx.Good Tryz.prog X.G 87 ⟨[.agg 3],.tup [.agg 2,.agg 2]⟩ aAr:=aAe okU4 (λ _ _=>X.G_below) 400 kK (by kernel_rfl:_=some aGh) λ ds rs h=>by
 obtain ⟨n,a,b,rfl,ha,hb,rfl⟩:=R1.inv h
 have hq:Sq 9000 (qv n a b):=.qv kQ ha hb
 exact ⟨0,aAb aCO rfl rfl (R1.eq ha hb) rfl (aAb aCg rfl rfl (Rc.can hq) rfl (aAb F_below rfl rfl (Rc.can hq) rfl (aAc rfl)))⟩
def tbU5:Tb:=(87,aAr)::tbU4
theorem okU5:TbOk Tryz.prog X.G tbU5:=.cons kK aT3 okU4
theorem aPZ:Sx.Good Tryz.prog X.G 65 ⟨[.agg 3,.agg 3],.v1 (.agg 3)⟩ aBb:=aAe okU5 (λ _ _=>X.G_below) 400 kK (by kernel_rfl:_=some aHg) λ ds rs h=>by
 obtain ⟨n,a,b,m,c,d,rfl,ha,hb,hc,hd,rfl⟩:=R2.inv h
 have s1:Sz 2000 (Z n a):=.of ha
 have s2:Sz 2000 (dn b):=.dn hb kQ
 have s3:Sz 2000 (Z m c):=.of hc
 have s4:Sz 2000 (dn d):=.dn hd kQ
 refine ⟨0,aAb aCg rfl rfl (Rc.eq kJ kJ) rfl (aAb F_below rfl rfl (Rc.eq kJ kJ) rfl (aAb aAd rfl rfl (I2.can (s1.le kQ) (s4.le kQ)) rfl (aAb aCg rfl rfl (Rc.eq kJ kJ) rfl (aAb F_below rfl rfl (Rc.eq kJ kJ) rfl (aAb aAd rfl rfl (I2.can (s3.le kQ) (s2.le kQ)) rfl (aAb aBF rfl rfl (I2.can ((s1.mul s4).le kQ) ((s3.mul s2).le kQ)) rfl (aAb F_below rfl rfl (Rc.eq kJ kJ) rfl (aAb F_below rfl rfl (Rc.eq kJ kJ) rfl (aAb aAd rfl rfl (I2.can (s2.le kQ) (s4.le kQ)) rfl (aAb aAm rfl rfl (I2.can (((s1.mul s4).add (s3.mul s2)).le kQ) ((s2.mul s4).le kQ)) rfl (aAc ?_)))))))))))⟩
 have h1:=aDp b
 have h2:=aDp d
 unfold qv
 rw [Rat.divInt_add_divInt _ _ kJ kJ]
 rfl
def tbU6:Tb:=(65,aBb)::tbU5
theorem okU6:TbOk Tryz.prog X.G tbU6:=.cons kK aPZ okU5
theorem aQa:Sx.Good Tryz.prog X.G 67 ⟨[.agg 3],.v1 (.agg 3)⟩ aB1:=aAe okU6 (λ _ _=>X.G_below) 400 kK (by kernel_rfl:_=some aHh) λ ds rs h=>by
 obtain ⟨n,a,b,rfl,ha,hb,rfl⟩:=R1.inv h
 have s1:Sz 9000 (Z n a):=.of ha
 have s2:Sz 9000 (dn b):=.dn hb kQ
 refine ⟨0,aAb aCg rfl rfl (Rc.eq kJ kJ) rfl (aAb aAs rfl rfl (I1.can (s1.le kQ)) rfl (aAb F_below rfl rfl (Rc.eq kJ kJ) rfl (aAb aAm rfl rfl (I2.can s1.neg s2) rfl (aAc ?_))))⟩
 unfold qv
 rw [Rat.neg_divInt]
 rfl
def tbU7:Tb:=(67,aB1)::tbU6
theorem okU7:TbOk Tryz.prog X.G tbU7:=.cons kK aQa okU6
theorem aQb:Sx.Good Tryz.prog X.G 66 ⟨[.agg 3,.agg 3],.v1 (.agg 3)⟩ aAL:=aAe okU7 (λ _ _=>X.G_below) 400 kK (by kernel_rfl:_=some aHi) λ ds rs h=>by
 obtain ⟨n,a,b,m,c,d,rfl,ha,hb,hc,hd,rfl⟩:=R2.inv h
 have hq:Sq 2000 (qv m c d):=.qv kQ hc hd
 refine ⟨0,aAb aB1 rfl rfl (R1.eq kJ kJ) rfl (aAb aBb rfl rfl (R2.left ha hb hq.neg) rfl (aAc ?_))⟩
 rw [Rat.sub_eq_add_neg]
 rfl
def tbU8:Tb:=(66,aAL)::tbU7
theorem okU8:TbOk Tryz.prog X.G tbU8:=.cons kK aQb okU7
theorem aUq:Sx.Good Tryz.prog X.G 91 ⟨[.agg 3,.agg 3],.v1 (.agg 3)⟩ aAQ:=aAe okU8 (λ _ _=>X.G_below) 400 kK (by kernel_rfl:_=some aHj) λ ds rs h=>by
 obtain ⟨n,a,b,m,c,d,rfl,ha,hb,hc,hd,rfl⟩:=R2.inv h
 have s1:Sz 2000 (Z n a):=.of ha
 have s2:Sz 2000 (dn b):=.dn hb kQ
 have s3:Sz 2000 (Z m c):=.of hc
 have s4:Sz 2000 (dn d):=.dn hd kQ
 refine ⟨0,aAb aCg rfl rfl (Rc.eq kJ kJ) rfl (aAb aCg rfl rfl (Rc.eq kJ kJ) rfl (aAb aAd rfl rfl (I2.can (s1.le kQ) (s3.le kQ)) rfl (aAb F_below rfl rfl (Rc.eq kJ kJ) rfl (aAb F_below rfl rfl (Rc.eq kJ kJ) rfl (aAb aAd rfl rfl (I2.can (s2.le kQ) (s4.le kQ)) rfl (aAb aAm rfl rfl (I2.can ((s1.mul s3).le kQ) ((s2.mul s4).le kQ)) rfl (aAc ?_)))))))⟩
 unfold qv
 rw [Rat.divInt_mul_divInt]
 rfl
def tbU9:Tb:=(91,aAQ)::tbU8
theorem okU9:TbOk Tryz.prog X.G tbU9:=.cons kK aUq okU8
theorem aUr:Sx.Good Tryz.prog X.G 121 ⟨[.agg 3,.agg 3],.tup [.agg 3,.one]⟩ aD2:=aAe okU9 (λ _ _=>X.G_below) 400 kK (by kernel_rfl:_=some aHk) λ ds rs h=>by
 obtain ⟨n,a,b,m,c,d,rfl,ha,hb,hc,hd,rfl⟩:=R2.inv h
 have s1:Sz 2000 (Z n a):=.of ha
 have s2:Sz 2000 (dn b):=.dn hb kQ
 have s3:Sz 2000 (Z m c):=.of hc
 have s4:Sz 2000 (dn d):=.dn hd kQ
 refine ⟨0,aAb aCg rfl rfl (Rc.eq kJ kJ) rfl (aAb F_below rfl rfl (Rc.eq kJ kJ) rfl (aAb aAd rfl rfl (I2.can (s1.le kQ) (s4.le kQ)) rfl (aAb F_below rfl rfl (Rc.eq kJ kJ) rfl (aAb aCg rfl rfl (Rc.eq kJ kJ) rfl (aAb aAd rfl rfl (I2.can (s2.le kQ) (s3.le kQ)) rfl (aAb aAm rfl rfl (I2.can ((s1.mul s4).le kQ) ((s2.mul s3).le kQ)) rfl (aAc ?_)))))))⟩
 have e:decide (dn b*Z m c=0)=decide (qv m c d=0):=by
  have:=aDp b
  rw [Bool.eq_iff_iff,decide_eq_true_iff,decide_eq_true_iff,aMY,Int.mul_eq_zero]
  omega
 unfold qv at *
 rw [aGO,<- e]
 rfl
def aSm:Tb:=(121,aD2)::tbU9
theorem aSn:TbOk Tryz.prog X.G aSm:=.cons kK aUr okU9
theorem aNG:Sx.Good Tryz.prog X.G 68 ⟨[.agg 3],.v1 .one⟩ aBW:=aAe aSn (λ _ _=>X.G_below) 400 kK (by kernel_rfl:_=some aGK) λ ds rs h=>by
 obtain ⟨n,a,b,rfl,ha,hb,rfl⟩:=R1.inv h
 have s1:Sz 9000 (Z n a):=.of ha
 have s2:Sz 9000 (dn b):=.dn hb kQ
 refine ⟨0,aAb aCg rfl rfl (Rc.eq kJ kJ) rfl (aAb aAx rfl rfl (I1.can (s1.le kQ)) rfl (aAc ?_))⟩
 unfold qv
 rw [aGl (aDp b)]
 rfl
def aSo:Tb:=(68,aBW)::aSm
theorem aSp:TbOk Tryz.prog X.G aSo:=.cons kK aNG aSn
theorem aUs:Sx.Good Tryz.prog X.G 89 ⟨[.agg 3,.agg 3],.v1 .one⟩ aIO:=aAe aSp (λ _ _=>X.G_below) 400 kK (by kernel_rfl:_=some aHl) λ ds rs h=>by
 obtain ⟨n,a,b,m,c,d,rfl,ha,hb,hc,hd,rfl⟩:=R2.inv h
 have h1:Sq 2000 (qv n a b):=.qv kQ ha hb
 have h2:Sq 2000 (qv m c d):=.qv kQ hc hd
 have h3:=h1.add h2.neg
 rw [<- Rat.sub_eq_add_neg] at h3
 exact ⟨0,aAb aAL rfl rfl (R2.eq ha hb hc hd) rfl (aAb aBW rfl rfl (R1.can (h3.le kQ)) rfl (aAc rfl))⟩
def aSq:Tb:=(89,aIO)::aSo
theorem aUS:TbOk Tryz.prog X.G aSq:=.cons kK aUs aSp
end Go.Proofs.YtjefbecmeobegaaGreatDoor.Sp
