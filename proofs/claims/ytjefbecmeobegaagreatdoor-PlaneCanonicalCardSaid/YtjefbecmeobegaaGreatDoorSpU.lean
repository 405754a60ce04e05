import Derived.Test.YtjefbecmeobegaaGreatDoorSpQ
import Derived.Test.YtjefbecmeobegaaGreatDoorSpG
import Derived.Test.YtjefbecmeobegaaGreatDoorSpS
import Derived.Test.YtjefbecmeobegaaGreatDoorTr1
namespace Go.Proofs.YtjefbecmeobegaaGreatDoor.Sp
open Go Go.RowKit Sx NatA NatB NatC NatD NatI NatJ IntZ RatZ
def aId:Fct
 | []=>some (enc 1)
 | _=>none
def aDq:Fct:=Rc 9000 fun x _=>enc x
def F_below:Fct:=Rc 9000 fun _ y=>enc y
theorem aRX (n:Nat):Z false (N n)=(n:Int):=by
 unfold Z sg
 rw [if_neg (by decide),V_N]
theorem aGj {n:Nat} (h:(N n).size≤9000):aAj [b_ false,s_ (N n)]=some (enc (n:Int)):=by
 have:=I1.eq (lim:=19000) (g:=enc) (n:=false) (a:=N n) (by omega)
 rw [aRX] at this
 exact this
theorem aTd {n:Nat} (h:(N n).size≤9000):aA4 [s_ (⟨#[]⟩:ByteArray),s_ (N n)]=some [s_ (N n)]:=by
 have:=S2.eqN (lim:=20000) (g:=fun x y=>[s_ (N (Nat.gcd x y))]) (x:=0) (y:=n) (by rw [aCm];decide) (by omega)
 rw [aCm,Nat.gcd_zero_left] at this
 exact this
theorem aNA {p g:Nat} (hp:(N p).size≤9000) (hs:(N g).size≤9000) (hg:g≠0):aAg ([b_ false,s_ (N p)]++enc (g:Int))=some (enc ((p / g:Nat):Int)++enc ((p % g:Nat):Int)++[b_ true]):=by
 have:=I2.left (g:=aGp) (n:=false) (y:=(g:Int)) hp (by show Sz 9000 (g:Int);unfold Sz;rw [aHM];exact hs)
 rw [aRX] at this
 refine (show aAg _=_ from this).trans ?_
 unfold aGp aDN
 rw [if_neg (by omega),← Int.natCast_ediv,← Int.natCast_emod]
 rfl
theorem aU3:Sx.Good Tryz.prog X.G 133 ⟨[],.v1 (.agg 2)⟩ aId:=aAe aKm (fun _ _=>X.G_below) 400 (by kernel_rfl) (by kernel_rfl:_=some aCR) fun ds rs h=>by
 unfold aId at h
 split at h
 ·obtain rfl:=Option.some.inj h
  exact ⟨0,aAb F_ifrom rfl rfl (F_ifrom.eq (n:=1) (by decide) (by decide)) rfl (aAc rfl)⟩
 ·cases h
def tbU0:Tb:=(133,aId)::tbS8
theorem okU0:TbOk Tryz.prog X.G tbU0:=.cons (by kernel_rfl) aU3 aKm
theorem aTe:Sx.Good Tryz.prog X.G 113 ⟨[.agg 3],.v1 (.agg 2)⟩ aDq:=aAe okU0 (fun _ _=>X.G_below) 400 (by kernel_rfl) (by kernel_rfl:_=some aGa) fun ds rs h=>by
 obtain ⟨n,a,b,rfl,ha,hb,rfl⟩:=Rc.inv h
 exact ⟨0,aAb aAj rfl rfl (I1.eq (by omega)) rfl (aAc rfl)⟩
def tbU1:Tb:=(113,aDq)::tbU0
theorem okU1:TbOk Tryz.prog X.G tbU1:=.cons (by kernel_rfl) aTe okU0
theorem aTf:Sx.Good Tryz.prog X.G 114 ⟨[.agg 3],.v1 (.agg 2)⟩ F_below:=aAe okU1 (fun _ _=>X.G_below) 400 (by kernel_rfl) (by kernel_rfl:_=some aGb) fun ds rs h=>by
 obtain ⟨n,a,b,rfl,ha,hb,rfl⟩:=Rc.inv h
 refine ⟨0,aAb aAj rfl rfl (I1.eq (by omega)) rfl (aAf rfl (aC0 _ _ _ _) ?_)⟩
 have ez:Z false b=(V b:Int):=by unfold Z sg;rw [if_neg (by decide)]
 rw [ez,aHM]
 refine aAt rfl (fun e=>?_) (fun e=>?_)
 ·have hd:dn b=1:=if_pos (N_nil.1 (of_decide_eq_true e))
  rw [hd]
  exact aAb aId rfl rfl rfl rfl (aAc rfl)
 ·have hd:dn b=(V b:Int):=if_neg fun h=>of_decide_eq_false e (N_nil.2 h)
  refine aAc ?_
  rw [hd]
  show some [b_ false,s_ (N (V b))]=some [b_ (I (V b:Int)).1,s_ (I (V b:Int)).2]
  rw [aHM]
def tbU2:Tb:=(114,F_below)::tbU1
theorem okU2:TbOk Tryz.prog X.G tbU2:=.cons (by kernel_rfl) aTf okU1
set_option maxHeartbeats 2000000 in
theorem aTT:Sx.Good Tryz.prog X.G 81 ⟨[.agg 2,.agg 2],.tup [.agg 3,.one]⟩ aAw:=aAe okU2 (fun _ _=>X.G_below) 400 (by kernel_rfl) (by kernel_rfl:_=some aCG) fun ds rs h=>by
 obtain ⟨n,a,m,b,rfl,ha,hb,rfl⟩:=I2.inv h
 have s1:Sz 9000 (Z n a):=.of ha
 have s2:Sz 9000 (Z m b):=.of hb
 refine ⟨0,aAb aAj rfl rfl (I1.eq (by omega)) rfl (aAb aAj rfl rfl (I1.eq (by omega)) rfl (aAf rfl (aC0 _ _ _ _) ?_))⟩
 generalize Z n a=x at *
 generalize Z m b=y at *
 have s1:(N x.natAbs).size≤9000:=s1
 have s2:(N y.natAbs).size≤9000:=s2
 by_cases hy:y=0
 ·refine aAH (congrArg (fun x=>some (b_ x)) (decide_eq_true (N_nil.2 (by omega)))) (aAc ?_)
  rw [hy,Rat.divInt_zero,aF0]
  rfl
 have hq:y.natAbs≠0:=by omega
 refine aBt (congrArg (fun x=>some (b_ x)) (decide_eq_false fun h=>hq (N_nil.1 h))) (aAf rfl (aBT _ _ _ _ aAR) (aAb aA4 rfl rfl (aTd s1) rfl (aAb aA4 rfl rfl (S2.eqN (by omega) (by omega)) rfl ?_)))
 have hg:Nat.gcd x.natAbs y.natAbs≠0:=fun h=>hq (Nat.gcd_eq_zero_iff.1 h).2
 have hgs:(N (Nat.gcd x.natAbs y.natAbs)).size≤9000:=Nat.le_trans ((aAG _ (N y.natAbs).size).2 (Nat.lt_of_le_of_lt (aFv hq) ((aAG _ _).1 (Nat.le_refl _)))) s2
 refine aAb aAj rfl rfl (aGj hgs) rfl (aAb aAg rfl rfl (aNA s1 hgs hg) rfl (aAb aAg rfl rfl (aNA s2 hgs hg) rfl (aAf rfl (aC0 _ _ _ _) ?_)))
 rw [decide_eq_false hy]
 by_cases hx:x=0
 ·have e1:x.natAbs / Nat.gcd x.natAbs y.natAbs=0:=by rw [hx];exact Nat.zero_div _
  have e2:y.natAbs / Nat.gcd x.natAbs y.natAbs=1:=by
   rw [hx]
   show y.natAbs / Nat.gcd 0 y.natAbs=1
   rw [Nat.gcd_zero_left]
   exact Nat.div_self (by omega)
  refine aAH (congrArg (fun x=>some (b_ x)) (decide_eq_true (N_nil.2 e1))) (aAb aId rfl rfl rfl rfl ?_)
  refine aAf rfl (aPR false ((y.natAbs / Nat.gcd x.natAbs y.natAbs:Nat):Int) 1) (aAH (congrArg (fun x=>some (b_ x)) (decide_eq_true (by rw [e2];rfl))) (aAc ?_))
  show some [b_ false,s_ (N (x.natAbs / Nat.gcd x.natAbs y.natAbs)),s_ (⟨#[]⟩:ByteArray),b_ true]=_
  rw [e1,hx,Rat.zero_divInt,aF0,aCm]
  rfl
 ·have hp:x.natAbs≠0:=by omega
  have h:x.natAbs / Nat.gcd x.natAbs y.natAbs≠0:=by
   have h1:Nat.gcd x.natAbs y.natAbs≤x.natAbs:=Nat.le_of_dvd (by omega) (Nat.gcd_dvd_left _ _)
   have h2:=Nat.div_pos h1 (by omega)
   omega
  refine aBt (congrArg (fun x=>some (b_ x)) (decide_eq_false fun e=>h (N_nil.1 e))) (aAb aId rfl rfl rfl rfl ?_)
  have e3:=aPR false ((y.natAbs / Nat.gcd x.natAbs y.natAbs:Nat):Int) 1
  have e:=aLs (decide (x < 0)) (decide (y < 0)) hp hq
  rw [aEm,aEm] at e
  rw [e]
  unfold dnc
  refine aAf rfl e3 (aAt rfl (fun h1=>?_) (fun h1=>?_))
  ·have h1:=of_decide_eq_true h1
   rw [if_pos (by omega)]
   exact aAc rfl
  ·have h1:=of_decide_eq_false h1
   rw [if_neg (by omega)]
   exact aAc rfl
def aQT:Tb:=(81,aAw)::tbU2
theorem aQU:TbOk Tryz.prog X.G aQT:=.cons (by kernel_rfl) aTT okU2
theorem aTg:Sx.Good Tryz.prog X.G 58 ⟨[.agg 3],.v1 (.agg 3)⟩ aDT:=aAe aQU (fun _ _=>X.G_below) 400 (by kernel_rfl) (by kernel_rfl:_=some aGA) fun ds rs h=>by
 obtain ⟨n,a,b,rfl,ha,hb,rfl⟩:=R1.inv h
 have s1:Sz 9000 (Z n a):=.of ha
 have s2:Sz 9000 (dn b):=.dn hb (by decide)
 exact ⟨0,aAb aDq rfl rfl (Rc.eq (by omega) (by omega)) rfl (aAb F_below rfl rfl (Rc.eq (by omega) (by omega)) rfl (aAb aAw rfl rfl (I2.can s1 s2) rfl (aAc rfl)))⟩
def tbU4:Tb:=(58,aDT)::aQT
theorem okU4:TbOk Tryz.prog X.G tbU4:=.cons (by kernel_rfl) aTg aQU
theorem aTh:Sx.Good Tryz.prog X.G 87 ⟨[.agg 3],.tup [.agg 2,.agg 2]⟩ aAo:=aAe okU4 (fun _ _=>X.G_below) 400 (by kernel_rfl) (by kernel_rfl:_=some aGc) fun ds rs h=>by
 obtain ⟨n,a,b,rfl,ha,hb,rfl⟩:=R1.inv h
 have hq:Sq 9000 (qv n a b):=.qv (by decide) ha hb
 exact ⟨0,aAb aDT rfl rfl (R1.eq ha hb) rfl (aAb aDq rfl rfl (Rc.can hq) rfl (aAb F_below rfl rfl (Rc.can hq) rfl (aAc rfl)))⟩
def aQV:Tb:=(87,aAo)::tbU4
theorem aQW:TbOk Tryz.prog X.G aQV:=.cons (by kernel_rfl) aTh okU4
theorem aTU:Sx.Good Tryz.prog X.G 65 ⟨[.agg 3,.agg 3],.v1 (.agg 3)⟩ aBh:=aAe aQW (fun _ _=>X.G_below) 400 (by kernel_rfl) (by kernel_rfl:_=some aGZ) fun ds rs h=>by
 obtain ⟨n,a,b,m,c,d,rfl,ha,hb,hc,hd,rfl⟩:=R2.inv h
 have s1:Sz 2000 (Z n a):=.of ha
 have s2:Sz 2000 (dn b):=.dn hb (by decide)
 have s3:Sz 2000 (Z m c):=.of hc
 have s4:Sz 2000 (dn d):=.dn hd (by decide)
 refine ⟨0,aAb aDq rfl rfl (Rc.eq (by omega) (by omega)) rfl (aAb F_below rfl rfl (Rc.eq (by omega) (by omega)) rfl (aAb aAd rfl rfl (I2.can (s1.le (by decide)) (s4.le (by decide))) rfl (aAb aDq rfl rfl (Rc.eq (by omega) (by omega)) rfl (aAb F_below rfl rfl (Rc.eq (by omega) (by omega)) rfl (aAb aAd rfl rfl (I2.can (s3.le (by decide)) (s2.le (by decide))) rfl (aAb aBi rfl rfl (I2.can ((s1.mul s4).le (by decide)) ((s3.mul s2).le (by decide))) rfl (aAb F_below rfl rfl (Rc.eq (by omega) (by omega)) rfl (aAb F_below rfl rfl (Rc.eq (by omega) (by omega)) rfl (aAb aAd rfl rfl (I2.can (s2.le (by decide)) (s4.le (by decide))) rfl (aAb aAw rfl rfl (I2.can (((s1.mul s4).add (s3.mul s2)).le (by decide)) ((s2.mul s4).le (by decide))) rfl (aAc ?_)))))))))))⟩
 have h1:=aDM b
 have h2:=aDM d
 unfold qv
 rw [Rat.divInt_add_divInt _ _ (by omega) (by omega)]
 rfl
def tbU6:Tb:=(65,aBh)::aQV
theorem okU6:TbOk Tryz.prog X.G tbU6:=.cons (by kernel_rfl) aTU aQW
theorem aTV:Sx.Good Tryz.prog X.G 67 ⟨[.agg 3],.v1 (.agg 3)⟩ aFL:=aAe okU6 (fun _ _=>X.G_below) 400 (by kernel_rfl) (by kernel_rfl:_=some aHa) fun ds rs h=>by
 obtain ⟨n,a,b,rfl,ha,hb,rfl⟩:=R1.inv h
 have s1:Sz 9000 (Z n a):=.of ha
 have s2:Sz 9000 (dn b):=.dn hb (by decide)
 refine ⟨0,aAb aDq rfl rfl (Rc.eq (by omega) (by omega)) rfl (aAb aAn rfl rfl (I1.can (s1.le (by decide))) rfl (aAb F_below rfl rfl (Rc.eq (by omega) (by omega)) rfl (aAb aAw rfl rfl (I2.can s1.neg s2) rfl (aAc ?_))))⟩
 unfold qv
 rw [Rat.neg_divInt]
 rfl
def tbU7:Tb:=(67,aFL)::tbU6
theorem okU7:TbOk Tryz.prog X.G tbU7:=.cons (by kernel_rfl) aTV okU6
theorem aTW:Sx.Good Tryz.prog X.G 66 ⟨[.agg 3,.agg 3],.v1 (.agg 3)⟩ aAQ:=aAe okU7 (fun _ _=>X.G_below) 400 (by kernel_rfl) (by kernel_rfl:_=some aHb) fun ds rs h=>by
 obtain ⟨n,a,b,m,c,d,rfl,ha,hb,hc,hd,rfl⟩:=R2.inv h
 have hq:Sq 2000 (qv m c d):=.qv (by decide) hc hd
 refine ⟨0,aAb aFL rfl rfl (R1.eq (by omega) (by omega)) rfl (aAb aBh rfl rfl (R2.left ha hb hq.neg) rfl (aAc ?_))⟩
 rw [Rat.sub_eq_add_neg]
 rfl
def tbU8:Tb:=(66,aAQ)::tbU7
theorem okU8:TbOk Tryz.prog X.G tbU8:=.cons (by kernel_rfl) aTW okU7
theorem aTX:Sx.Good Tryz.prog X.G 91 ⟨[.agg 3,.agg 3],.v1 (.agg 3)⟩ aAC:=aAe okU8 (fun _ _=>X.G_below) 400 (by kernel_rfl) (by kernel_rfl:_=some aHc) fun ds rs h=>by
 obtain ⟨n,a,b,m,c,d,rfl,ha,hb,hc,hd,rfl⟩:=R2.inv h
 have s1:Sz 2000 (Z n a):=.of ha
 have s2:Sz 2000 (dn b):=.dn hb (by decide)
 have s3:Sz 2000 (Z m c):=.of hc
 have s4:Sz 2000 (dn d):=.dn hd (by decide)
 refine ⟨0,aAb aDq rfl rfl (Rc.eq (by omega) (by omega)) rfl (aAb aDq rfl rfl (Rc.eq (by omega) (by omega)) rfl (aAb aAd rfl rfl (I2.can (s1.le (by decide)) (s3.le (by decide))) rfl (aAb F_below rfl rfl (Rc.eq (by omega) (by omega)) rfl (aAb F_below rfl rfl (Rc.eq (by omega) (by omega)) rfl (aAb aAd rfl rfl (I2.can (s2.le (by decide)) (s4.le (by decide))) rfl (aAb aAw rfl rfl (I2.can ((s1.mul s3).le (by decide)) ((s2.mul s4).le (by decide))) rfl (aAc ?_)))))))⟩
 unfold qv
 rw [Rat.divInt_mul_divInt]
 rfl
def tbU9:Tb:=(91,aAC)::tbU8
theorem okU9:TbOk Tryz.prog X.G tbU9:=.cons (by kernel_rfl) aTX okU8
end Go.Proofs.YtjefbecmeobegaaGreatDoor.Sp
