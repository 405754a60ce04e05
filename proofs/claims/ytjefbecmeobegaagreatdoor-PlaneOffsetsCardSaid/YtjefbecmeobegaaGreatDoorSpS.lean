import Derived.Test.YtjefbecmeobegaaGreatDoorSpR
import Derived.Test.YtjefbecmeobegaaGreatDoorSpI
import Derived.Test.YtjefbecmeobegaaGreatDoorTr1
namespace Go.Proofs.YtjefbecmeobegaaGreatDoor.Sp
open Go Go.RowKit Sx NatA NatB NatC NatD NatI NatJ IntZ RatZ
theorem aNH {z:Int}:sgn z > 0 ↔ z > 0:=by
 unfold sgn
 split
 ·omega
 ·split<;>omega
theorem aNI {z:Int}:sgn z < 0 ↔ z < 0:=by
 unfold sgn
 split
 ·omega
 ·split<;>omega
theorem Sz.sg {s:Nat} {x:Nat} (b:Bool) (h:(N x).size<=s):Sz s (sg b x):=by
 show (N (IntZ.sg b x).natAbs).size<=s
 rw [aCo]
 exact h
def tbSa:Tb:=[(95,aDV)]
theorem okSa:TbOk Tryz.prog X.G tbSa:=.cons kK (aFL aM6 (S1.weak kQ)) trivial
theorem aSr:Sx.Good Tryz.prog X.G 96 ⟨[.one,.one],.v1 (.agg 2)⟩ aAj:=aAe okSa (λ _ _=>X.G_below) 400 kK (by kernel_rfl:_=some aDm) λ ds rs h=>by
 obtain ⟨n,a,rfl,ha,rfl⟩:=I1.inv h
 refine ⟨0,aAb aDV rfl rfl (S1.eq kJ) rfl ?_⟩
 show _=some (enc (sg n (V a)))
 generalize NatA.V a=x
 refine aAw rfl (λ h=>?_) (λ h=>?_)
 ·subst h
  refine aAf rfl (aFT _ _ _ _) (aAc ?_)
  show some [b_ (!decide (N x=(⟨#[]⟩:ByteArray))),s_ (N x)]=some [b_ (I (sg true x)).1,s_ (I (sg true x)).2]
  rw [aLv,aHQ]
 ·subst h
  refine aAc ?_
  show some [b_ false,s_ (N x)]=some [b_ (I (sg false x)).1,s_ (I (sg false x)).2]
  rw [aHQ,aKt]
def tbS0:Tb:=(96,aAj)::tbR
theorem okS0:TbOk Tryz.prog X.G tbS0:=.cons kK aSr okR
theorem aT4:Sx.Good Tryz.prog X.G 76 ⟨[.agg 2],.v1 (.agg 2)⟩ aAj:=aAe okS0 (λ _ _=>X.G_below) 400 kK (by kernel_rfl:_=some aCG) λ ds rs h=>by
 obtain ⟨n,a,rfl,ha,rfl⟩:=I1.inv h
 exact ⟨0,aAb aAj rfl rfl (I1.eq ha) rfl (aAc rfl)⟩
def tbS1:Tb:=(76,aAj)::tbS0
theorem okS1:TbOk Tryz.prog X.G tbS1:=.cons kK aT4 okS0
theorem aUt:Sx.Good Tryz.prog X.G 78 ⟨[.agg 2],.v1 (.agg 2)⟩ aAs:=aAe okS1 (λ _ _=>X.G_below) 400 kK (by kernel_rfl:_=some aCR) λ ds rs h=>by
 obtain ⟨n,a,rfl,ha,rfl⟩:=I1.inv h
 refine ⟨0,aAf rfl (aDR _) (aAb aAj rfl rfl (I1.eq ha) rfl (aAc ?_))⟩
 show some (enc (sg (!n) (V a)))=some (enc (-sg n (V a)))
 rw [aUm]
def tbS2:Tb:=(78,aAs)::tbS1
theorem okS2:TbOk Tryz.prog X.G tbS2:=.cons kK aUt okS1
theorem aUu:Sx.Good Tryz.prog X.G 110 ⟨[.agg 2,.agg 2],.v1 (.agg 2)⟩ aBF:=aAe okS2 (λ _ _=>X.G_below) 400 kK (by kernel_rfl:_=some aCS) λ ds rs h=>by
 obtain ⟨n,a,m,b,rfl,ha,hb,rfl⟩:=I2.inv h
 have sA:(N (V a+V b)).size<=9001:=aO7 a b (s:=9000) ha hb
 have sa:(N (V a - V b)).size<=9000:=Nat.le_trans (aDC (Nat.sub_le _ _)) ha
 have sb:(N (V b - V a)).size<=9000:=Nat.le_trans (aDC (Nat.sub_le _ _)) hb
 refine ⟨0,aAf rfl (aNo _ _ _ _ aBJ) ?_⟩
 show _=some (enc (sg n (V a)+sg m (V b)))
 refine aAw rfl (λ e=>?_) (λ e=>?_)
 ·obtain rfl:n=m:=by simpa using e
  refine aAb aFI rfl rfl (S2.eq kJ kJ) rfl (aAb aAj rfl rfl (I1.eq kJ) rfl (aAc ?_))
  show some (enc (sg n (V (N (V a+V b)))))=_
  rw [V_N,aIs]
 ·obtain rfl:m=!n:=aUl (by rw [e];decide)
  refine aAb aFJ rfl rfl (S2.eq kJ kJ) rfl ?_
  by_cases hl:V a < V b
  ·unfold aD0
   rw [if_pos hl]
   refine aBq rfl (aAb aFJ rfl rfl (S2.eq kJ kJ) rfl ?_)
   unfold aD0
   rw [if_neg kJ]
   refine aAb aAj rfl rfl (I1.eq (Nat.le_trans sb kQ)) rfl (aAc ?_)
   have e2:=aHH (!n) (V b) (V a) kJ
   rw [Bool.not_not,Int.add_comm] at e2
   show some (enc (sg (!n) (V (N (V b - V a)))))=_
   rw [V_N,e2]
  ·unfold aD0
   rw [if_neg hl]
   refine aAZ rfl (aAb aAj rfl rfl (I1.eq (Nat.le_trans sa kQ)) rfl (aAc ?_))
   show some (enc (sg n (V (N (V a - V b)))))=_
   rw [V_N,aHH n _ _ kJ]
def tbS3:Tb:=(110,aBF)::tbS2
theorem okS3:TbOk Tryz.prog X.G tbS3:=.cons kK aUu okS2
theorem aUv:Sx.Good Tryz.prog X.G 131 ⟨[.agg 2,.agg 2],.v1 (.agg 2)⟩ aBg:=aAe okS3 (λ _ _=>X.G_below) 400 kK (by kernel_rfl:_=some aCT) λ ds rs h=>by
 obtain ⟨n,a,m,b,rfl,ha,hb,rfl⟩:=I2.inv h
 have s2:Sz 9000 (Z m b):=.of hb
 exact ⟨0,aAb aAs rfl rfl (I1.eq kJ) rfl (aAb aBF rfl rfl (I2.left ha s2.neg) rfl (aAc rfl))⟩
def tbS4:Tb:=(131,aBg)::tbS3
theorem okS4:TbOk Tryz.prog X.G tbS4:=.cons kK aUv okS3
def tbSb:Tb:=[(97,aDA),(96,aAj)]
theorem okSb:TbOk Tryz.prog X.G tbSb:=.cons kK aOG (.cons kK aSr trivial)
theorem aUw:Sx.Good Tryz.prog X.G 36 ⟨[.agg 2,.agg 2],.v1 (.agg 2)⟩ aAd:=aAe okSb (λ _ _=>X.G_below) 400 kK (by kernel_rfl:_=some aHf) λ ds rs h=>by
 obtain ⟨n,a,m,b,rfl,ha,hb,rfl⟩:=I2.inv h
 have sm:(N (V a*V b)).size<=18000:=Nat.le_trans (aO8 a b) kJ
 refine ⟨0,aAf rfl (aDH _ _ _ _ aBJ) (aAb aDA rfl rfl (S2.eq kJ kJ) rfl (aAb aAj rfl rfl (I1.eq kJ) rfl (aAc ?_)))⟩
 show some (enc (sg (n != m) (V (N (V a*V b)))))=some (enc (sg n (V a)*sg m (V b)))
 rw [V_N,aMy]
def tbS5:Tb:=(36,aAd)::tbS4
theorem okS5:TbOk Tryz.prog X.G tbS5:=.cons kK aUw okS4
theorem aT5:Sx.Good Tryz.prog X.G 35 ⟨[.agg 2],.v1 .one⟩ aAx:=aAe okSa (λ _ _=>X.G_below) 400 kK (by kernel_rfl:_=some aCH) λ ds rs h=>by
 obtain ⟨n,a,rfl,ha,rfl⟩:=I1.inv h
 refine ⟨0,aAb aDV rfl rfl (S1.eq kJ) rfl ?_⟩
 show _=some [i_ (sgn (sg n (V a)))]
 rw [aUn]
 generalize NatA.V a=x
 refine aAf rfl (aC3 _ _ _ _) ?_
 refine aAw rfl (λ h=>?_) (λ h=>?_)
 ·rw [if_pos (N_nil.1 (of_decide_eq_true h))]
  exact aAc rfl
 ·rw [if_neg (λ e=>of_decide_eq_false h (N_nil.2 e))]
  refine aAw rfl (λ h=>?_) (λ h=>?_)
  ·rw [if_pos h]
   exact aAc rfl
  ·rw [if_neg (by rw [h];decide)]
   exact aAc rfl
def tbS6:Tb:=(35,aAx)::tbS5
theorem okS6:TbOk Tryz.prog X.G tbS6:=.cons kK aT5 okS5
theorem aT6:Sx.Good Tryz.prog X.G 55 ⟨[.one],.v1 (.agg 2)⟩ F_ifrom:=aAe okS6 (λ _ _=>X.G_below) 400 kK (by kernel_rfl:_=some aCI) λ ds rs h=>by
 obtain ⟨n,rfl,h0,h1,rfl⟩:=F_ifrom.inv h
 refine ⟨0,aAf rfl (aAi _ _ _ _ _) ?_⟩
 have w64:∀ i:Int,-9223372036854775808<=i->i<=9223372036854775807->IntKind.i64.wrap i=i:=λ i h0 h1=>by rw [IntKind.wrap_i64];omega
 have wu:∀ i:Int,0<=i->i < 18446744073709551616->IntKind.u64.wrap i=i:=λ i h0 h1=>by rw [IntKind.wrap_u64];omega
 have sx:∀ x:Nat,x < 18446744073709551616->(N x).size<=19000:=λ x h=>Nat.le_trans ((aAH x 8).2 kJ) kQ
 refine aAw rfl (λ h=>?_) (λ h=>?_)
 ·have h:=of_decide_eq_true h
  obtain ⟨x,hx⟩:∃ x:Nat,-n=x:=⟨(-n).toNat,by omega⟩
  refine aAf rfl (aEf _ _ _ _ _) (aAf rfl (aDe _ _) (aAf rfl (aDv aF9 _ _ aF8) (aAf rfl (aEf _ _ _ _ _) ?_)))
  rw [w64 (n+1) kJ kJ,w64 (0 - (n+1)) kJ kJ,wu (0 - (n+1)) kJ kJ,wu _ kJ kJ,show 0 - (n+1)+1=(x:Int) by omega]
  refine aAb F_from rfl rfl (F_from.eq kJ) rfl (aAb aAj rfl rfl (I1.eq (sx x kJ)) rfl (aAc ?_))
  show some (enc (sg true (V (N x))))=_
  rw [V_N,show n=sg true x by unfold sg;rw [if_pos rfl];omega]
 ·have h:=of_decide_eq_false h
  obtain ⟨x,rfl⟩:=Int.eq_ofNat_of_zero_le (show 0<=n by omega)
  refine aAf rfl (aDv aF9 _ _ aF8) ?_
  rw [wu _ kJ kJ]
  refine aAb F_from rfl rfl (F_from.eq kJ) rfl (aAb aAj rfl rfl (I1.eq (sx x kJ)) rfl (aAc ?_))
  show some (enc (sg false (V (N x))))=_
  rw [V_N]
  rfl
def tbS7:Tb:=(55,F_ifrom)::tbS6
theorem okS7:TbOk Tryz.prog X.G tbS7:=.cons kK aT6 okS6
set_option maxHeartbeats 2000000 in
theorem aUx:Sx.Good Tryz.prog X.G 79 ⟨[.agg 2,.agg 2],.tup [.agg 2,.agg 2,.one]⟩ aAh:=aAe okS7 (λ _ _=>X.G_below) 400 kK (by kernel_rfl:_=some aCU) λ ds rs h=>by
 obtain ⟨n1,a,n2,b,rfl,ha,hb,rfl⟩:=I2.inv h
 have vb:=aDZ b
 have s1:(N (V a / V b)).size<=9000:=aQU a _ ha
 have s2:(N (V a % V b)).size<=9000:=aQV a _ ha
 have s3:(N (V b)).size<=9000:=aC6 hb
 have z2:Z n2 b=sg n2 (V b):=rfl
 have zf:Z false b=sg false (V b):=rfl
 refine ⟨0,aAb aCx rfl rfl (S2.eq kJ kJ) rfl ?_⟩
 show _=some (aGy (sg n1 (V a)) (sg n2 (V b)))
 have sgb:=I1.eq (lim:=19000) (g:=λ x=>[i_ (sgn x)]) (n:=n2) (a:=b) kJ
 have ofb:=I1.eq (lim:=19000) (g:=enc) (n:=false) (a:=b) kJ
 rw [z2] at sgb
 rw [zf] at ofb
 generalize hA:NatA.V a=A at *
 generalize hB:NatA.V b=B at *
 unfold aC5 aGy aEb
 by_cases h0:B=0
 ·rw [if_pos h0,if_pos (by rw [h0];unfold sg;split<;>rfl)]
  exact aAf rfl (aDR _) (aAZ rfl (aAc rfl))
 rw [if_neg h0,if_neg (by unfold sg;split<;>omega)]
 have hb0:0 < B:=by omega
 obtain ⟨q,hq⟩:∃ q,q=A / B:=⟨_,rfl⟩
 obtain ⟨r,hr⟩:∃ r,r=A % B:=⟨_,rfl⟩
 have hqr:B*q+r=A:=by rw [hq,hr];exact Nat.div_add_mod A B
 have hrl:r < B:=by rw [hr];exact Nat.mod_lt _ hb0
 have hqr':(A:Int)=(B:Int)*q+r:=by rw [<- hqr,Int.natCast_add,Int.natCast_mul]
 rw [<- hq,<- hr]
 rw [<- hq] at s1
 rw [<- hr] at s2
 have ofN:∀ (b:Bool) (x:Nat),(N x).size<=19000->aAj [b_ b,s_ (N x)]=some (enc (sg b x)):=λ b x h=>by
  have:=I1.eq (lim:=19000) (g:=enc) (n:=b) (a:=N x) h
  unfold Z at this
  rw [V_N] at this
  exact this
 refine aAf rfl (aDR _) (aBq rfl (aAb aAj rfl rfl (ofN _ r kJ) rfl (aAf rfl (aDH _ _ _ _ aBJ) (aAb aAj rfl rfl (ofN _ q kJ) rfl (aAb aAx rfl rfl (I1.can (Sz.sg n1 (s:=19000) kJ)) rfl (aAf rfl (aAi _ _ _ _ _) ?_))))))
 by_cases hneg:sg n1 r < 0
 ·refine aAZ (congrArg (λ x=>some (b_ x)) (decide_eq_true (aNI.2 hneg))) (aAb aAj rfl rfl ofb rfl ?_)
  have hn1:n1=true/\r≠0:=by
   unfold sg at hneg
   cases n1
   ·rw [if_neg kQ] at hneg;omega
   ·exact ⟨rfl,by rw [if_pos rfl] at hneg;omega⟩
  obtain ⟨rfl,hr0⟩:=hn1
  have e:=aGm (x:=sg true A) (q:=-((q+1:Nat):Int)) (r:=((B - r:Nat):Int)) (b:=n2) hb0 (by show -(A:Int)=_;rw [hqr',Int.mul_neg,Int.natCast_add,Int.mul_add];omega) kJ kJ
  have i1:Sz 9000 (sg true r):=Sz.sg _ s2
  have i2:Sz 9000 (sg false B):=Sz.sg _ s3
  have i4:Sz 9000 1:=(Sz.i64 kQ kQ).le kQ
  refine aAb aBF rfl rfl (I2.can i1 i2) rfl ?_
  rw [show sg true r+sg false B=((B - r:Nat):Int) by show -(r:Int)+(B:Int)=_;omega]
  refine aAb aAx rfl rfl sgb rfl (aAf rfl (aA8 _ _ _ _ _) ?_)
  rw [e.1,e.2]
  cases n2 with
  | false =>
   refine aAZ (congrArg (λ x=>some (b_ x)) (decide_eq_true (aNH.2 (by show (B:Int) > 0;omega)))) (aAb F_ifrom rfl rfl (F_ifrom.eq kQ kQ) rfl (aAb aBg rfl rfl (I2.can (Sz.sg _ s1) i4) rfl (aAc ?_)))
   show some (enc (sg (true != false) q - 1)++enc ((B - r:Nat):Int)++[b_ true])=_
   rw [show sg (true != false) q - 1=-((q+1:Nat):Int) by show -(q:Int) - 1=_;omega]
   rfl
  | true =>
   refine aBq (congrArg (λ x=>some (b_ x)) (decide_eq_false (by rw [aNH];show ¬ -(B:Int) > 0;omega))) (aAb F_ifrom rfl rfl (F_ifrom.eq kQ kQ) rfl (aAb aBF rfl rfl (I2.can (Sz.sg _ s1) i4) rfl (aAc ?_)))
   show some (enc (sg (true != true) q+1)++enc ((B - r:Nat):Int)++[b_ true])=_
   rw [show sg (true != true) q+1=- -((q+1:Nat):Int) by show (q:Int)+1=_;omega]
   rfl
 ·refine aBq (congrArg (λ x=>some (b_ x)) (decide_eq_false (λ e=>hneg (aNI.1 e)))) (aAc ?_)
  have e:=aGm (x:=sg n1 A) (q:=sg n1 q) (r:=sg n1 r) (b:=n2) hb0 (by
   have h1:=aMy false n1 B q
   have h2:=aIs n1 (B*q) r
   rw [hqr] at h2
   rw [h2,show sg n1 (B*q)=(B:Int)*sg n1 q from by
    have h3:sg false B=(B:Int):=rfl
    rw [h3] at h1
    rw [h1]
    cases n1<;>rfl]) kJ (by
   unfold sg
   split<;>omega)
  show some (enc (sg (n1 != n2) q)++enc (sg n1 r)++[b_ true])=_
  rw [e.1,e.2,show (if n2=true then -sg n1 q else sg n1 q)=sg (n1 != n2) q by cases n1<;>cases n2<;>simp [sg]]
  rfl
def tbS8:Tb:=(79,aAh)::tbS7
theorem aOE:TbOk Tryz.prog X.G tbS8:=.cons kK aUx okS7
end Go.Proofs.YtjefbecmeobegaaGreatDoor.Sp
