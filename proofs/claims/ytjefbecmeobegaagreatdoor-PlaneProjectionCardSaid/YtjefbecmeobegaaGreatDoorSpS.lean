import Derived.Test.YtjefbecmeobegaaGreatDoorSpR
import Derived.Test.YtjefbecmeobegaaGreatDoorSpI
import Derived.Test.YtjefbecmeobegaaGreatDoorTr1
namespace Go.Proofs.YtjefbecmeobegaaGreatDoor.Sp
open Go Go.RowKit Sx NatA NatB NatC NatD NatI NatJ IntZ RatZ
theorem aNA {z:Int}:sgn z > 0 ↔ z > 0:=by
 unfold sgn
 split
 ·omega
 ·split<;>omega
theorem aNB {z:Int}:sgn z < 0 ↔ z < 0:=by
 unfold sgn
 split
 ·omega
 ·split<;>omega
theorem Sz.sg {s:Nat} {x:Nat} (b:Bool) (h:(N x).size<=s):Sz s (sg b x):=by
 show (N (IntZ.sg b x).natAbs).size<=s
 rw [aCm]
 exact h
def tbSa:Tb:=[(95,aDR)]
theorem okSa:TbOk Tryz.prog X.G tbSa:=.cons kK (aFI aM2 (S1.weak kQ)) trivial
theorem aSc:Sx.Good Tryz.prog X.G 96 ⟨[.one,.one],.v1 (.agg 2)⟩ aAk:=aAe okSa (λ _ _=>X.G_below) 400 kK (by kernel_rfl:_=some aDo) λ ds rs h=>by
 obtain ⟨n,a,rfl,ha,rfl⟩:=I1.inv h
 refine ⟨0,aAb aDR rfl rfl (S1.eq kJ) rfl ?_⟩
 show _=some (enc (sg n (V a)))
 generalize NatA.V a=x
 refine aAy rfl (λ h=>?_) (λ h=>?_)
 ·subst h
  refine aAf rfl (aFR _ _ _ _) (aAc ?_)
  show some [b_ (!decide (N x=(⟨#[]⟩:ByteArray))),s_ (N x)]=some [b_ (I (sg true x)).1,s_ (I (sg true x)).2]
  rw [aLu,aHQ]
 ·subst h
  refine aAc ?_
  show some [b_ false,s_ (N x)]=some [b_ (I (sg false x)).1,s_ (I (sg false x)).2]
  rw [aHQ,aKt]
def tbS0:Tb:=(96,aAk)::tbR
theorem okS0:TbOk Tryz.prog X.G tbS0:=.cons kK aSc okR
theorem aTm:Sx.Good Tryz.prog X.G 76 ⟨[.agg 2],.v1 (.agg 2)⟩ aAk:=aAe okS0 (λ _ _=>X.G_below) 400 kK (by kernel_rfl:_=some aCG) λ ds rs h=>by
 obtain ⟨n,a,rfl,ha,rfl⟩:=I1.inv h
 exact ⟨0,aAb aAk rfl rfl (I1.eq ha) rfl (aAc rfl)⟩
def tbS1:Tb:=(76,aAk)::tbS0
theorem okS1:TbOk Tryz.prog X.G tbS1:=.cons kK aTm okS0
theorem aUi:Sx.Good Tryz.prog X.G 78 ⟨[.agg 2],.v1 (.agg 2)⟩ aA4:=aAe okS1 (λ _ _=>X.G_below) 400 kK (by kernel_rfl:_=some aCS) λ ds rs h=>by
 obtain ⟨n,a,rfl,ha,rfl⟩:=I1.inv h
 refine ⟨0,aAf rfl (aDM _) (aAb aAk rfl rfl (I1.eq ha) rfl (aAc ?_))⟩
 show some (enc (sg (!n) (V a)))=some (enc (-sg n (V a)))
 rw [aTV]
def tbS2:Tb:=(78,aA4)::tbS1
theorem okS2:TbOk Tryz.prog X.G tbS2:=.cons kK aUi okS1
theorem aUj:Sx.Good Tryz.prog X.G 110 ⟨[.agg 2,.agg 2],.v1 (.agg 2)⟩ aBE:=aAe okS2 (λ _ _=>X.G_below) 400 kK (by kernel_rfl:_=some aCT) λ ds rs h=>by
 obtain ⟨n,a,m,b,rfl,ha,hb,rfl⟩:=I2.inv h
 have sA:(N (V a+V b)).size<=9001:=aO1 a b (s:=9000) ha hb
 have sa:(N (V a - V b)).size<=9000:=Nat.le_trans (aDA (Nat.sub_le _ _)) ha
 have sb:(N (V b - V a)).size<=9000:=Nat.le_trans (aDA (Nat.sub_le _ _)) hb
 refine ⟨0,aAf rfl (aNk _ _ _ _ aB6) ?_⟩
 show _=some (enc (sg n (V a)+sg m (V b)))
 refine aAy rfl (λ e=>?_) (λ e=>?_)
 ·obtain rfl:n=m:=by simpa using e
  refine aAb aFF rfl rfl (S2.eq kJ kJ) rfl (aAb aAk rfl rfl (I1.eq kJ) rfl (aAc ?_))
  show some (enc (sg n (V (N (V a+V b)))))=_
  rw [V_N,aIr]
 ·obtain rfl:m=!n:=aTU (by rw [e];decide)
  refine aAb aFG rfl rfl (S2.eq kJ kJ) rfl ?_
  by_cases hl:V a < V b
  ·unfold aDz
   rw [if_pos hl]
   refine aBv rfl (aAb aFG rfl rfl (S2.eq kJ kJ) rfl ?_)
   unfold aDz
   rw [if_neg kJ]
   refine aAb aAk rfl rfl (I1.eq (Nat.le_trans sb kQ)) rfl (aAc ?_)
   have e2:=aHK (!n) (V b) (V a) kJ
   rw [Bool.not_not,Int.add_comm] at e2
   show some (enc (sg (!n) (V (N (V b - V a)))))=_
   rw [V_N,e2]
  ·unfold aDz
   rw [if_neg hl]
   refine aBd rfl (aAb aAk rfl rfl (I1.eq (Nat.le_trans sa kQ)) rfl (aAc ?_))
   show some (enc (sg n (V (N (V a - V b)))))=_
   rw [V_N,aHK n _ _ kJ]
def tbS3:Tb:=(110,aBE)::tbS2
theorem okS3:TbOk Tryz.prog X.G tbS3:=.cons kK aUj okS2
theorem aUk:Sx.Good Tryz.prog X.G 131 ⟨[.agg 2,.agg 2],.v1 (.agg 2)⟩ aBb:=aAe okS3 (λ _ _=>X.G_below) 400 kK (by kernel_rfl:_=some aCU) λ ds rs h=>by
 obtain ⟨n,a,m,b,rfl,ha,hb,rfl⟩:=I2.inv h
 have s2:Sz 9000 (Z m b):=.of hb
 exact ⟨0,aAb aA4 rfl rfl (I1.eq kJ) rfl (aAb aBE rfl rfl (I2.left ha s2.neg) rfl (aAc rfl))⟩
def tbS4:Tb:=(131,aBb)::tbS3
theorem okS4:TbOk Tryz.prog X.G tbS4:=.cons kK aUk okS3
def tbSb:Tb:=[(97,aD8),(96,aAk)]
theorem okSb:TbOk Tryz.prog X.G tbSb:=.cons kK aOB (.cons kK aSc trivial)
theorem aUl:Sx.Good Tryz.prog X.G 36 ⟨[.agg 2,.agg 2],.v1 (.agg 2)⟩ aAd:=aAe okSb (λ _ _=>X.G_below) 400 kK (by kernel_rfl:_=some aHg) λ ds rs h=>by
 obtain ⟨n,a,m,b,rfl,ha,hb,rfl⟩:=I2.inv h
 have sm:(N (V a*V b)).size<=18000:=Nat.le_trans (aO2 a b) kJ
 refine ⟨0,aAf rfl (aDu _ _ _ _ aB6) (aAb aD8 rfl rfl (S2.eq kJ kJ) rfl (aAb aAk rfl rfl (I1.eq kJ) rfl (aAc ?_)))⟩
 show some (enc (sg (n != m) (V (N (V a*V b)))))=some (enc (sg n (V a)*sg m (V b)))
 rw [V_N,aMx]
def tbS5:Tb:=(36,aAd)::tbS4
theorem okS5:TbOk Tryz.prog X.G tbS5:=.cons kK aUl okS4
theorem aTn:Sx.Good Tryz.prog X.G 35 ⟨[.agg 2],.v1 .one⟩ aAq:=aAe okSa (λ _ _=>X.G_below) 400 kK (by kernel_rfl:_=some aCH) λ ds rs h=>by
 obtain ⟨n,a,rfl,ha,rfl⟩:=I1.inv h
 refine ⟨0,aAb aDR rfl rfl (S1.eq kJ) rfl ?_⟩
 show _=some [i_ (sgn (sg n (V a)))]
 rw [aTW]
 generalize NatA.V a=x
 refine aAf rfl (aC0 _ _ _ _) ?_
 refine aAy rfl (λ h=>?_) (λ h=>?_)
 ·rw [if_pos (N_nil.1 (of_decide_eq_true h))]
  exact aAc rfl
 ·rw [if_neg (λ e=>of_decide_eq_false h (N_nil.2 e))]
  refine aAy rfl (λ h=>?_) (λ h=>?_)
  ·rw [if_pos h]
   exact aAc rfl
  ·rw [if_neg (by rw [h];decide)]
   exact aAc rfl
def tbS6:Tb:=(35,aAq)::tbS5
theorem okS6:TbOk Tryz.prog X.G tbS6:=.cons kK aTn okS5
theorem aTo:Sx.Good Tryz.prog X.G 55 ⟨[.one],.v1 (.agg 2)⟩ F_ifrom:=aAe okS6 (λ _ _=>X.G_below) 400 kK (by kernel_rfl:_=some aCI) λ ds rs h=>by
 obtain ⟨n,rfl,h0,h1,rfl⟩:=F_ifrom.inv h
 refine ⟨0,aAf rfl (aAj _ _ _ _ _) ?_⟩
 have w64:∀ i:Int,-9223372036854775808<=i->i<=9223372036854775807->IntKind.i64.wrap i=i:=λ i h0 h1=>by rw [IntKind.wrap_i64];omega
 have wu:∀ i:Int,0<=i->i < 18446744073709551616->IntKind.u64.wrap i=i:=λ i h0 h1=>by rw [IntKind.wrap_u64];omega
 have sx:∀ x:Nat,x < 18446744073709551616->(N x).size<=19000:=λ x h=>Nat.le_trans ((aAH x 8).2 kJ) kQ
 refine aAy rfl (λ h=>?_) (λ h=>?_)
 ·have h:=of_decide_eq_true h
  obtain ⟨x,hx⟩:∃ x:Nat,-n=x:=⟨(-n).toNat,by omega⟩
  refine aAf rfl (aEe _ _ _ _ _) (aAf rfl (aLG _ _) (aAf rfl (aDv aF6 _ _ aF5) (aAf rfl (aEe _ _ _ _ _) ?_)))
  rw [w64 (n+1) kJ kJ,w64 (0 - (n+1)) kJ kJ,wu (0 - (n+1)) kJ kJ,wu _ kJ kJ,show 0 - (n+1)+1=(x:Int) by omega]
  refine aAb F_from rfl rfl (F_from.eq kJ) rfl (aAb aAk rfl rfl (I1.eq (sx x kJ)) rfl (aAc ?_))
  show some (enc (sg true (V (N x))))=_
  rw [V_N,show n=sg true x by unfold sg;rw [if_pos rfl];omega]
 ·have h:=of_decide_eq_false h
  obtain ⟨x,rfl⟩:=Int.eq_ofNat_of_zero_le (show 0<=n by omega)
  refine aAf rfl (aDv aF6 _ _ aF5) ?_
  rw [wu _ kJ kJ]
  refine aAb F_from rfl rfl (F_from.eq kJ) rfl (aAb aAk rfl rfl (I1.eq (sx x kJ)) rfl (aAc ?_))
  show some (enc (sg false (V (N x))))=_
  rw [V_N]
  rfl
def tbS7:Tb:=(55,F_ifrom)::tbS6
theorem okS7:TbOk Tryz.prog X.G tbS7:=.cons kK aTo okS6
set_option maxHeartbeats 2000000 in
theorem aUm:Sx.Good Tryz.prog X.G 79 ⟨[.agg 2,.agg 2],.tup [.agg 2,.agg 2,.one]⟩ aAg:=aAe okS7 (λ _ _=>X.G_below) 400 kK (by kernel_rfl:_=some aCV) λ ds rs h=>by
 obtain ⟨n1,a,n2,b,rfl,ha,hb,rfl⟩:=I2.inv h
 have vb:=aDV b
 have s1:(N (V a / V b)).size<=9000:=aQC a _ ha
 have s2:(N (V a % V b)).size<=9000:=aQD a _ ha
 have s3:(N (V b)).size<=9000:=aC3 hb
 have z2:Z n2 b=sg n2 (V b):=rfl
 have zf:Z false b=sg false (V b):=rfl
 refine ⟨0,aAb aCv rfl rfl (S2.eq kJ kJ) rfl ?_⟩
 show _=some (aGw (sg n1 (V a)) (sg n2 (V b)))
 have sgb:=I1.eq (lim:=19000) (g:=λ x=>[i_ (sgn x)]) (n:=n2) (a:=b) kJ
 have ofb:=I1.eq (lim:=19000) (g:=enc) (n:=false) (a:=b) kJ
 rw [z2] at sgb
 rw [zf] at ofb
 generalize hA:NatA.V a=A at *
 generalize hB:NatA.V b=B at *
 unfold aC2 aGw aDX
 by_cases h0:B=0
 ·rw [if_pos h0,if_pos (by rw [h0];unfold sg;split<;>rfl)]
  exact aAf rfl (aDM _) (aBd rfl (aAc rfl))
 rw [if_neg h0,if_neg (by unfold sg;split<;>omega)]
 have hb0:0 < B:=by omega
 obtain ⟨q,hq⟩:∃ q,q=A / B:=⟨_,rfl⟩
 obtain ⟨r,hr⟩:∃ r,r=A % B:=⟨_,rfl⟩
 have hqr:B*q+r=A:=by rw [hq,hr];exact Nat.div_add_mod A B
 have hrl:r < B:=by rw [hr];exact Nat.mod_lt _ hb0
 have hqr':(A:Int)=(B:Int)*q+r:=by rw [<- hqr,Int.natCast_add,Int.natCast_mul]
 rw [<- hq,<- hr]
 rw [<- hq] at s1
 rw [<- hr] at s2
 have ofN:∀ (b:Bool) (x:Nat),(N x).size<=19000->aAk [b_ b,s_ (N x)]=some (enc (sg b x)):=λ b x h=>by
  have:=I1.eq (lim:=19000) (g:=enc) (n:=b) (a:=N x) h
  unfold Z at this
  rw [V_N] at this
  exact this
 refine aAf rfl (aDM _) (aBv rfl (aAb aAk rfl rfl (ofN _ r kJ) rfl (aAf rfl (aDu _ _ _ _ aB6) (aAb aAk rfl rfl (ofN _ q kJ) rfl (aAb aAq rfl rfl (I1.can (Sz.sg n1 (s:=19000) kJ)) rfl (aAf rfl (aAj _ _ _ _ _) ?_))))))
 by_cases hneg:sg n1 r < 0
 ·refine aBd (congrArg (λ x=>some (b_ x)) (decide_eq_true (aNB.2 hneg))) (aAb aAk rfl rfl ofb rfl ?_)
  have hn1:n1=true/\r≠0:=by
   unfold sg at hneg
   cases n1
   ·rw [if_neg kQ] at hneg;omega
   ·exact ⟨rfl,by rw [if_pos rfl] at hneg;omega⟩
  obtain ⟨rfl,hr0⟩:=hn1
  have e:=aGk (x:=sg true A) (q:=-((q+1:Nat):Int)) (r:=((B - r:Nat):Int)) (b:=n2) hb0 (by show -(A:Int)=_;rw [hqr',Int.mul_neg,Int.natCast_add,Int.mul_add];omega) kJ kJ
  have i1:Sz 9000 (sg true r):=Sz.sg _ s2
  have i2:Sz 9000 (sg false B):=Sz.sg _ s3
  have i4:Sz 9000 1:=(Sz.i64 kQ kQ).le kQ
  refine aAb aBE rfl rfl (I2.can i1 i2) rfl ?_
  rw [show sg true r+sg false B=((B - r:Nat):Int) by show -(r:Int)+(B:Int)=_;omega]
  refine aAb aAq rfl rfl sgb rfl (aAf rfl (aAz _ _ _ _ _) ?_)
  rw [e.1,e.2]
  cases n2 with
  | false =>
   refine aBd (congrArg (λ x=>some (b_ x)) (decide_eq_true (aNA.2 (by show (B:Int) > 0;omega)))) (aAb F_ifrom rfl rfl (F_ifrom.eq kQ kQ) rfl (aAb aBb rfl rfl (I2.can (Sz.sg _ s1) i4) rfl (aAc ?_)))
   show some (enc (sg (true != false) q - 1)++enc ((B - r:Nat):Int)++[b_ true])=_
   rw [show sg (true != false) q - 1=-((q+1:Nat):Int) by show -(q:Int) - 1=_;omega]
   rfl
  | true =>
   refine aBv (congrArg (λ x=>some (b_ x)) (decide_eq_false (by rw [aNA];show ¬ -(B:Int) > 0;omega))) (aAb F_ifrom rfl rfl (F_ifrom.eq kQ kQ) rfl (aAb aBE rfl rfl (I2.can (Sz.sg _ s1) i4) rfl (aAc ?_)))
   show some (enc (sg (true != true) q+1)++enc ((B - r:Nat):Int)++[b_ true])=_
   rw [show sg (true != true) q+1=- -((q+1:Nat):Int) by show (q:Int)+1=_;omega]
   rfl
 ·refine aBv (congrArg (λ x=>some (b_ x)) (decide_eq_false (λ e=>hneg (aNB.1 e)))) (aAc ?_)
  have e:=aGk (x:=sg n1 A) (q:=sg n1 q) (r:=sg n1 r) (b:=n2) hb0 (by
   have h1:=aMx false n1 B q
   have h2:=aIr n1 (B*q) r
   rw [hqr] at h2
   rw [h2,show sg n1 (B*q)=(B:Int)*sg n1 q from by
    have h3:sg false B=(B:Int):=rfl
    rw [h3] at h1
    rw [h1]
    cases n1<;>rfl]) kJ (by
   unfold sg
   split<;>omega)
  show some (enc (sg (n1 != n2) q)++enc (sg n1 r)++[b_ true])=_
  rw [e.1,e.2,show (if n2=true then -sg n1 q else sg n1 q)=sg (n1 != n2) q by cases n1<;>cases n2<;>simp [sg]]
  rfl
def aQY:Tb:=(79,aAg)::tbS7
theorem aKo:TbOk Tryz.prog X.G aQY:=.cons kK aUm okS7
end Go.Proofs.YtjefbecmeobegaaGreatDoor.Sp
