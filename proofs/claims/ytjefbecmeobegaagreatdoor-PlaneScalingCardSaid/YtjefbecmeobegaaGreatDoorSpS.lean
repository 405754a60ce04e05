import Derived.Test.YtjefbecmeobegaaGreatDoorSpR
import Derived.Test.YtjefbecmeobegaaGreatDoorSpI
import Derived.Test.YtjefbecmeobegaaGreatDoorTr1
namespace Go.Proofs.YtjefbecmeobegaaGreatDoor.Sp
open Go Go.RowKit Sx NatA NatB NatC NatD NatI NatJ IntZ RatZ
theorem aNh {z:Int}:sgn z > 0 ↔ z > 0:=by
 unfold sgn
 split
 ·omega
 ·split<;>omega
theorem aNi {z:Int}:sgn z < 0 ↔ z < 0:=by
 unfold sgn
 split
 ·omega
 ·split<;>omega
theorem Sz.sg {s:Nat} {x:Nat} (b:Bool) (h:(N x).size≤s):Sz s (sg b x):=by
 show (N (IntZ.sg b x).natAbs).size≤s
 rw [aCc]
 exact h
def tbSa:Tb:=[(95,aDD)]
theorem okSa:TbOk Tryz.prog X.G tbSa:=.cons (by kernel_rfl) (aFB aMd (S1.weak (by decide))) trivial
theorem aRE:Sx.Good Tryz.prog X.G 96 ⟨[.one,.one],.v1 (.agg 2)⟩ aAn:=aAf okSa (fun _ _=>X.G_below) 400 (by kernel_rfl) (by kernel_rfl:_=some aDb) fun ds rs h=>by
 obtain ⟨n,a,rfl,ha,rfl⟩:=I1.inv h
 refine ⟨0,aAc aDD rfl rfl (S1.eq (by omega)) rfl ?_⟩
 show _=some (enc (sg n (V a)))
 generalize NatA.V a=x
 refine aAr rfl (fun h=>?_) (fun h=>?_)
 ·subst h
  refine aAe rfl (aFL _ _ _ _) (aAb ?_)
  show some [b_ (!decide (N x=(⟨#[]⟩:ByteArray))),s_ (N x)]=some [b_ (I (sg true x)).1,s_ (I (sg true x)).2]
  rw [aKR,aH4]
 ·subst h
  refine aAb ?_
  show some [b_ false,s_ (N x)]=some [b_ (I (sg false x)).1,s_ (I (sg false x)).2]
  rw [aH4,aJO]
def tbS0:Tb:=(96,aAn)::tbR
theorem okS0:TbOk Tryz.prog X.G tbS0:=.cons (by kernel_rfl) aRE okR
theorem aSC:Sx.Good Tryz.prog X.G 76 ⟨[.agg 2],.v1 (.agg 2)⟩ aAn:=aAf okS0 (fun _ _=>X.G_below) 400 (by kernel_rfl) (by kernel_rfl:_=some aC2) fun ds rs h=>by
 obtain ⟨n,a,rfl,ha,rfl⟩:=I1.inv h
 exact ⟨0,aAc aAn rfl rfl (I1.eq ha) rfl (aAb rfl)⟩
def tbS1:Tb:=(76,aAn)::tbS0
theorem okS1:TbOk Tryz.prog X.G tbS1:=.cons (by kernel_rfl) aSC okS0
theorem aT0:Sx.Good Tryz.prog X.G 78 ⟨[.agg 2],.v1 (.agg 2)⟩ aAG:=aAf okS1 (fun _ _=>X.G_below) 400 (by kernel_rfl) (by kernel_rfl:_=some aCF) fun ds rs h=>by
 obtain ⟨n,a,rfl,ha,rfl⟩:=I1.inv h
 refine ⟨0,aAe rfl (aBs _) (aAc aAn rfl rfl (I1.eq ha) rfl (aAb ?_))⟩
 show some (enc (sg (!n) (V a)))=some (enc (-sg n (V a)))
 rw [aTv]
def tbS2:Tb:=(78,aAG)::tbS1
theorem okS2:TbOk Tryz.prog X.G tbS2:=.cons (by kernel_rfl) aT0 okS1
theorem aT1:Sx.Good Tryz.prog X.G 110 ⟨[.agg 2,.agg 2],.v1 (.agg 2)⟩ aB9:=aAf okS2 (fun _ _=>X.G_below) 400 (by kernel_rfl) (by kernel_rfl:_=some aCG) fun ds rs h=>by
 obtain ⟨n,a,m,b,rfl,ha,hb,rfl⟩:=I2.inv h
 have sA:(N (V a+V b)).size≤9001:=aOe a b (s:=9000) ha hb
 have sa:(N (V a - V b)).size≤9000:=Nat.le_trans (aDw (Nat.sub_le _ _)) ha
 have sb:(N (V b - V a)).size≤9000:=Nat.le_trans (aDw (Nat.sub_le _ _)) hb
 refine ⟨0,aAe rfl (aJk _ _ _ _ aAE) ?_⟩
 show _=some (enc (sg n (V a)+sg m (V b)))
 refine aAr rfl (fun e=>?_) (fun e=>?_)
 ·obtain rfl:n=m:=by simpa using e
  refine aAc aF7 rfl rfl (S2.eq (by omega) (by omega)) rfl (aAc aAn rfl rfl (I1.eq (by omega)) rfl (aAb ?_))
  show some (enc (sg n (V (N (V a+V b)))))=_
  rw [V_N,aHT]
 ·obtain rfl:m=!n:=aTu (by rw [e];decide)
  refine aAc aF8 rfl rfl (S2.eq (by omega) (by omega)) rfl ?_
  by_cases hl:V a < V b
  ·unfold aDm
   rw [if_pos hl]
   refine aBw rfl (aAc aF8 rfl rfl (S2.eq (by omega) (by omega)) rfl ?_)
   unfold aDm
   rw [if_neg (by omega)]
   refine aAc aAn rfl rfl (I1.eq (Nat.le_trans sb (by decide))) rfl (aAb ?_)
   have e2:=aHw (!n) (V b) (V a) (by omega)
   rw [Bool.not_not,Int.add_comm] at e2
   show some (enc (sg (!n) (V (N (V b - V a)))))=_
   rw [V_N,e2]
  ·unfold aDm
   rw [if_neg hl]
   refine aBe rfl (aAc aAn rfl rfl (I1.eq (Nat.le_trans sa (by decide))) rfl (aAb ?_))
   show some (enc (sg n (V (N (V a - V b)))))=_
   rw [V_N,aHw n _ _ (by omega)]
def tbS3:Tb:=(110,aB9)::tbS2
theorem okS3:TbOk Tryz.prog X.G tbS3:=.cons (by kernel_rfl) aT1 okS2
theorem aT2:Sx.Good Tryz.prog X.G 131 ⟨[.agg 2,.agg 2],.v1 (.agg 2)⟩ aAW:=aAf okS3 (fun _ _=>X.G_below) 400 (by kernel_rfl) (by kernel_rfl:_=some aCH) fun ds rs h=>by
 obtain ⟨n,a,m,b,rfl,ha,hb,rfl⟩:=I2.inv h
 have s2:Sz 9000 (Z m b):=.of hb
 exact ⟨0,aAc aAG rfl rfl (I1.eq (by omega)) rfl (aAc aB9 rfl rfl (I2.left ha s2.neg) rfl (aAb rfl))⟩
def tbS4:Tb:=(131,aAW)::tbS3
theorem okS4:TbOk Tryz.prog X.G tbS4:=.cons (by kernel_rfl) aT2 okS3
def tbSb:Tb:=[(97,aDs),(96,aAn)]
theorem okSb:TbOk Tryz.prog X.G tbSb:=.cons (by kernel_rfl) aOl (.cons (by kernel_rfl) aRE trivial)
theorem aP6:Sx.Good Tryz.prog X.G 36 ⟨[.agg 2,.agg 2],.v1 (.agg 2)⟩ aAd:=aAf okSb (fun _ _=>X.G_below) 400 (by kernel_rfl) (by kernel_rfl:_=some aGN) fun ds rs h=>by
 obtain ⟨n,a,m,b,rfl,ha,hb,rfl⟩:=I2.inv h
 have sm:(N (V a*V b)).size≤18000:=Nat.le_trans (aOf a b) (by omega)
 refine ⟨0,aAe rfl (aB0 _ _ _ _ aAE) (aAc aDs rfl rfl (S2.eq (by omega) (by omega)) rfl (aAc aAn rfl rfl (I1.eq (by omega)) rfl (aAb ?_)))⟩
 show some (enc (sg (n != m) (V (N (V a*V b)))))=some (enc (sg n (V a)*sg m (V b)))
 rw [V_N,aLU]
def tbS5:Tb:=(36,aAd)::tbS4
theorem okS5:TbOk Tryz.prog X.G tbS5:=.cons (by kernel_rfl) aP6 okS4
theorem aSD:Sx.Good Tryz.prog X.G 35 ⟨[.agg 2],.v1 .one⟩ aA0:=aAf okSa (fun _ _=>X.G_below) 400 (by kernel_rfl) (by kernel_rfl:_=some aC3) fun ds rs h=>by
 obtain ⟨n,a,rfl,ha,rfl⟩:=I1.inv h
 refine ⟨0,aAc aDD rfl rfl (S1.eq (by omega)) rfl ?_⟩
 show _=some [i_ (sgn (sg n (V a)))]
 rw [aTw]
 generalize NatA.V a=x
 refine aAe rfl (aD0 _ _ _ _) ?_
 refine aAr rfl (fun h=>?_) (fun h=>?_)
 ·rw [if_pos (N_nil.1 (of_decide_eq_true h))]
  exact aAb rfl
 ·rw [if_neg (fun e=>of_decide_eq_false h (N_nil.2 e))]
  refine aAr rfl (fun h=>?_) (fun h=>?_)
  ·rw [if_pos h]
   exact aAb rfl
  ·rw [if_neg (by rw [h];decide)]
   exact aAb rfl
def tbS6:Tb:=(35,aA0)::tbS5
theorem okS6:TbOk Tryz.prog X.G tbS6:=.cons (by kernel_rfl) aSD okS5
theorem aNj:Sx.Good Tryz.prog X.G 55 ⟨[.one],.v1 (.agg 2)⟩ F_ifrom:=aAf okS6 (fun _ _=>X.G_below) 400 (by kernel_rfl) (by kernel_rfl:_=some aC4) fun ds rs h=>by
 obtain ⟨n,rfl,h0,h1,rfl⟩:=F_ifrom.inv h
 refine ⟨0,aAe rfl (aAh _ _ _ _ _) ?_⟩
 have w64:∀ i:Int,-9223372036854775808≤i→i≤9223372036854775807→IntKind.i64.wrap i=i:=fun i h0 h1=>by rw [IntKind.wrap_i64];omega
 have wu:∀ i:Int,0≤i→i < 18446744073709551616→IntKind.u64.wrap i=i:=fun i h0 h1=>by rw [IntKind.wrap_u64];omega
 have sx:∀ x:Nat,x < 18446744073709551616→(N x).size≤19000:=fun x h=>Nat.le_trans ((aAP x 8).2 (by omega)) (by decide)
 refine aAr rfl (fun h=>?_) (fun h=>?_)
 ·have h:=of_decide_eq_true h
  obtain ⟨x,hx⟩:∃ x:Nat,-n=x:=⟨(-n).toNat,by omega⟩
  refine aAe rfl (aDS _ _ _ _ _) (aAe rfl (aBO _ _) (aAe rfl (aCD aFy _ _ aEp) (aAe rfl (aDS _ _ _ _ _) ?_)))
  rw [w64 (n+1) (by omega) (by omega),w64 (0 - (n+1)) (by omega) (by omega),wu (0 - (n+1)) (by omega) (by omega),wu _ (by omega) (by omega),show 0 - (n+1)+1=(x:Int) by omega]
  refine aAc F_from rfl rfl (F_from.eq (by omega)) rfl (aAc aAn rfl rfl (I1.eq (sx x (by omega))) rfl (aAb ?_))
  show some (enc (sg true (V (N x))))=_
  rw [V_N,show n=sg true x by unfold sg;rw [if_pos rfl];omega]
 ·have h:=of_decide_eq_false h
  obtain ⟨x,rfl⟩:=Int.eq_ofNat_of_zero_le (show 0≤n by omega)
  refine aAe rfl (aCD aFy _ _ aEp) ?_
  rw [wu _ (by omega) (by omega)]
  refine aAc F_from rfl rfl (F_from.eq (by omega)) rfl (aAc aAn rfl rfl (I1.eq (sx x (by omega))) rfl (aAb ?_))
  show some (enc (sg false (V (N x))))=_
  rw [V_N]
  rfl
def tbS7:Tb:=(55,F_ifrom)::tbS6
theorem okS7:TbOk Tryz.prog X.G tbS7:=.cons (by kernel_rfl) aNj okS6
set_option maxHeartbeats 2000000 in
theorem aT3:Sx.Good Tryz.prog X.G 79 ⟨[.agg 2,.agg 2],.tup [.agg 2,.agg 2,.one]⟩ aAj:=aAf okS7 (fun _ _=>X.G_below) 400 (by kernel_rfl) (by kernel_rfl:_=some aCI) fun ds rs h=>by
 obtain ⟨n1,a,n2,b,rfl,ha,hb,rfl⟩:=I2.inv h
 have vb:=aDH b
 have s1:(N (V a / V b)).size≤9000:=aQs a _ ha
 have s2:(N (V a % V b)).size≤9000:=aQt a _ ha
 have s3:(N (V b)).size≤9000:=aCr hb
 have z2:Z n2 b=sg n2 (V b):=rfl
 have zf:Z false b=sg false (V b):=rfl
 refine ⟨0,aAc aCl rfl rfl (S2.eq (by omega) (by omega)) rfl ?_⟩
 show _=some (aHV (sg n1 (V a)) (sg n2 (V b)))
 have sgb:=I1.eq (lim:=19000) (g:=fun x=>[i_ (sgn x)]) (n:=n2) (a:=b) (by omega)
 have ofb:=I1.eq (lim:=19000) (g:=enc) (n:=false) (a:=b) (by omega)
 rw [z2] at sgb
 rw [zf] at ofb
 generalize hA:NatA.V a=A at *
 generalize hB:NatA.V b=B at *
 unfold aCq aHV aEn
 by_cases h0:B=0
 ·rw [if_pos h0,if_pos (by rw [h0];unfold sg;split<;>rfl)]
  exact aAe rfl (aBs _) (aBe rfl (aAb rfl))
 rw [if_neg h0,if_neg (by unfold sg;split<;>omega)]
 have hb0:0 < B:=by omega
 obtain ⟨q,hq⟩:∃ q,q=A / B:=⟨_,rfl⟩
 obtain ⟨r,hr⟩:∃ r,r=A % B:=⟨_,rfl⟩
 have hqr:B*q+r=A:=by rw [hq,hr];exact Nat.div_add_mod A B
 have hrl:r < B:=by rw [hr];exact Nat.mod_lt _ hb0
 have hqr':(A:Int)=(B:Int)*q+r:=by rw [← hqr,Int.natCast_add,Int.natCast_mul]
 rw [← hq,← hr]
 rw [← hq] at s1
 rw [← hr] at s2
 have ofN:∀ (b:Bool) (x:Nat),(N x).size≤19000→aAn [b_ b,s_ (N x)]=some (enc (sg b x)):=fun b x h=>by
  have:=I1.eq (lim:=19000) (g:=enc) (n:=b) (a:=N x) h
  unfold Z at this
  rw [V_N] at this
  exact this
 refine aAe rfl (aBs _) (aBw rfl (aAc aAn rfl rfl (ofN _ r (by omega)) rfl (aAe rfl (aB0 _ _ _ _ aAE) (aAc aAn rfl rfl (ofN _ q (by omega)) rfl (aAc aA0 rfl rfl (I1.can (Sz.sg n1 (s:=19000) (by omega))) rfl (aAe rfl (aAh _ _ _ _ _) ?_))))))
 by_cases hneg:sg n1 r < 0
 ·refine aBe (congrArg (fun x=>some (b_ x)) (decide_eq_true (aNi.2 hneg))) (aAc aAn rfl rfl ofb rfl ?_)
  have hn1:n1=true∧r≠0:=by
   unfold sg at hneg
   cases n1
   ·rw [if_neg (by decide)] at hneg;omega
   ·exact ⟨rfl,by rw [if_pos rfl] at hneg;omega⟩
  obtain ⟨rfl,hr0⟩:=hn1
  have e:=aGa (x:=sg true A) (q:=-((q+1:Nat):Int)) (r:=((B - r:Nat):Int)) (b:=n2) hb0 (by show -(A:Int)=_;rw [hqr',Int.mul_neg,Int.natCast_add,Int.mul_add];omega) (by omega) (by omega)
  have i1:Sz 9000 (sg true r):=Sz.sg _ s2
  have i2:Sz 9000 (sg false B):=Sz.sg _ s3
  have i4:Sz 9000 1:=(Sz.i64 (by decide) (by decide)).le (by decide)
  refine aAc aB9 rfl rfl (I2.can i1 i2) rfl ?_
  rw [show sg true r+sg false B=((B - r:Nat):Int) by show -(r:Int)+(B:Int)=_;omega]
  refine aAc aA0 rfl rfl sgb rfl (aAe rfl (aAA _ _ _ _ _) ?_)
  rw [e.1,e.2]
  cases n2 with
  | false =>
   refine aBe (congrArg (fun x=>some (b_ x)) (decide_eq_true (aNh.2 (by show (B:Int) > 0;omega)))) (aAc F_ifrom rfl rfl (F_ifrom.eq (by decide) (by decide)) rfl (aAc aAW rfl rfl (I2.can (Sz.sg _ s1) i4) rfl (aAb ?_)))
   show some (enc (sg (true != false) q - 1)++enc ((B - r:Nat):Int)++[b_ true])=_
   rw [show sg (true != false) q - 1=-((q+1:Nat):Int) by show -(q:Int) - 1=_;omega]
   rfl
  | true =>
   refine aBw (congrArg (fun x=>some (b_ x)) (decide_eq_false (by rw [aNh];show ¬ -(B:Int) > 0;omega))) (aAc F_ifrom rfl rfl (F_ifrom.eq (by decide) (by decide)) rfl (aAc aB9 rfl rfl (I2.can (Sz.sg _ s1) i4) rfl (aAb ?_)))
   show some (enc (sg (true != true) q+1)++enc ((B - r:Nat):Int)++[b_ true])=_
   rw [show sg (true != true) q+1=- -((q+1:Nat):Int) by show (q:Int)+1=_;omega]
   rfl
 ·refine aBw (congrArg (fun x=>some (b_ x)) (decide_eq_false (fun e=>hneg (aNi.1 e)))) (aAb ?_)
  have e:=aGa (x:=sg n1 A) (q:=sg n1 q) (r:=sg n1 r) (b:=n2) hb0 (by
   have h1:=aLU false n1 B q
   have h2:=aHT n1 (B*q) r
   rw [hqr] at h2
   rw [h2,show sg n1 (B*q)=(B:Int)*sg n1 q from by
    have h3:sg false B=(B:Int):=rfl
    rw [h3] at h1
    rw [h1]
    cases n1<;>rfl]) (by omega) (by
   unfold sg
   split<;>omega)
  show some (enc (sg (n1 != n2) q)++enc (sg n1 r)++[b_ true])=_
  rw [e.1,e.2,show (if n2=true then -sg n1 q else sg n1 q)=sg (n1 != n2) q by cases n1<;>cases n2<;>simp [sg]]
  rfl
def tbS8:Tb:=(79,aAj)::tbS7
theorem aQ9:TbOk Tryz.prog X.G tbS8:=.cons (by kernel_rfl) aT3 okS7
end Go.Proofs.YtjefbecmeobegaaGreatDoor.Sp
