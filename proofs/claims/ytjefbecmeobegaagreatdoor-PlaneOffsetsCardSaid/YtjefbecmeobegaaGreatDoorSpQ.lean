import Derived.Test.YtjefbecmeobegaaGreatDoorSpI
import Derived.Test.YtjefbecmeobegaaGreatDoorTr1
namespace Go.Proofs.YtjefbecmeobegaaGreatDoor.Sp
open Go Go.RowKit Sx NatA NatB NatC NatD NatI NatJ IntZ RatZ
abbrev encR (q:Rat):List D:=[.v (.bool (I q.num).1),.v (.string (I q.num).2),.v (.string (dnc q.den))]
def Rc (lim:Nat) (g:Int->Int->List D):Fct
 | [.v (.bool n),.v (.string a),.v (.string b)]=>if a.size<=lim/\b.size<=lim then some (g (Z n a) (dn b)) else none
 | _=>none
def R1 (lim:Nat) (g:Rat->List D):Fct:=Rc lim λ x y=>g (Rat.divInt x y)
def R2 (g:Rat->Rat->List D):Fct
 | [.v (.bool n),.v (.string a),.v (.string b),.v (.bool m),.v (.string c),.v (.string d)]=>if (a.size<=2000/\b.size<=2000)/\c.size<=2000/\d.size<=2000 then some (g (qv n a b) (qv m c d)) else none
 | _=>none
theorem Rc.eq {lim:Nat} {g:Int->Int->List D} {n:Bool} {a b:ByteArray} (ha:a.size<=lim) (hb:b.size<=lim):Rc lim g [b_ n,s_ a,s_ b]=some (g (Z n a) (dn b)):=if_pos ⟨ha,hb⟩
theorem Rc.can {lim:Nat} {g:Int->Int->List D} {q:Rat} (h:Sq lim q):Rc lim g (encR q)=some (g q.num q.den):=by
 have:=Rc.eq (g:=g) (n:=(I q.num).1) h.1 h.dnc
 rw [Z_I,aPP q.den_nz] at this
 exact this
theorem Rc.inv {lim:Nat} {g:Int->Int->List D} {ds rs:List D} (h:Rc lim g ds=some rs):∃ n a b,ds=[b_ n,s_ a,s_ b]/\a.size<=lim/\b.size<=lim/\rs=g (Z n a) (dn b):=by
 unfold Rc at h
 split at h
 ·split at h
  ·rename_i hc
   exact ⟨_,_,_,rfl,hc.1,hc.2,(Option.some.inj h).symm⟩
  ·cases h
 ·cases h
theorem R1.eq {lim:Nat} {g:Rat->List D} {n:Bool} {a b:ByteArray} (ha:a.size<=lim) (hb:b.size<=lim):R1 lim g [b_ n,s_ a,s_ b]=some (g (qv n a b)):=Rc.eq ha hb
theorem R1.can {lim:Nat} {g:Rat->List D} {q:Rat} (h:Sq lim q):R1 lim g (encR q)=some (g q):=by
 have:R1 lim g (encR q)=some (g (Rat.divInt q.num q.den)):=Rc.can h
 rw [Rat.num_divInt_den] at this
 exact this
theorem R1.inv {lim:Nat} {g:Rat->List D} {ds rs:List D} (h:R1 lim g ds=some rs):∃ n a b,ds=[b_ n,s_ a,s_ b]/\a.size<=lim/\b.size<=lim/\rs=g (qv n a b):=Rc.inv h
theorem R2.eq {g:Rat->Rat->List D} {n m:Bool} {a b c d:ByteArray} (ha:a.size<=2000) (hb:b.size<=2000) (hc:c.size<=2000) (hd:d.size<=2000):R2 g [b_ n,s_ a,s_ b,b_ m,s_ c,s_ d]=some (g (qv n a b) (qv m c d)):=if_pos ⟨⟨ha,hb⟩,hc,hd⟩
theorem R2.can {g:Rat->Rat->List D} {x y:Rat} (hx:Sq 2000 x) (hy:Sq 2000 y):R2 g (encR x++encR y)=some (g x y):=by
 have:=R2.eq (g:=g) (n:=(I x.num).1) (m:=(I y.num).1) hx.1 hx.dnc hy.1 hy.dnc
 rw [aHG,aHG] at this
 exact this
theorem R2.left {g:Rat->Rat->List D} {n:Bool} {a b:ByteArray} {y:Rat} (ha:a.size<=2000) (hb:b.size<=2000) (hy:Sq 2000 y):R2 g ([b_ n,s_ a,s_ b]++encR y)=some (g (qv n a b) y):=by
 have:=R2.eq (g:=g) (n:=n) (m:=(I y.num).1) ha hb hy.1 hy.dnc
 rw [aHG] at this
 exact this
theorem R2.right {g:Rat->Rat->List D} {n:Bool} {a b:ByteArray} {y:Rat} (ha:a.size<=2000) (hb:b.size<=2000) (hy:Sq 2000 y):R2 g (encR y++[b_ n,s_ a,s_ b])=some (g y (qv n a b)):=by
 have:=R2.eq (g:=g) (n:=(I y.num).1) (m:=n) hy.1 hy.dnc ha hb
 rw [aHG] at this
 exact this
theorem R2.inv {g:Rat->Rat->List D} {ds rs:List D} (h:R2 g ds=some rs):∃ n a b m c d,ds=[b_ n,s_ a,s_ b,b_ m,s_ c,s_ d]/\a.size<=2000/\b.size<=2000/\c.size<=2000/\d.size<=2000/\rs=g (qv n a b) (qv m c d):=by
 unfold R2 at h
 split at h
 ·split at h
  ·rename_i hc
   exact ⟨_,_,_,_,_,_,rfl,hc.1.1,hc.1.2,hc.2.1,hc.2.2,(Option.some.inj h).symm⟩
  ·cases h
 ·cases h
theorem aHP (x:Nat):I (x:Int)=(false,N x):=by
 unfold I
 rw [decide_eq_false kJ,Int.natAbs_natCast]
theorem I_sg (c:Bool) {k:Nat} (h:k≠0):I (sg c k)=(c,N k):=by
 unfold I
 rw [aCo]
 congr 1
 cases c
 ·exact decide_eq_false (by unfold sg;rw [if_neg kQ];omega)
 ·exact decide_eq_true (by unfold sg;rw [if_pos rfl];omega)
theorem aU3:N 1=(⟨#[1]⟩:ByteArray):=N_V (a:=(⟨#[1]⟩:ByteArray)) (.inr kQ)
theorem aKs {k:Nat}:N k=(⟨#[1]⟩:ByteArray) ↔ k=1:=by rw [<- aU3,aLn]
theorem aF7:encR 0=[b_ false,s_ (⟨#[]⟩:ByteArray),s_ (⟨#[]⟩:ByteArray)]:=by
 show [b_ (I (0:Int)).1,s_ (I (0:Int)).2,s_ (dnc 1)]=_
 rw [show I (0:Int)=(false,N 0) from aHP 0,aCn]
 rfl
theorem aLu (n m:Bool) {p q:Nat} (hp:p≠0) (hq:q≠0):encR (Rat.divInt (sg n p) (sg m q))=[b_ (!(n == m)),s_ (N (p / Nat.gcd p q)),s_ (dnc (q / Nat.gcd p q))]:=by
 have h:p / Nat.gcd p q≠0:=by
  have h1:Nat.gcd p q<=p:=Nat.le_of_dvd kJ (Nat.gcd_dvd_left p q)
  have h2:0 < Nat.gcd p q:=Nat.gcd_pos_of_pos_left _ kJ
  have:=Nat.div_pos h1 h2
  omega
 have e1:=aTm n m (p:=p) hq
 have e2:=aTn n m (p:=p) hq
 show [b_ (I (Rat.divInt (sg n p) (sg m q)).num).1,s_ (I (Rat.divInt (sg n p) (sg m q)).num).2,s_ (dnc (Rat.divInt (sg n p) (sg m q)).den)]=_
 rw [e1,e2,I_sg _ h]
 cases n<;>cases m<;>rfl
theorem aOU {n:Bool} {a:ByteArray}:Z n a=0 ↔ V a=0:=by
 have:=aBr n a
 omega
theorem aBI {z:Int}:(sgn z == 0)=decide (z=0):=by
 rw [Bool.eq_iff_iff,beq_iff_eq,decide_eq_true_iff]
 unfold sgn
 split
 ·omega
 ·split<;>omega
def aBP:Fct:=Rc 9000 λ x y=>enc x++enc y
def aAm:Fct:=I2 λ x y=>encR (Rat.divInt x y)++[b_ (!decide (y=0))]
def aFk:Fct:=I2 λ x y=>encR (Rat.divInt x y)
def aCO:Fct:=R1 9000 encR
def F_rfrom:Fct
 | [.v (.int .i64 n)]=>if -9223372036854775808<=n/\n<=9223372036854775807 then some (encR (Rat.divInt n 1)) else none
 | _=>none
theorem F_rfrom.eq {n:Int} (h0:-9223372036854775808<=n) (h1:n<=9223372036854775807):F_rfrom [i_ n]=some (encR (Rat.divInt n 1)):=by
 unfold F_rfrom
 dsimp only
 rw [if_pos ⟨h0,h1⟩]
theorem F_rfrom.inv {ds rs:List D} (h:F_rfrom ds=some rs):∃ n,ds=[i_ n]/\-9223372036854775808<=n/\n<=9223372036854775807/\rs=encR (Rat.divInt n 1):=by
 unfold F_rfrom at h
 split at h
 ·split at h
  ·rename_i hc
   exact ⟨_,rfl,hc.1,hc.2,(Option.some.inj h).symm⟩
  ·cases h
 ·cases h
def aAr:Fct:=R1 9000 λ q=>enc q.num++enc q.den
def aIO:Fct:=R2 λ x y=>[i_ (sgn (x - y).num)]
def aBW:Fct:=R1 9000 λ q=>[i_ (sgn q.num)]
def aB1:Fct:=R1 9000 λ q=>encR (-q)
def aBb:Fct:=R2 λ x y=>encR (x+y)
def aAL:Fct:=R2 λ x y=>encR (x - y)
def aAQ:Fct:=R2 λ x y=>encR (x*y)
def aD2:Fct:=R2 λ x y=>encR (x / y)++[b_ (!decide (y=0))]
theorem aMY {n:Bool} {a b:ByteArray}:qv n a b=0 ↔ Z n a=0:=by
 have hd:=aDp b
 have:qv n a b=0 ↔ Rat.divInt (Z n a) (dn b)=Rat.divInt 0 1:=by rw [Rat.zero_divInt];rfl
 rw [this,Rat.divInt_eq_divInt_iff kJ kJ]
 omega
theorem g_parts:Sx.Good Tryz.prog X.G 92 ⟨[.agg 3],.tup [.agg 2,.agg 2]⟩ aBP:=aAe ok11 (λ _ _=>X.G_below) 400 kK (by kernel_rfl:_=some aIH) λ ds rs h=>by
 obtain ⟨n,a,b,rfl,ha,hb,rfl⟩:=Rc.inv h
 refine ⟨0,aAb aDV rfl rfl (S1.eq kJ) rfl (aAf rfl (aC3 _ _ _ _) (aAw rfl (λ e=>?_) (λ e=>?_)))⟩
 ·have hz:=N_nil.1 (of_decide_eq_true e)
  refine aAb F_ifrom rfl rfl (F_ifrom.eq (n:=1) kQ kQ) rfl (aAb aAj rfl rfl (I1.eq kJ) rfl (aAc ?_))
  have hd:dn b=1:=if_pos hz
  rw [hd]
  rfl
 ·have hz:¬ V b=0:=λ h=>of_decide_eq_false e (N_nil.2 h)
  refine aAb aAj rfl rfl (I1.eq kJ) rfl (aAc ?_)
  have hd:dn b=(V b:Int):=if_neg hz
  rw [hd]
  show some (enc (Z n a)++[b_ false,s_ (N (V b))])=some (enc (Z n a)++[b_ (I (V b:Int)).1,s_ (I (V b:Int)).2])
  rw [aHP]
def tbQ0:Tb:=(92,aBP)::tb11
theorem okQ0:TbOk Tryz.prog X.G tbQ0:=.cons kK g_parts ok11
theorem g_make:Sx.Good Tryz.prog X.G 80 ⟨[.agg 2,.agg 2],.tup [.agg 3,.one]⟩ aAm:=aAe okQ0 (λ _ _=>X.G_below) 400 kK (by kernel_rfl:_=some aJv) λ ds rs h=>by
 obtain ⟨n,a,m,b,rfl,ha,hb,rfl⟩:=I2.inv h
 refine ⟨0,aAb aAx rfl rfl (I1.eq kJ) rfl (aAf rfl (aAz _ _ _ _ _) ?_)⟩
 rw [aBI]
 by_cases hz:Z m b=0
 ·refine aAZ (congrArg (λ x=>some (b_ x)) (decide_eq_true hz)) (aAc ?_)
  rw [hz,Rat.divInt_zero,aF7]
  rfl
 refine aBq (congrArg (λ x=>some (b_ x)) (decide_eq_false hz)) (aAb aAx rfl rfl (I1.eq kJ) rfl (aAf rfl (aAz _ _ _ _ _) ?_))
 rw [aBI]
 by_cases hx:Z n a=0
 ·refine aAZ (congrArg (λ x=>some (b_ x)) (decide_eq_true hx)) (aAc ?_)
  rw [hx,Rat.zero_divInt,aF7,decide_eq_false hz]
  rfl
 refine aBq (congrArg (λ x=>some (b_ x)) (decide_eq_false hx)) ?_
 have hb0:V b≠0:=λ h=>hz (aOU.2 h)
 have ha0:V a≠0:=λ h=>hx (aOU.2 h)
 have hg:Nat.gcd (V a) (V b)≠0:=λ h=>hb0 (Nat.gcd_eq_zero_iff.1 h).2
 have hgs:(N (Nat.gcd (V a) (V b))).size<=9000:=Nat.le_trans ((aAH _ b.size).2 (Nat.lt_of_le_of_lt (aF4 hb0) (aDZ b))) hb
 refine aAb aA6 rfl rfl (S2.eq kJ kJ) rfl (aAf rfl (aDH _ _ _ _ aBJ) (aAb aCx rfl rfl (S2.eq kJ kJ) rfl ?_))
 rw [V_N]
 unfold aC5
 rw [if_neg hg]
 refine aAb aCx rfl rfl (S2.eq kJ kJ) rfl ?_
 rw [V_N]
 unfold aC5
 rw [if_neg hg]
 have e:=aLu n m ha0 hb0
 have e:encR (Rat.divInt (Z n a) (Z m b))=_:=e
 rw [e,decide_eq_false hz]
 unfold dnc
 refine aAf rfl (aC3 _ _ _ _) (aAw rfl (λ h1=>?_) (λ h1=>?_))
 ·rw [if_pos (aKs.1 (of_decide_eq_true h1))]
  exact aAc rfl
 ·rw [if_neg (λ h=>of_decide_eq_false h1 (aKs.2 h))]
  exact aAc rfl
def tbQ1:Tb:=(80,aAm)::tbQ0
theorem okQ1:TbOk Tryz.prog X.G tbQ1:=.cons kK g_make okQ0
theorem g_made:Sx.Good Tryz.prog X.G 93 ⟨[.agg 2,.agg 2],.v1 (.agg 3)⟩ aFk:=aAe okQ1 (λ _ _=>X.G_below) 400 kK (by kernel_rfl:_=some aJw) λ ds rs h=>by
 obtain ⟨n,a,m,b,rfl,ha,hb,rfl⟩:=I2.inv h
 exact ⟨0,aAb aAm rfl rfl (I2.eq ha hb) rfl (aAc rfl)⟩
def tbQ2:Tb:=(93,aFk)::tbQ1
theorem okQ2:TbOk Tryz.prog X.G tbQ2:=.cons kK g_made okQ1
theorem g_rnorm:Sx.Good Tryz.prog X.G 134 ⟨[.agg 3],.v1 (.agg 3)⟩ aCO:=aAe okQ2 (λ _ _=>X.G_below) 400 kK (by kernel_rfl:_=some aGH) λ ds rs h=>by
 obtain ⟨n,a,b,rfl,ha,hb,rfl⟩:=R1.inv h
 have s1:Sz 9000 (Z n a):=.of ha
 have s2:Sz 9000 (dn b):=.dn hb kQ
 exact ⟨0,aAb aBP rfl rfl (Rc.eq ha hb) rfl (aAb aFk rfl rfl (I2.can s1 s2) rfl (aAc rfl))⟩
def tbQ3:Tb:=(134,aCO)::tbQ2
theorem okQ3:TbOk Tryz.prog X.G tbQ3:=.cons kK g_rnorm okQ2
theorem g_rfrom:Sx.Good Tryz.prog X.G 44 ⟨[.one],.v1 (.agg 3)⟩ F_rfrom:=aAe okQ3 (λ _ _=>X.G_below) 400 kK (by kernel_rfl:_=some aGI) λ ds rs h=>by
 obtain ⟨n,rfl,h0,h1,rfl⟩:=F_rfrom.inv h
 exact ⟨0,aAb F_ifrom rfl rfl (F_ifrom.eq h0 h1) rfl (aAb F_ifrom rfl rfl (F_ifrom.eq (n:=1) kQ kQ) rfl (aAb aFk rfl rfl (I2.can ((Sz.i64 h0 h1).le kQ) (Sz.one.le kQ)) rfl (aAc rfl)))⟩
def tbQ4:Tb:=(44,F_rfrom)::tbQ3
theorem okQ4:TbOk Tryz.prog X.G tbQ4:=.cons kK g_rfrom okQ3
theorem g_numden:Sx.Good Tryz.prog X.G 85 ⟨[.agg 3],.tup [.agg 2,.agg 2]⟩ aAr:=aAe okQ4 (λ _ _=>X.G_below) 400 kK (by kernel_rfl:_=some aHe) λ ds rs h=>by
 obtain ⟨n,a,b,rfl,ha,hb,rfl⟩:=R1.inv h
 have hq:Sq 9000 (qv n a b):=.qv kQ ha hb
 exact ⟨0,aAb aCO rfl rfl (R1.eq ha hb) rfl (aAb aBP rfl rfl (Rc.can hq) rfl (aAc rfl))⟩
def tbQ5:Tb:=(85,aAr)::tbQ4
theorem okQ5:TbOk Tryz.prog X.G tbQ5:=.cons kK g_numden okQ4
theorem g_rcmp:Sx.Good Tryz.prog X.G 48 ⟨[.agg 3,.agg 3],.v1 .one⟩ aIO:=aAe okQ5 (λ _ _=>X.G_below) 400 kK (by kernel_rfl:_=some aKc) λ ds rs h=>by
 obtain ⟨n,a,b,m,c,d,rfl,ha,hb,hc,hd,rfl⟩:=R2.inv h
 have s1:Sz 2000 (Z n a):=.of ha
 have s2:Sz 2000 (dn b):=.dn hb kQ
 have s3:Sz 2000 (Z m c):=.of hc
 have s4:Sz 2000 (dn d):=.dn hd kQ
 refine ⟨0,aAb aBP rfl rfl (Rc.eq kJ kJ) rfl (aAb aBP rfl rfl (Rc.eq kJ kJ) rfl (aAb aAd rfl rfl (I2.can (s1.le kQ) (s4.le kQ)) rfl (aAb aAd rfl rfl (I2.can (s3.le kQ) (s2.le kQ)) rfl (aAb aBM rfl rfl (I2.can ((s1.mul s4).le kQ) ((s3.mul s2).le kQ)) rfl (aAc ?_)))))⟩
 rw [<- aUh]
 rfl
def tbQ6:Tb:=(48,aIO)::tbQ5
theorem okQ6:TbOk Tryz.prog X.G tbQ6:=.cons kK g_rcmp okQ5
theorem g_rsign:Sx.Good Tryz.prog X.G 47 ⟨[.agg 3],.v1 .one⟩ aBW:=aAe okQ6 (λ _ _=>X.G_below) 400 kK (by kernel_rfl:_=some aJx) λ ds rs h=>by
 obtain ⟨n,a,b,rfl,ha,hb,rfl⟩:=R1.inv h
 have s1:Sz 9000 (Z n a):=.of ha
 refine ⟨0,aAb aBP rfl rfl (Rc.eq ha hb) rfl (aAb aAx rfl rfl (I1.can (s1.le kQ)) rfl (aAc ?_))⟩
 unfold qv
 rw [aGl (aDp b)]
 rfl
def tbQ7:Tb:=(47,aBW)::tbQ6
theorem okQ7:TbOk Tryz.prog X.G tbQ7:=.cons kK g_rsign okQ6
theorem g_rneg:Sx.Good Tryz.prog X.G 33 ⟨[.agg 3],.v1 (.agg 3)⟩ aB1:=aAe okQ7 (λ _ _=>X.G_below) 400 kK (by kernel_rfl:_=some aKd) λ ds rs h=>by
 obtain ⟨n,a,b,rfl,ha,hb,rfl⟩:=R1.inv h
 have s1:Sz 9000 (Z n a):=.of ha
 have s2:Sz 9000 (dn b):=.dn hb kQ
 refine ⟨0,aAb aBP rfl rfl (Rc.eq ha hb) rfl (aAb aAs rfl rfl (I1.can (s1.le kQ)) rfl (aAb aFk rfl rfl (I2.can s1.neg s2) rfl (aAc ?_)))⟩
 unfold qv
 rw [Rat.neg_divInt]
 rfl
def tbQ8:Tb:=(33,aB1)::tbQ7
theorem okQ8:TbOk Tryz.prog X.G tbQ8:=.cons kK g_rneg okQ7
theorem g_radd:Sx.Good Tryz.prog X.G 34 ⟨[.agg 3,.agg 3],.v1 (.agg 3)⟩ aBb:=aAe okQ8 (λ _ _=>X.G_below) 400 kK (by kernel_rfl:_=some aKe) λ ds rs h=>by
 obtain ⟨n,a,b,m,c,d,rfl,ha,hb,hc,hd,rfl⟩:=R2.inv h
 have s1:Sz 2000 (Z n a):=.of ha
 have s2:Sz 2000 (dn b):=.dn hb kQ
 have s3:Sz 2000 (Z m c):=.of hc
 have s4:Sz 2000 (dn d):=.dn hd kQ
 refine ⟨0,aAb aBP rfl rfl (Rc.eq kJ kJ) rfl (aAb aBP rfl rfl (Rc.eq kJ kJ) rfl (aAb aAd rfl rfl (I2.can (s1.le kQ) (s4.le kQ)) rfl (aAb aAd rfl rfl (I2.can (s3.le kQ) (s2.le kQ)) rfl (aAb aBF rfl rfl (I2.can ((s1.mul s4).le kQ) ((s3.mul s2).le kQ)) rfl (aAb aAd rfl rfl (I2.can (s2.le kQ) (s4.le kQ)) rfl (aAb aFk rfl rfl (I2.can (((s1.mul s4).add (s3.mul s2)).le kQ) ((s2.mul s4).le kQ)) rfl (aAc ?_)))))))⟩
 have h1:=aDp b
 have h2:=aDp d
 unfold qv
 rw [Rat.divInt_add_divInt _ _ kJ kJ]
 rfl
def tbQ9:Tb:=(34,aBb)::tbQ8
theorem okQ9:TbOk Tryz.prog X.G tbQ9:=.cons kK g_radd okQ8
theorem g_rsub:Sx.Good Tryz.prog X.G 45 ⟨[.agg 3,.agg 3],.v1 (.agg 3)⟩ aAL:=aAe okQ9 (λ _ _=>X.G_below) 400 kK (by kernel_rfl:_=some aKf) λ ds rs h=>by
 obtain ⟨n,a,b,m,c,d,rfl,ha,hb,hc,hd,rfl⟩:=R2.inv h
 have hq:Sq 2000 (qv m c d):=.qv kQ hc hd
 refine ⟨0,aAb aB1 rfl rfl (R1.eq kJ kJ) rfl (aAb aBb rfl rfl (R2.left ha hb hq.neg) rfl (aAc ?_))⟩
 rw [Rat.sub_eq_add_neg]
 rfl
def aRH:Tb:=(45,aAL)::tbQ9
theorem aRI:TbOk Tryz.prog X.G aRH:=.cons kK g_rsub okQ9
theorem g_rmul:Sx.Good Tryz.prog X.G 90 ⟨[.agg 3,.agg 3],.v1 (.agg 3)⟩ aAQ:=aAe aRI (λ _ _=>X.G_below) 400 kK (by kernel_rfl:_=some aKg) λ ds rs h=>by
 obtain ⟨n,a,b,m,c,d,rfl,ha,hb,hc,hd,rfl⟩:=R2.inv h
 have s1:Sz 2000 (Z n a):=.of ha
 have s2:Sz 2000 (dn b):=.dn hb kQ
 have s3:Sz 2000 (Z m c):=.of hc
 have s4:Sz 2000 (dn d):=.dn hd kQ
 refine ⟨0,aAb aBP rfl rfl (Rc.eq kJ kJ) rfl (aAb aBP rfl rfl (Rc.eq kJ kJ) rfl (aAb aAd rfl rfl (I2.can (s1.le kQ) (s3.le kQ)) rfl (aAb aAd rfl rfl (I2.can (s2.le kQ) (s4.le kQ)) rfl (aAb aFk rfl rfl (I2.can ((s1.mul s3).le kQ) ((s2.mul s4).le kQ)) rfl (aAc ?_)))))⟩
 unfold qv
 rw [Rat.divInt_mul_divInt]
 rfl
def aRJ:Tb:=(90,aAQ)::aRH
theorem aRK:TbOk Tryz.prog X.G aRJ:=.cons kK g_rmul aRI
theorem g_rdiv:Sx.Good Tryz.prog X.G 119 ⟨[.agg 3,.agg 3],.tup [.agg 3,.one]⟩ aD2:=aAe aRK (λ _ _=>X.G_below) 400 kK (by kernel_rfl:_=some aKh) λ ds rs h=>by
 obtain ⟨n,a,b,m,c,d,rfl,ha,hb,hc,hd,rfl⟩:=R2.inv h
 have s1:Sz 2000 (Z n a):=.of ha
 have s2:Sz 2000 (dn b):=.dn hb kQ
 have s3:Sz 2000 (Z m c):=.of hc
 have s4:Sz 2000 (dn d):=.dn hd kQ
 refine ⟨0,aAb aBP rfl rfl (Rc.eq kJ kJ) rfl (aAb aBP rfl rfl (Rc.eq kJ kJ) rfl (aAb aAd rfl rfl (I2.can (s1.le kQ) (s4.le kQ)) rfl (aAb aAd rfl rfl (I2.can (s2.le kQ) (s3.le kQ)) rfl (aAb aAm rfl rfl (I2.can ((s1.mul s4).le kQ) ((s2.mul s3).le kQ)) rfl (aAc ?_)))))⟩
 have e:decide (dn b*Z m c=0)=decide (qv m c d=0):=by
  have:=aDp b
  rw [Bool.eq_iff_iff,decide_eq_true_iff,decide_eq_true_iff,aMY,Int.mul_eq_zero]
  omega
 unfold qv at *
 rw [aGO,<- e]
 rfl
def aRL:Tb:=(119,aD2)::aRJ
theorem aRM:TbOk Tryz.prog X.G aRL:=.cons kK g_rdiv aRK
end Go.Proofs.YtjefbecmeobegaaGreatDoor.Sp
