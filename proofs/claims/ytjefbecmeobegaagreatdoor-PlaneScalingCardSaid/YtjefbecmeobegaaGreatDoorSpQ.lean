import Derived.Test.YtjefbecmeobegaaGreatDoorSpI
import Derived.Test.YtjefbecmeobegaaGreatDoorTr1
namespace Go.Proofs.YtjefbecmeobegaaGreatDoor.Sp
open Go Go.RowKit Sx NatA NatB NatC NatD NatI NatJ IntZ RatZ
abbrev encR (q:Rat):List D:=[.v (.bool (I q.num).1),.v (.string (I q.num).2),.v (.string (dnc q.den))]
def Rc (lim:Nat) (g:Int→Int→List D):Fct
 | [.v (.bool n),.v (.string a),.v (.string b)]=>if a.size≤lim∧b.size≤lim then some (g (Z n a) (dn b)) else none
 | _=>none
def R1 (lim:Nat) (g:Rat→List D):Fct:=Rc lim fun x y=>g (Rat.divInt x y)
def R2 (g:Rat→Rat→List D):Fct
 | [.v (.bool n),.v (.string a),.v (.string b),.v (.bool m),.v (.string c),.v (.string d)]=>if (a.size≤2000∧b.size≤2000)∧c.size≤2000∧d.size≤2000 then some (g (qv n a b) (qv m c d)) else none
 | _=>none
theorem Rc.eq {lim:Nat} {g:Int→Int→List D} {n:Bool} {a b:ByteArray} (ha:a.size≤lim) (hb:b.size≤lim):Rc lim g [b_ n,s_ a,s_ b]=some (g (Z n a) (dn b)):=if_pos ⟨ha,hb⟩
theorem Rc.can {lim:Nat} {g:Int→Int→List D} {q:Rat} (h:Sq lim q):Rc lim g (encR q)=some (g q.num q.den):=by
 have:=Rc.eq (g:=g) (n:=(I q.num).1) h.1 h.dnc
 rw [Z_I,aPx q.den_nz] at this
 exact this
theorem Rc.inv {lim:Nat} {g:Int→Int→List D} {ds rs:List D} (h:Rc lim g ds=some rs):∃ n a b,ds=[b_ n,s_ a,s_ b]∧a.size≤lim∧b.size≤lim∧rs=g (Z n a) (dn b):=by
 unfold Rc at h
 split at h
 ·split at h
  ·rename_i hc
   exact ⟨_,_,_,rfl,hc.1,hc.2,(Option.some.inj h).symm⟩
  ·cases h
 ·cases h
theorem R1.eq {lim:Nat} {g:Rat→List D} {n:Bool} {a b:ByteArray} (ha:a.size≤lim) (hb:b.size≤lim):R1 lim g [b_ n,s_ a,s_ b]=some (g (qv n a b)):=Rc.eq ha hb
theorem R1.can {lim:Nat} {g:Rat→List D} {q:Rat} (h:Sq lim q):R1 lim g (encR q)=some (g q):=by
 have:R1 lim g (encR q)=some (g (Rat.divInt q.num q.den)):=Rc.can h
 rw [Rat.num_divInt_den] at this
 exact this
theorem R1.inv {lim:Nat} {g:Rat→List D} {ds rs:List D} (h:R1 lim g ds=some rs):∃ n a b,ds=[b_ n,s_ a,s_ b]∧a.size≤lim∧b.size≤lim∧rs=g (qv n a b):=Rc.inv h
theorem R2.eq {g:Rat→Rat→List D} {n m:Bool} {a b c d:ByteArray} (ha:a.size≤2000) (hb:b.size≤2000) (hc:c.size≤2000) (hd:d.size≤2000):R2 g [b_ n,s_ a,s_ b,b_ m,s_ c,s_ d]=some (g (qv n a b) (qv m c d)):=if_pos ⟨⟨ha,hb⟩,hc,hd⟩
theorem R2.can {g:Rat→Rat→List D} {x y:Rat} (hx:Sq 2000 x) (hy:Sq 2000 y):R2 g (encR x++encR y)=some (g x y):=by
 have:=R2.eq (g:=g) (n:=(I x.num).1) (m:=(I y.num).1) hx.1 hx.dnc hy.1 hy.dnc
 rw [aHu,aHu] at this
 exact this
theorem R2.left {g:Rat→Rat→List D} {n:Bool} {a b:ByteArray} {y:Rat} (ha:a.size≤2000) (hb:b.size≤2000) (hy:Sq 2000 y):R2 g ([b_ n,s_ a,s_ b]++encR y)=some (g (qv n a b) y):=by
 have:=R2.eq (g:=g) (n:=n) (m:=(I y.num).1) ha hb hy.1 hy.dnc
 rw [aHu] at this
 exact this
theorem R2.right {g:Rat→Rat→List D} {n:Bool} {a b:ByteArray} {y:Rat} (ha:a.size≤2000) (hb:b.size≤2000) (hy:Sq 2000 y):R2 g (encR y++[b_ n,s_ a,s_ b])=some (g y (qv n a b)):=by
 have:=R2.eq (g:=g) (n:=(I y.num).1) (m:=n) hy.1 hy.dnc ha hb
 rw [aHu] at this
 exact this
theorem R2.inv {g:Rat→Rat→List D} {ds rs:List D} (h:R2 g ds=some rs):∃ n a b m c d,ds=[b_ n,s_ a,s_ b,b_ m,s_ c,s_ d]∧a.size≤2000∧b.size≤2000∧c.size≤2000∧d.size≤2000∧rs=g (qv n a b) (qv m c d):=by
 unfold R2 at h
 split at h
 ·split at h
  ·rename_i hc
   exact ⟨_,_,_,_,_,_,rfl,hc.1.1,hc.1.2,hc.2.1,hc.2.2,(Option.some.inj h).symm⟩
  ·cases h
 ·cases h
theorem aNt (x:Nat):I (x:Int)=(false,N x):=by
 unfold I
 rw [decide_eq_false (by omega),Int.natAbs_natCast]
theorem I_sg (c:Bool) {k:Nat} (h:k≠0):I (sg c k)=(c,N k):=by
 unfold I
 rw [aCc]
 congr 1
 cases c
 ·exact decide_eq_false (by unfold sg;rw [if_neg (by decide)];omega)
 ·exact decide_eq_true (by unfold sg;rw [if_pos rfl];omega)
theorem aT7:N 1=(⟨#[1]⟩:ByteArray):=N_V (a:=(⟨#[1]⟩:ByteArray)) (.inr (by decide))
theorem aJM {k:Nat}:N k=(⟨#[1]⟩:ByteArray) ↔ k=1:=by rw [← aT7,aKG]
theorem aJN:encR 0=[b_ false,s_ (⟨#[]⟩:ByteArray),s_ (⟨#[]⟩:ByteArray)]:=by
 show [b_ (I (0:Int)).1,s_ (I (0:Int)).2,s_ (dnc 1)]=_
 rw [show I (0:Int)=(false,N 0) from aNt 0,aDa]
 rfl
theorem aPH (n m:Bool) {p q:Nat} (hp:p≠0) (hq:q≠0):encR (Rat.divInt (sg n p) (sg m q))=[b_ (!(n == m)),s_ (N (p / Nat.gcd p q)),s_ (dnc (q / Nat.gcd p q))]:=by
 have h:p / Nat.gcd p q≠0:=by
  have h1:Nat.gcd p q≤p:=Nat.le_of_dvd (by omega) (Nat.gcd_dvd_left p q)
  have h2:0 < Nat.gcd p q:=Nat.gcd_pos_of_pos_left _ (by omega)
  have:=Nat.div_pos h1 h2
  omega
 have e1:=aS6 n m (p:=p) hq
 have e2:=aS7 n m (p:=p) hq
 show [b_ (I (Rat.divInt (sg n p) (sg m q)).num).1,s_ (I (Rat.divInt (sg n p) (sg m q)).num).2,s_ (dnc (Rat.divInt (sg n p) (sg m q)).den)]=_
 rw [e1,e2,I_sg _ h]
 cases n<;>cases m<;>rfl
theorem aO1 {n:Bool} {a:ByteArray}:Z n a=0 ↔ V a=0:=by
 have:=aBi n a
 omega
theorem aBH {z:Int}:(sgn z == 0)=decide (z=0):=by
 rw [Bool.eq_iff_iff,beq_iff_eq,decide_eq_true_iff]
 unfold sgn
 split
 ·omega
 ·split<;>omega
def aBC:Fct:=Rc 9000 fun x y=>enc x++enc y
def aAD:Fct:=I2 fun x y=>encR (Rat.divInt x y)++[b_ (!decide (y=0))]
def aEY:Fct:=I2 fun x y=>encR (Rat.divInt x y)
def aH3:Fct:=R1 9000 encR
def F_rfrom:Fct
 | [.v (.int .i64 n)]=>if -9223372036854775808≤n∧n≤9223372036854775807 then some (encR (Rat.divInt n 1)) else none
 | _=>none
theorem F_rfrom.eq {n:Int} (h0:-9223372036854775808≤n) (h1:n≤9223372036854775807):F_rfrom [i_ n]=some (encR (Rat.divInt n 1)):=by
 unfold F_rfrom
 dsimp only
 rw [if_pos ⟨h0,h1⟩]
theorem F_rfrom.inv {ds rs:List D} (h:F_rfrom ds=some rs):∃ n,ds=[i_ n]∧-9223372036854775808≤n∧n≤9223372036854775807∧rs=encR (Rat.divInt n 1):=by
 unfold F_rfrom at h
 split at h
 ·split at h
  ·rename_i hc
   exact ⟨_,rfl,hc.1,hc.2,(Option.some.inj h).symm⟩
  ·cases h
 ·cases h
def aAz:Fct:=R1 9000 fun q=>enc q.num++enc q.den
def aO2:Fct:=R2 fun x y=>[i_ (sgn (x - y).num)]
def aM3:Fct:=R1 9000 fun q=>[i_ (sgn q.num)]
def aKQ:Fct:=R1 9000 fun q=>encR (-q)
def aBM:Fct:=R2 fun x y=>encR (x+y)
def aEo:Fct:=R2 fun x y=>encR (x - y)
def aBV:Fct:=R2 fun x y=>encR (x*y)
def aO3:Fct:=R2 fun x y=>encR (x / y)++[b_ (!decide (y=0))]
theorem aRX {n:Bool} {a b:ByteArray}:qv n a b=0 ↔ Z n a=0:=by
 have hd:=aFs b
 have:qv n a b=0 ↔ Rat.divInt (Z n a) (dn b)=Rat.divInt 0 1:=by rw [Rat.zero_divInt];rfl
 rw [this,Rat.divInt_eq_divInt_iff (by omega) (by omega)]
 omega
theorem g_parts:Sx.Good Tryz.prog X.G 92 ⟨[.agg 3],.tup [.agg 2,.agg 2]⟩ aBC:=aAf ok11 (fun _ _=>X.G_below) 400 (by kernel_rfl) (by kernel_rfl:_=some aIq) fun ds rs h=>by
 obtain ⟨n,a,b,rfl,ha,hb,rfl⟩:=Rc.inv h
 refine ⟨0,aAc aDD rfl rfl (S1.eq (by omega)) rfl (aAe rfl (aD0 _ _ _ _) (aAr rfl (fun e=>?_) (fun e=>?_)))⟩
 ·have hz:=N_nil.1 (of_decide_eq_true e)
  refine aAc F_ifrom rfl rfl (F_ifrom.eq (n:=1) (by decide) (by decide)) rfl (aAc aAn rfl rfl (I1.eq (by omega)) rfl (aAb ?_))
  have hd:dn b=1:=if_pos hz
  rw [hd]
  rfl
 ·have hz:¬ V b=0:=fun h=>of_decide_eq_false e (N_nil.2 h)
  refine aAc aAn rfl rfl (I1.eq (by omega)) rfl (aAb ?_)
  have hd:dn b=(V b:Int):=if_neg hz
  rw [hd]
  show some (enc (Z n a)++[b_ false,s_ (N (V b))])=some (enc (Z n a)++[b_ (I (V b:Int)).1,s_ (I (V b:Int)).2])
  rw [aNt]
def tbQ0:Tb:=(92,aBC)::tb11
theorem okQ0:TbOk Tryz.prog X.G tbQ0:=.cons (by kernel_rfl) g_parts ok11
theorem g_make:Sx.Good Tryz.prog X.G 80 ⟨[.agg 2,.agg 2],.tup [.agg 3,.one]⟩ aAD:=aAf okQ0 (fun _ _=>X.G_below) 400 (by kernel_rfl) (by kernel_rfl:_=some aIR) fun ds rs h=>by
 obtain ⟨n,a,m,b,rfl,ha,hb,rfl⟩:=I2.inv h
 refine ⟨0,aAc aA0 rfl rfl (I1.eq (by omega)) rfl (aAe rfl (aA9 _ _ _ _ _) ?_)⟩
 rw [aBH]
 by_cases hz:Z m b=0
 ·refine aBe (congrArg (fun x=>some (b_ x)) (decide_eq_true hz)) (aAb ?_)
  rw [hz,Rat.divInt_zero,aJN]
  rfl
 refine aBw (congrArg (fun x=>some (b_ x)) (decide_eq_false hz)) (aAc aA0 rfl rfl (I1.eq (by omega)) rfl (aAe rfl (aA9 _ _ _ _ _) ?_))
 rw [aBH]
 by_cases hx:Z n a=0
 ·refine aBe (congrArg (fun x=>some (b_ x)) (decide_eq_true hx)) (aAb ?_)
  rw [hx,Rat.zero_divInt,aJN,decide_eq_false hz]
  rfl
 refine aBw (congrArg (fun x=>some (b_ x)) (decide_eq_false hx)) ?_
 have hb0:V b≠0:=fun h=>hz (aO1.2 h)
 have ha0:V a≠0:=fun h=>hx (aO1.2 h)
 have hg:Nat.gcd (V a) (V b)≠0:=fun h=>hb0 (Nat.gcd_eq_zero_iff.1 h).2
 have hgs:(N (Nat.gcd (V a) (V b))).size≤9000:=Nat.le_trans ((aAP _ b.size).2 (Nat.lt_of_le_of_lt (aHv hb0) (aDH b))) hb
 refine aAc aAH rfl rfl (S2.eq (by omega) (by omega)) rfl (aAe rfl (aB0 _ _ _ _ aAE) (aAc aCl rfl rfl (S2.eq (by omega) (by omega)) rfl ?_))
 rw [V_N]
 unfold aCq
 rw [if_neg hg]
 refine aAc aCl rfl rfl (S2.eq (by omega) (by omega)) rfl ?_
 rw [V_N]
 unfold aCq
 rw [if_neg hg]
 have e:=aPH n m ha0 hb0
 have e:encR (Rat.divInt (Z n a) (Z m b))=_:=e
 rw [e,decide_eq_false hz]
 unfold dnc
 refine aAe rfl (aD0 _ _ _ _) (aAr rfl (fun h1=>?_) (fun h1=>?_))
 ·rw [if_pos (aJM.1 (of_decide_eq_true h1))]
  exact aAb rfl
 ·rw [if_neg (fun h=>of_decide_eq_false h1 (aJM.2 h))]
  exact aAb rfl
def tbQ1:Tb:=(80,aAD)::tbQ0
theorem okQ1:TbOk Tryz.prog X.G tbQ1:=.cons (by kernel_rfl) g_make okQ0
theorem g_made:Sx.Good Tryz.prog X.G 93 ⟨[.agg 2,.agg 2],.v1 (.agg 3)⟩ aEY:=aAf okQ1 (fun _ _=>X.G_below) 400 (by kernel_rfl) (by kernel_rfl:_=some aIS) fun ds rs h=>by
 obtain ⟨n,a,m,b,rfl,ha,hb,rfl⟩:=I2.inv h
 exact ⟨0,aAc aAD rfl rfl (I2.eq ha hb) rfl (aAb rfl)⟩
def tbQ2:Tb:=(93,aEY)::tbQ1
theorem okQ2:TbOk Tryz.prog X.G tbQ2:=.cons (by kernel_rfl) g_made okQ1
theorem g_rnorm:Sx.Good Tryz.prog X.G 134 ⟨[.agg 3],.v1 (.agg 3)⟩ aH3:=aAf okQ2 (fun _ _=>X.G_below) 400 (by kernel_rfl) (by kernel_rfl:_=some aG2) fun ds rs h=>by
 obtain ⟨n,a,b,rfl,ha,hb,rfl⟩:=R1.inv h
 have s1:Sz 9000 (Z n a):=.of ha
 have s2:Sz 9000 (dn b):=.dn hb (by decide)
 exact ⟨0,aAc aBC rfl rfl (Rc.eq ha hb) rfl (aAc aEY rfl rfl (I2.can s1 s2) rfl (aAb rfl))⟩
def tbQ3:Tb:=(134,aH3)::tbQ2
theorem okQ3:TbOk Tryz.prog X.G tbQ3:=.cons (by kernel_rfl) g_rnorm okQ2
theorem g_rfrom:Sx.Good Tryz.prog X.G 44 ⟨[.one],.v1 (.agg 3)⟩ F_rfrom:=aAf okQ3 (fun _ _=>X.G_below) 400 (by kernel_rfl) (by kernel_rfl:_=some aG3) fun ds rs h=>by
 obtain ⟨n,rfl,h0,h1,rfl⟩:=F_rfrom.inv h
 exact ⟨0,aAc F_ifrom rfl rfl (F_ifrom.eq h0 h1) rfl (aAc F_ifrom rfl rfl (F_ifrom.eq (n:=1) (by decide) (by decide)) rfl (aAc aEY rfl rfl (I2.can ((Sz.i64 h0 h1).le (by decide)) (Sz.one.le (by decide))) rfl (aAb rfl)))⟩
def tbQ4:Tb:=(44,F_rfrom)::tbQ3
theorem okQ4:TbOk Tryz.prog X.G tbQ4:=.cons (by kernel_rfl) g_rfrom okQ3
theorem g_numden:Sx.Good Tryz.prog X.G 85 ⟨[.agg 3],.tup [.agg 2,.agg 2]⟩ aAz:=aAf okQ4 (fun _ _=>X.G_below) 400 (by kernel_rfl) (by kernel_rfl:_=some aGM) fun ds rs h=>by
 obtain ⟨n,a,b,rfl,ha,hb,rfl⟩:=R1.inv h
 have hq:Sq 9000 (qv n a b):=.qv (by decide) ha hb
 exact ⟨0,aAc aH3 rfl rfl (R1.eq ha hb) rfl (aAc aBC rfl rfl (Rc.can hq) rfl (aAb rfl))⟩
def tbQ5:Tb:=(85,aAz)::tbQ4
theorem okQ5:TbOk Tryz.prog X.G tbQ5:=.cons (by kernel_rfl) g_numden okQ4
theorem g_rcmp:Sx.Good Tryz.prog X.G 48 ⟨[.agg 3,.agg 3],.v1 .one⟩ aO2:=aAf okQ5 (fun _ _=>X.G_below) 400 (by kernel_rfl) (by kernel_rfl:_=some aJ8) fun ds rs h=>by
 obtain ⟨n,a,b,m,c,d,rfl,ha,hb,hc,hd,rfl⟩:=R2.inv h
 have s1:Sz 2000 (Z n a):=.of ha
 have s2:Sz 2000 (dn b):=.dn hb (by decide)
 have s3:Sz 2000 (Z m c):=.of hc
 have s4:Sz 2000 (dn d):=.dn hd (by decide)
 refine ⟨0,aAc aBC rfl rfl (Rc.eq (by omega) (by omega)) rfl (aAc aBC rfl rfl (Rc.eq (by omega) (by omega)) rfl (aAc aAd rfl rfl (I2.can (s1.le (by decide)) (s4.le (by decide))) rfl (aAc aAd rfl rfl (I2.can (s3.le (by decide)) (s2.le (by decide))) rfl (aAc aA5 rfl rfl (I2.can ((s1.mul s4).le (by decide)) ((s3.mul s2).le (by decide))) rfl (aAb ?_)))))⟩
 rw [← aTq]
 rfl
def tbQ6:Tb:=(48,aO2)::tbQ5
theorem okQ6:TbOk Tryz.prog X.G tbQ6:=.cons (by kernel_rfl) g_rcmp okQ5
theorem g_rsign:Sx.Good Tryz.prog X.G 47 ⟨[.agg 3],.v1 .one⟩ aM3:=aAf okQ6 (fun _ _=>X.G_below) 400 (by kernel_rfl) (by kernel_rfl:_=some aIT) fun ds rs h=>by
 obtain ⟨n,a,b,rfl,ha,hb,rfl⟩:=R1.inv h
 have s1:Sz 9000 (Z n a):=.of ha
 refine ⟨0,aAc aBC rfl rfl (Rc.eq ha hb) rfl (aAc aA0 rfl rfl (I1.can (s1.le (by decide))) rfl (aAb ?_))⟩
 unfold qv
 rw [aJI (aFs b)]
 rfl
def tbQ7:Tb:=(47,aM3)::tbQ6
theorem okQ7:TbOk Tryz.prog X.G tbQ7:=.cons (by kernel_rfl) g_rsign okQ6
theorem g_rneg:Sx.Good Tryz.prog X.G 33 ⟨[.agg 3],.v1 (.agg 3)⟩ aKQ:=aAf okQ7 (fun _ _=>X.G_below) 400 (by kernel_rfl) (by kernel_rfl:_=some aJ9) fun ds rs h=>by
 obtain ⟨n,a,b,rfl,ha,hb,rfl⟩:=R1.inv h
 have s1:Sz 9000 (Z n a):=.of ha
 have s2:Sz 9000 (dn b):=.dn hb (by decide)
 refine ⟨0,aAc aBC rfl rfl (Rc.eq ha hb) rfl (aAc aAG rfl rfl (I1.can (s1.le (by decide))) rfl (aAc aEY rfl rfl (I2.can s1.neg s2) rfl (aAb ?_)))⟩
 unfold qv
 rw [Rat.neg_divInt]
 rfl
def tbQ8:Tb:=(33,aKQ)::tbQ7
theorem okQ8:TbOk Tryz.prog X.G tbQ8:=.cons (by kernel_rfl) g_rneg okQ7
theorem g_radd:Sx.Good Tryz.prog X.G 34 ⟨[.agg 3,.agg 3],.v1 (.agg 3)⟩ aBM:=aAf okQ8 (fun _ _=>X.G_below) 400 (by kernel_rfl) (by kernel_rfl:_=some aJA) fun ds rs h=>by
 obtain ⟨n,a,b,m,c,d,rfl,ha,hb,hc,hd,rfl⟩:=R2.inv h
 have s1:Sz 2000 (Z n a):=.of ha
 have s2:Sz 2000 (dn b):=.dn hb (by decide)
 have s3:Sz 2000 (Z m c):=.of hc
 have s4:Sz 2000 (dn d):=.dn hd (by decide)
 refine ⟨0,aAc aBC rfl rfl (Rc.eq (by omega) (by omega)) rfl (aAc aBC rfl rfl (Rc.eq (by omega) (by omega)) rfl (aAc aAd rfl rfl (I2.can (s1.le (by decide)) (s4.le (by decide))) rfl (aAc aAd rfl rfl (I2.can (s3.le (by decide)) (s2.le (by decide))) rfl (aAc aB9 rfl rfl (I2.can ((s1.mul s4).le (by decide)) ((s3.mul s2).le (by decide))) rfl (aAc aAd rfl rfl (I2.can (s2.le (by decide)) (s4.le (by decide))) rfl (aAc aEY rfl rfl (I2.can (((s1.mul s4).add (s3.mul s2)).le (by decide)) ((s2.mul s4).le (by decide))) rfl (aAb ?_)))))))⟩
 have h1:=aFs b
 have h2:=aFs d
 unfold qv
 rw [Rat.divInt_add_divInt _ _ (by omega) (by omega)]
 rfl
def tbQ9:Tb:=(34,aBM)::tbQ8
theorem okQ9:TbOk Tryz.prog X.G tbQ9:=.cons (by kernel_rfl) g_radd okQ8
theorem g_rsub:Sx.Good Tryz.prog X.G 45 ⟨[.agg 3,.agg 3],.v1 (.agg 3)⟩ aEo:=aAf okQ9 (fun _ _=>X.G_below) 400 (by kernel_rfl) (by kernel_rfl:_=some aJB) fun ds rs h=>by
 obtain ⟨n,a,b,m,c,d,rfl,ha,hb,hc,hd,rfl⟩:=R2.inv h
 have hq:Sq 2000 (qv m c d):=.qv (by decide) hc hd
 refine ⟨0,aAc aKQ rfl rfl (R1.eq (by omega) (by omega)) rfl (aAc aBM rfl rfl (R2.left ha hb hq.neg) rfl (aAb ?_))⟩
 rw [Rat.sub_eq_add_neg]
 rfl
def aRk:Tb:=(45,aEo)::tbQ9
theorem aRl:TbOk Tryz.prog X.G aRk:=.cons (by kernel_rfl) g_rsub okQ9
theorem g_rmul:Sx.Good Tryz.prog X.G 90 ⟨[.agg 3,.agg 3],.v1 (.agg 3)⟩ aBV:=aAf aRl (fun _ _=>X.G_below) 400 (by kernel_rfl) (by kernel_rfl:_=some aJC) fun ds rs h=>by
 obtain ⟨n,a,b,m,c,d,rfl,ha,hb,hc,hd,rfl⟩:=R2.inv h
 have s1:Sz 2000 (Z n a):=.of ha
 have s2:Sz 2000 (dn b):=.dn hb (by decide)
 have s3:Sz 2000 (Z m c):=.of hc
 have s4:Sz 2000 (dn d):=.dn hd (by decide)
 refine ⟨0,aAc aBC rfl rfl (Rc.eq (by omega) (by omega)) rfl (aAc aBC rfl rfl (Rc.eq (by omega) (by omega)) rfl (aAc aAd rfl rfl (I2.can (s1.le (by decide)) (s3.le (by decide))) rfl (aAc aAd rfl rfl (I2.can (s2.le (by decide)) (s4.le (by decide))) rfl (aAc aEY rfl rfl (I2.can ((s1.mul s3).le (by decide)) ((s2.mul s4).le (by decide))) rfl (aAb ?_)))))⟩
 unfold qv
 rw [Rat.divInt_mul_divInt]
 rfl
def aRm:Tb:=(90,aBV)::aRk
theorem aRn:TbOk Tryz.prog X.G aRm:=.cons (by kernel_rfl) g_rmul aRl
theorem g_rdiv:Sx.Good Tryz.prog X.G 119 ⟨[.agg 3,.agg 3],.tup [.agg 3,.one]⟩ aO3:=aAf aRn (fun _ _=>X.G_below) 400 (by kernel_rfl) (by kernel_rfl:_=some aJD) fun ds rs h=>by
 obtain ⟨n,a,b,m,c,d,rfl,ha,hb,hc,hd,rfl⟩:=R2.inv h
 have s1:Sz 2000 (Z n a):=.of ha
 have s2:Sz 2000 (dn b):=.dn hb (by decide)
 have s3:Sz 2000 (Z m c):=.of hc
 have s4:Sz 2000 (dn d):=.dn hd (by decide)
 refine ⟨0,aAc aBC rfl rfl (Rc.eq (by omega) (by omega)) rfl (aAc aBC rfl rfl (Rc.eq (by omega) (by omega)) rfl (aAc aAd rfl rfl (I2.can (s1.le (by decide)) (s4.le (by decide))) rfl (aAc aAd rfl rfl (I2.can (s2.le (by decide)) (s3.le (by decide))) rfl (aAc aAD rfl rfl (I2.can ((s1.mul s4).le (by decide)) ((s2.mul s3).le (by decide))) rfl (aAb ?_)))))⟩
 have e:decide (dn b*Z m c=0)=decide (qv m c d=0):=by
  have:=aFs b
  rw [Bool.eq_iff_iff,decide_eq_true_iff,decide_eq_true_iff,aRX,Int.mul_eq_zero]
  omega
 unfold qv at *
 rw [aOg,← e]
 rfl
def aRo:Tb:=(119,aO3)::aRm
theorem aRp:TbOk Tryz.prog X.G aRo:=.cons (by kernel_rfl) g_rdiv aRn
end Go.Proofs.YtjefbecmeobegaaGreatDoor.Sp
