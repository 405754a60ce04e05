import Derived.Test.YtjefbecmeobegaaGreatDoorSpM
import Derived.Test.YtjefbecmeobegaaGreatDoorTr1
import Derived.Test.YtjefbecmeobegaaGreatDoorZZ
namespace Go.Proofs.YtjefbecmeobegaaGreatDoor.Sp
open Go Go.RowKit Sx NatA NatB NatC NatD NatI NatJ IntZ RatZ
abbrev enc (z:Int):List D:=[.v (.bool (I z).1),.v (.string (I z).2)]
def I1 (lim:Nat) (g:Int→List D):Fct
 | [.v (.bool n),.v (.string a)]=>if a.size≤lim then some (g (Z n a)) else none
 | _=>none
def I2 (g:Int→Int→List D):Fct
 | [.v (.bool n),.v (.string a),.v (.bool m),.v (.string b)]=>if a.size≤9000∧b.size≤9000 then some (g (Z n a) (Z m b)) else none
 | _=>none
theorem I1.eq {lim:Nat} {g:Int→List D} {n:Bool} {a:ByteArray} (h:a.size≤lim):I1 lim g [b_ n,s_ a]=some (g (Z n a)):=if_pos h
theorem I1.can {lim:Nat} {g:Int→List D} {z:Int} (h:Sz lim z):I1 lim g (enc z)=some (g z):=by
 have:=I1.eq (g:=g) (n:=(I z).1) (a:=(I z).2) h
 rw [Z_I] at this
 exact this
theorem I1.inv {lim:Nat} {g:Int→List D} {ds rs:List D} (h:I1 lim g ds=some rs):∃ n a,ds=[b_ n,s_ a]∧a.size≤lim∧rs=g (Z n a):=by
 unfold I1 at h
 split at h
 ·split at h
  ·exact ⟨_,_,rfl,‹_›,(Option.some.inj h).symm⟩
  ·cases h
 ·cases h
theorem I2.eq {g:Int→Int→List D} {n m:Bool} {a b:ByteArray} (ha:a.size≤9000) (hb:b.size≤9000):I2 g [b_ n,s_ a,b_ m,s_ b]=some (g (Z n a) (Z m b)):=if_pos ⟨ha,hb⟩
theorem I2.can {g:Int→Int→List D} {x y:Int} (hx:Sz 9000 x) (hy:Sz 9000 y):I2 g (enc x++enc y)=some (g x y):=by
 have:=I2.eq (g:=g) (n:=(I x).1) (a:=(I x).2) (m:=(I y).1) (b:=(I y).2) hx hy
 rw [Z_I,Z_I] at this
 exact this
theorem I2.left {g:Int→Int→List D} {n:Bool} {a:ByteArray} {y:Int} (ha:a.size≤9000) (hy:Sz 9000 y):I2 g ([b_ n,s_ a]++enc y)=some (g (Z n a) y):=by
 have:=I2.eq (g:=g) (n:=n) (a:=a) (m:=(I y).1) (b:=(I y).2) ha hy
 rw [Z_I] at this
 exact this
theorem I2.inv {g:Int→Int→List D} {ds rs:List D} (h:I2 g ds=some rs):∃ n a m b,ds=[b_ n,s_ a,b_ m,s_ b]∧a.size≤9000∧b.size≤9000∧rs=g (Z n a) (Z m b):=by
 unfold I2 at h
 split at h
 ·split at h
  ·rename_i hc
   exact ⟨_,_,_,_,rfl,hc.1,hc.2,(Option.some.inj h).symm⟩
  ·cases h
 ·cases h
def F_of:Fct
 | [.v (.bool n),.v (.string a)]=>if (N (V a)).data=a.data then some (enc (sg n (V a))) else none
 | _=>none
theorem F_of.eq {n:Bool} {x:Nat}:F_of [b_ n,s_ (N x)]=some (enc (sg n x)):=by
 unfold F_of
 dsimp only
 rw [V_N,if_pos rfl]
theorem F_of.inv {ds rs:List D} (h:F_of ds=some rs):∃ n x,ds=[b_ n,s_ (N x)]∧rs=enc (sg n x):=by
 unfold F_of at h
 split at h
 ·split at h
  ·rename_i n a hc
   refine ⟨n,V a,?_,(Option.some.inj h).symm⟩
   rw [ByteArray.ext hc]
  ·cases h
 ·cases h
abbrev aHV (x y:Int):List D:=[.v (.bool (aEn x y).1),.v (.string (aEn x y).2.1),.v (.bool (aEn x y).2.2.1),.v (.string (aEn x y).2.2.2.1),.v (.bool (aEn x y).2.2.2.2)]
def aAn:Fct:=I1 19000 enc
def aAG:Fct:=I1 19000 fun x=>enc (-x)
def aB9:Fct:=I2 fun x y=>enc (x+y)
def aAW:Fct:=I2 fun x y=>enc (x - y)
def aAd:Fct:=I2 fun x y=>enc (x*y)
def aAj:Fct:=I2 aHV
def aA0:Fct:=I1 19000 fun x=>[i_ (sgn x)]
def aA5:Fct:=I2 fun x y=>[i_ (sgn (x - y))]
def F_ifrom:Fct
 | [.v (.int .i64 n)]=>if -9223372036854775808≤n∧n≤9223372036854775807 then some (enc n) else none
 | _=>none
theorem F_ifrom.eq {n:Int} (h0:-9223372036854775808≤n) (h1:n≤9223372036854775807):F_ifrom [i_ n]=some (enc n):=by
 unfold F_ifrom
 dsimp only
 rw [if_pos ⟨h0,h1⟩]
theorem F_ifrom.inv {ds rs:List D} (h:F_ifrom ds=some rs):∃ n,ds=[i_ n]∧-9223372036854775808≤n∧n≤9223372036854775807∧rs=enc n:=by
 unfold F_ifrom at h
 split at h
 ·split at h
  ·rename_i hc
   exact ⟨_,rfl,hc.1,hc.2,(Option.some.inj h).symm⟩
  ·cases h
 ·cases h
def aBL:Fct:=I1 9000 fun x=>[s_ (aAR x)]
theorem N_nil {x:Nat}:(N x=(⟨#[]⟩:ByteArray)) ↔ x=0:=by rw [← aDa,aKG]
theorem aKR (x:Nat):(!decide (N x=(⟨#[]⟩:ByteArray)))=(I (sg true x)).1:=by
 show _=decide (-(x:Int) < 0)
 rw [Bool.eq_iff_iff,Bool.not_eq_true',decide_eq_true_iff,decide_eq_false_iff_not,N_nil]
 omega
theorem aH4 (b:Bool) (x:Nat):(I (sg b x)).2=N x:=by
 show N (sg b x).natAbs=_
 rw [aCc]
theorem aJO (x:Nat):(I (sg false x)).1=false:=by
 show decide (sg false x < 0)=false
 exact decide_eq_false (by unfold sg;rw [if_neg (by decide)];omega)
theorem of_run {P:Program} {C:Cf} {t:TypeId} {n:Bool} {x:Nat}:(T.ite 0 (.pure (.bin .neq t .true) [.one (.var 1),.one (.const (.string ⟨#[]⟩))] (.ret [.var 2,.var 1])) (.ret [.const (.bool .false),.var 1])).run P C 0 [] [b_ n,s_ (N x)]=some (enc (sg n x)):=by
 refine aAr rfl (fun h=>?_) (fun h=>?_)
 ·subst h
  refine aAe rfl (aFL _ _ _ _) (aAb ?_)
  show some [b_ (!decide (N x=(⟨#[]⟩:ByteArray))),s_ (N x)]=some [b_ (I (sg true x)).1,s_ (I (sg true x)).2]
  rw [aKR,aH4]
 ·subst h
  refine aAb ?_
  show some [b_ false,s_ (N x)]=some [b_ (I (sg false x)).1,s_ (I (sg false x)).2]
  rw [aH4,aJO]
theorem g_iof:Sx.Good Tryz.prog X.G 122 ⟨[.one,.one],.v1 (.agg 2)⟩ F_of:=aAf okN' (fun _ _=>X.G_below) 400 (by kernel_rfl) (by kernel_rfl:_=some aLO) fun ds rs h=>by
 obtain ⟨n,x,rfl,rfl⟩:=F_of.inv h
 exact ⟨0,of_run⟩
def tb1:Tb:=(122,F_of)::tbN'
theorem ok1:TbOk Tryz.prog X.G tb1:=.cons (by kernel_rfl) g_iof okN'
theorem g_inorm:Sx.Good Tryz.prog X.G 70 ⟨[.agg 2],.v1 (.agg 2)⟩ aAn:=aAf ok1 (fun _ _=>X.G_below) 400 (by kernel_rfl) (by kernel_rfl:_=some aGK) fun ds rs h=>by
 obtain ⟨n,a,rfl,ha,rfl⟩:=I1.inv h
 exact ⟨0,aAc aDD rfl rfl (S1.eq (by omega)) rfl (aAc F_of rfl rfl F_of.eq rfl (aAb rfl))⟩
def tb2:Tb:=(70,aAn)::tb1
theorem ok2:TbOk Tryz.prog X.G tb2:=.cons (by kernel_rfl) g_inorm ok1
theorem g_ineg:Sx.Good Tryz.prog X.G 75 ⟨[.agg 2],.v1 (.agg 2)⟩ aAG:=aAf ok2 (fun _ _=>X.G_below) 400 (by kernel_rfl) (by kernel_rfl:_=some aKv) fun ds rs h=>by
 obtain ⟨n,a,rfl,ha,rfl⟩:=I1.inv h
 refine ⟨0,aAc aAn rfl rfl (I1.eq ha) rfl (aAe rfl (aBs _) (aAc F_of rfl rfl F_of.eq rfl (aAb ?_)))⟩
 rw [← aTt (Z n a)]
 rfl
def tb3:Tb:=(75,aAG)::tb2
theorem ok3:TbOk Tryz.prog X.G tb3:=.cons (by kernel_rfl) g_ineg ok2
theorem aAE:Tryz.prog.underlying 4=some .bool:=by kernel_rfl
theorem g_iadd:Sx.Good Tryz.prog X.G 94 ⟨[.agg 2,.agg 2],.v1 (.agg 2)⟩ aB9:=aAf ok3 (fun _ _=>X.G_below) 400 (by kernel_rfl) (by kernel_rfl:_=some aKw) fun ds rs h=>by
 obtain ⟨n,a,m,b,rfl,ha,hb,rfl⟩:=I2.inv h
 have s1:Sz 9000 (Z n a):=.of ha
 have s2:Sz 9000 (Z m b):=.of hb
 refine ⟨0,aAc aAn rfl rfl (I1.eq (by omega)) rfl (aAc aAn rfl rfl (I1.eq (by omega)) rfl (aAe rfl (aJk _ _ _ _ aAE) ?_))⟩
 generalize Z n a=x at *
 generalize Z m b=y at *
 have s1':(N x.natAbs).size≤20000:=Nat.le_trans s1 (by decide)
 have s2':(N y.natAbs).size≤20000:=Nat.le_trans s2 (by decide)
 refine aAr rfl (fun e=>?_) (fun e=>?_)
 ·refine aAc aF7 rfl rfl (S2.eqN s1' s2') rfl (aAc F_of rfl rfl F_of.eq rfl (aAb ?_))
  show some (enc (sg (decide (x < 0)) (x.natAbs+y.natAbs)))=_
  rw [aS9 e]
 ·have e:¬ (decide (x < 0) == decide (y < 0))=true:=fun h=>by
   have h:((I x).1 == (I y).1)=true:=h
   rw [e] at h
   cases h
  refine aAc aF8 rfl rfl (S2.eqN s1' s2') rfl ?_
  by_cases hl:x.natAbs < y.natAbs
  ·unfold aDm
   rw [if_pos hl]
   refine aBw rfl (aAc aF8 rfl rfl (S2.eqN s2' s1') rfl ?_)
   unfold aDm
   rw [if_neg (by omega)]
   refine aAc F_of rfl rfl F_of.eq rfl (aAb ?_)
   show some (enc (sg (decide (y < 0)) (y.natAbs - x.natAbs)))=_
   rw [aNc (fun h=>e (by rw [beq_iff_eq] at h ⊢;exact h.symm)) (by omega),Int.add_comm]
  ·unfold aDm
   rw [if_neg hl]
   refine aBe rfl (aAc F_of rfl rfl F_of.eq rfl (aAb ?_))
   show some (enc (sg (decide (x < 0)) (x.natAbs - y.natAbs)))=_
   rw [aNc e (by omega)]
def tb4:Tb:=(94,aB9)::tb3
theorem ok4:TbOk Tryz.prog X.G tb4:=.cons (by kernel_rfl) g_iadd ok3
theorem g_isub:Sx.Good Tryz.prog X.G 141 ⟨[.agg 2,.agg 2],.v1 (.agg 2)⟩ aAW:=aAf ok4 (fun _ _=>X.G_below) 400 (by kernel_rfl) (by kernel_rfl:_=some aKx) fun ds rs h=>by
 obtain ⟨n,a,m,b,rfl,ha,hb,rfl⟩:=I2.inv h
 have s2:Sz 9000 (Z m b):=.of hb
 exact ⟨0,aAc aAG rfl rfl (I1.eq (by omega)) rfl (aAc aB9 rfl rfl (I2.left ha s2.neg) rfl (aAb rfl))⟩
def tb5:Tb:=(141,aAW)::tb4
theorem ok5:TbOk Tryz.prog X.G tb5:=.cons (by kernel_rfl) g_isub ok4
theorem g_imul:Sx.Good Tryz.prog X.G 86 ⟨[.agg 2,.agg 2],.v1 (.agg 2)⟩ aAd:=aAf ok5 (fun _ _=>X.G_below) 400 (by kernel_rfl) (by kernel_rfl:_=some aKy) fun ds rs h=>by
 obtain ⟨n,a,m,b,rfl,ha,hb,rfl⟩:=I2.inv h
 have s1:Sz 9000 (Z n a):=.of ha
 have s2:Sz 9000 (Z m b):=.of hb
 refine ⟨0,aAc aAn rfl rfl (I1.eq (by omega)) rfl (aAc aAn rfl rfl (I1.eq (by omega)) rfl (aAe rfl (aB0 _ _ _ _ aAE) ?_))⟩
 generalize Z n a=x at *
 generalize Z m b=y at *
 refine aAc aDs rfl rfl (S2.eqN (Nat.le_trans s1 (by decide)) (Nat.le_trans s2 (by decide))) rfl (aAc F_of rfl rfl F_of.eq rfl (aAb ?_))
 show some (enc (sg (decide (x < 0) != decide (y < 0)) (x.natAbs*y.natAbs)))=_
 rw [aQ2]
def tb6:Tb:=(86,aAd)::tb5
theorem ok6:TbOk Tryz.prog X.G tb6:=.cons (by kernel_rfl) g_imul ok5
theorem g_isign:Sx.Good Tryz.prog X.G 71 ⟨[.agg 2],.v1 .one⟩ aA0:=aAf ok6 (fun _ _=>X.G_below) 400 (by kernel_rfl) (by kernel_rfl:_=some aJ7) fun ds rs h=>by
 obtain ⟨n,a,rfl,ha,rfl⟩:=I1.inv h
 refine ⟨0,aAc aAn rfl rfl (I1.eq ha) rfl ?_⟩
 generalize Z n a=z
 unfold sgn
 refine aAr rfl (fun h=>?_) (fun h=>?_)
 ·rw [if_pos (of_decide_eq_true h)]
  exact aAb rfl
 ·rw [if_neg (of_decide_eq_false h)]
  refine aAe rfl (aFL _ _ _ _) ?_
  by_cases h0:z=0
  ·rw [if_pos h0]
   refine aBw (congrArg (fun x=>some (b_ x)) ?_) (aAb rfl)
   show (!decide (N z.natAbs=_))=false
   rw [decide_eq_true (N_nil.2 (by omega))]
   rfl
  ·rw [if_neg h0]
   refine aBe (congrArg (fun x=>some (b_ x)) ?_) (aAb rfl)
   show (!decide (N z.natAbs=_))=true
   rw [decide_eq_false (fun e=>h0 (by have:=N_nil.1 e;omega))]
   rfl
def tb7:Tb:=(71,aA0)::tb6
theorem ok7:TbOk Tryz.prog X.G tb7:=.cons (by kernel_rfl) g_isign ok6
theorem g_icmp:Sx.Good Tryz.prog X.G 88 ⟨[.agg 2,.agg 2],.v1 .one⟩ aA5:=aAf ok7 (fun _ _=>X.G_below) 400 (by kernel_rfl) (by kernel_rfl:_=some aKz) fun ds rs h=>by
 obtain ⟨n,a,m,b,rfl,ha,hb,rfl⟩:=I2.inv h
 have s1:Sz 9000 (Z n a):=.of ha
 have s2:Sz 9000 (Z m b):=.of hb
 exact ⟨0,aAc aAW rfl rfl (I2.eq ha hb) rfl (aAc aA0 rfl rfl (I1.can ((s1.sub s2).le (by decide))) rfl (aAb rfl))⟩
def tb8:Tb:=(88,aA5)::tb7
theorem ok8:TbOk Tryz.prog X.G tb8:=.cons (by kernel_rfl) g_icmp ok7
theorem aEp:Tryz.prog.underlying 2=some (.int .i64):=by kernel_rfl
theorem aFy:Tryz.prog.underlying 116=some (.int .u64):=by kernel_rfl
theorem g_ifrom:Sx.Good Tryz.prog X.G 72 ⟨[.one],.v1 (.agg 2)⟩ F_ifrom:=aAf ok8 (fun _ _=>X.G_below) 400 (by kernel_rfl) (by kernel_rfl:_=some aGL) fun ds rs h=>by
 obtain ⟨n,rfl,h0,h1,rfl⟩:=F_ifrom.inv h
 refine ⟨0,aAe rfl (aAh _ _ _ _ _) ?_⟩
 have w64:∀ i:Int,-9223372036854775808≤i→i≤9223372036854775807→IntKind.i64.wrap i=i:=fun i h0 h1=>by rw [IntKind.wrap_i64];omega
 have wu:∀ i:Int,0≤i→i < 18446744073709551616→IntKind.u64.wrap i=i:=fun i h0 h1=>by rw [IntKind.wrap_u64];omega
 refine aAr rfl (fun h=>?_) (fun h=>?_)
 ·have h:=of_decide_eq_true h
  obtain ⟨x,hx⟩:∃ x:Nat,-n=x:=⟨(-n).toNat,by omega⟩
  refine aAe rfl (aDS _ _ _ _ _) (aAe rfl (aBO _ _) (aAe rfl (aCD aFy _ _ aEp) (aAe rfl (aDS _ _ _ _ _) ?_)))
  rw [w64 (n+1) (by omega) (by omega),w64 (0 - (n+1)) (by omega) (by omega),wu (0 - (n+1)) (by omega) (by omega),wu _ (by omega) (by omega),show 0 - (n+1)+1=(x:Int) by omega]
  refine aAc F_from rfl rfl (F_from.eq (by omega)) rfl (aAc F_of rfl rfl F_of.eq rfl (aAb ?_))
  rw [show n=sg true x by unfold sg;rw [if_pos rfl];omega]
  rfl
 ·have h:=of_decide_eq_false h
  obtain ⟨x,rfl⟩:=Int.eq_ofNat_of_zero_le (show 0≤n by omega)
  refine aAe rfl (aCD aFy _ _ aEp) ?_
  rw [wu _ (by omega) (by omega)]
  exact aAc F_from rfl rfl (F_from.eq (by omega)) rfl (aAc F_of rfl rfl F_of.eq rfl (aAb rfl))
def tb9:Tb:=(72,F_ifrom)::tb8
theorem ok9:TbOk Tryz.prog X.G tb9:=.cons (by kernel_rfl) g_ifrom ok8
theorem g_itext:Sx.Good Tryz.prog X.G 135 ⟨[.agg 2],.v1 .one⟩ aBL:=aAf ok9 (fun _ _=>X.G_below) 400 (by kernel_rfl) (by kernel_rfl:_=some aIp) fun ds rs h=>by
 obtain ⟨n,a,rfl,ha,rfl⟩:=I1.inv h
 have s1:Sz 9000 (Z n a):=.of ha
 refine ⟨0,aAc aAn rfl rfl (I1.eq (by omega)) rfl ?_⟩
 generalize Z n a=z at *
 have hs:(N z.natAbs).size≤10000:=Nat.le_trans s1 (by decide)
 have hd:=aNb s1
 unfold aAR
 refine aAr rfl (fun h=>?_) (fun h=>?_)
 ·rw [if_pos (of_decide_eq_true h)]
  refine aAc aIN rfl rfl (S1.eqN hs) rfl (aAe rfl (aCS _ _ _ _ ?_) (aAb rfl))
  have:(⟨#[45]⟩:ByteArray).size=1:=rfl
  rw [aBZ]
  omega
 ·rw [if_neg (of_decide_eq_false h)]
  exact aAc aIN rfl rfl (S1.eqN hs) rfl (aAb rfl)
def tb10:Tb:=(135,aBL)::tb9
theorem ok10:TbOk Tryz.prog X.G tb10:=.cons (by kernel_rfl) g_itext ok9
set_option maxHeartbeats 2000000 in
theorem g_idiv:Sx.Good Tryz.prog X.G 74 ⟨[.agg 2,.agg 2],.tup [.agg 2,.agg 2,.one]⟩ aAj:=aAf ok10 (fun _ _=>X.G_below) 400 (by kernel_rfl) (by kernel_rfl:_=some aK0) fun ds rs h=>by
 obtain ⟨n,a,m,b,rfl,ha,hb,rfl⟩:=I2.inv h
 have s1:Sz 9000 (Z n a):=.of ha
 have s2:Sz 9000 (Z m b):=.of hb
 refine ⟨0,aAc aAn rfl rfl (I1.eq (by omega)) rfl (aAc aAn rfl rfl (I1.eq (by omega)) rfl ?_)⟩
 generalize Z n a=x at *
 generalize Z m b=y at *
 have s1:(N x.natAbs).size≤9000:=s1
 have s2:(N y.natAbs).size≤9000:=s2
 refine aAc aCl rfl rfl (S2.eqN (by omega) (by omega)) rfl ?_
 unfold aCq
 by_cases hy:y=0
 ·unfold aHV aEn
  rw [if_pos hy,if_pos (by omega)]
  exact aAe rfl (aBs _) (aBe rfl (aAb rfl))
 rw [if_neg (by omega:¬ y.natAbs=0)]
 refine aAe rfl (aBs _) (aBw rfl ?_)
 unfold aHV aEn
 rw [if_neg hy]
 have hxs:=aFZ x
 have hys:=aFZ y
 obtain ⟨a,ha⟩:∃ a,a=x.natAbs:=⟨_,rfl⟩
 obtain ⟨b,hb⟩:∃ b,b=y.natAbs:=⟨_,rfl⟩
 rw [← ha] at hxs
 rw [← hb] at hys
 have hb0:0 < b:=by omega
 obtain ⟨q,hq⟩:∃ q,q=a / b:=⟨_,rfl⟩
 obtain ⟨r,hr⟩:∃ r,r=a % b:=⟨_,rfl⟩
 have hqr:b*q+r=a:=by rw [hq,hr];exact Nat.div_add_mod a b
 have hrl:r < b:=by rw [hr];exact Nat.mod_lt _ hb0
 have hqr':(a:Int)=(b:Int)*q+r:=by rw [← hqr,Int.natCast_add,Int.natCast_mul]
 have hqs:(N q).size≤9000:=Nat.le_trans ((aAP _ (N a).size).2 (Nat.lt_of_le_of_lt (by rw [hq];exact Nat.div_le_self _ _) ((aAP a _).1 (Nat.le_refl _)))) (by rw [ha];exact s1)
 have hrs:(N r).size≤9000:=Nat.le_trans ((aAP _ (N b).size).2 (Nat.lt_trans hrl ((aAP b _).1 (Nat.le_refl _)))) (by rw [hb];exact s2)
 have ea:x.natAbs / y.natAbs=q:=by rw [hq,ha,hb]
 have er:x.natAbs % y.natAbs=r:=by rw [hr,ha,hb]
 rw [ea,er]
 refine aAr rfl (fun hx=>?_) (fun hx=>?_)
 ·have hx:=of_decide_eq_true hx
  rw [decide_eq_true hx] at hxs
  have hxa:x=-(a:Int):=by rw [← hxs];rfl
  refine aAe rfl (aFL _ _ _ _) ?_
  by_cases h0:r=0
  ·have e:=aGa (x:=x) (q:=-(q:Int)) (r:=0) (b:=decide (y < 0)) hb0 (by rw [hxa,hqr',h0,Int.mul_neg];omega) (Int.le_refl _) (by omega)
   rw [hys] at e
   refine aBw (congrArg (fun x=>some (b_ x)) ?_) ?_
   ·show (!decide (N r=_))=false
    rw [decide_eq_true (N_nil.2 h0)]
    rfl
   refine aAe rfl (aB0 _ _ _ _ aAE) (aAc F_of rfl rfl F_of.eq rfl (aAc F_of rfl rfl F_of.eq rfl (aAb ?_)))
   show some (enc (sg (decide (x < 0) != decide (y < 0)) q)++enc (sg false r)++[b_ true])=_
   have e1:x / y=sg (decide (x < 0) != decide (y < 0)) q:=by
    rw [e.1,decide_eq_true hx]
    cases decide (y < 0)<;>simp [sg]
   have e2:x % y=sg false r:=by rw [e.2,h0];rfl
   rw [← e1,← e2]
   rfl
  ·have e:=aGa (x:=x) (q:=-((q+1:Nat):Int)) (r:=((b - r:Nat):Int)) (b:=decide (y < 0)) hb0 (by rw [hxa,hqr',Int.mul_neg,Int.natCast_add,Int.mul_add];omega) (by omega) (by omega)
   rw [hys] at e
   refine aBe (congrArg (fun x=>some (b_ x)) ?_) ?_
   ·show (!decide (N r=_))=true
    rw [decide_eq_false (fun e=>h0 (N_nil.1 e))]
    rfl
   have n1:=S1.eqN (lim:=20000) (g:=fun x=>[s_ (N x)]) (x:=y.natAbs) (by omega)
   refine aAc F_from rfl rfl (F_from.eq (n:=1) (by decide)) rfl (aAc aF7 rfl rfl (S2.eqN (by omega) (Nat.le_trans ((aAP 1 1).2 (by decide)) (by decide))) rfl (aAc aDD rfl rfl n1 rfl (aAc aF8 rfl rfl (S2.eqN (by omega) (by omega)) rfl ?_)))
   unfold aDm
   rw [if_neg (by omega)]
   refine aAe rfl (aB0 _ _ _ _ aAE) (aAc F_of rfl rfl F_of.eq rfl (aAc F_of rfl rfl F_of.eq rfl (aAb ?_)))
   show some (enc (sg (decide (x < 0) != decide (y < 0)) (q+1))++enc (sg false (y.natAbs - r))++[b_ true])=_
   have e1:x / y=sg (decide (x < 0) != decide (y < 0)) (q+1):=by
    rw [e.1,decide_eq_true hx]
    cases decide (y < 0)<;>simp [sg]
   have e2:x % y=sg false (y.natAbs - r):=by rw [e.2,hb];rfl
   rw [← e1,← e2]
   rfl
 ·have hx:=of_decide_eq_false hx
  rw [decide_eq_false hx] at hxs
  have hxa:x=(a:Int):=by rw [← hxs];rfl
  have e:=aGa (x:=x) (q:=(q:Int)) (r:=(r:Int)) (b:=decide (y < 0)) hb0 (by rw [hxa,hqr']) (by omega) (by omega)
  rw [hys] at e
  refine aAe rfl (aB0 _ _ _ _ aAE) (aAc F_of rfl rfl F_of.eq rfl (aAc F_of rfl rfl F_of.eq rfl (aAb ?_)))
  show some (enc (sg (decide (x < 0) != decide (y < 0)) q)++enc (sg false r)++[b_ true])=_
  have e1:x / y=sg (decide (x < 0) != decide (y < 0)) q:=by
   rw [e.1,decide_eq_false hx]
   cases decide (y < 0)<;>simp [sg]
  have e2:x % y=sg false r:=e.2
  rw [← e1,← e2]
  rfl
def tb11:Tb:=(74,aAj)::tb10
theorem ok11:TbOk Tryz.prog X.G tb11:=.cons (by kernel_rfl) g_idiv ok10
end Go.Proofs.YtjefbecmeobegaaGreatDoor.Sp
