import Derived.Test.YtjefbecmeobegaaGreatDoorSpM
import Derived.Test.YtjefbecmeobegaaGreatDoorTr1
import Derived.Test.YtjefbecmeobegaaGreatDoorZZ
namespace Go.Proofs.YtjefbecmeobegaaGreatDoor.Sp
open Go Go.RowKit Sx NatA NatB NatC NatD NatI NatJ IntZ RatZ
abbrev enc (z:Int):List D:=[.v (.bool (I z).1),.v (.string (I z).2)]
def I1 (lim:Nat) (g:Int->List D):Fct
 | [.v (.bool n),.v (.string a)]=>if a.size<=lim then some (g (Z n a)) else none
 | _=>none
def I2 (g:Int->Int->List D):Fct
 | [.v (.bool n),.v (.string a),.v (.bool m),.v (.string b)]=>if a.size<=9000/\b.size<=9000 then some (g (Z n a) (Z m b)) else none
 | _=>none
theorem I1.eq {lim:Nat} {g:Int->List D} {n:Bool} {a:ByteArray} (h:a.size<=lim):I1 lim g [b_ n,s_ a]=some (g (Z n a)):=if_pos h
theorem I1.can {lim:Nat} {g:Int->List D} {z:Int} (h:Sz lim z):I1 lim g (enc z)=some (g z):=by
 have:=I1.eq (g:=g) (n:=(I z).1) (a:=(I z).2) h
 rw [Z_I] at this
 exact this
theorem I1.inv {lim:Nat} {g:Int->List D} {ds rs:List D} (h:I1 lim g ds=some rs):∃ n a,ds=[b_ n,s_ a]/\a.size<=lim/\rs=g (Z n a):=by
 unfold I1 at h
 split at h
 ·split at h
  ·exact ⟨_,_,rfl,‹_›,(Option.some.inj h).symm⟩
  ·cases h
 ·cases h
theorem I2.eq {g:Int->Int->List D} {n m:Bool} {a b:ByteArray} (ha:a.size<=9000) (hb:b.size<=9000):I2 g [b_ n,s_ a,b_ m,s_ b]=some (g (Z n a) (Z m b)):=if_pos ⟨ha,hb⟩
theorem I2.can {g:Int->Int->List D} {x y:Int} (hx:Sz 9000 x) (hy:Sz 9000 y):I2 g (enc x++enc y)=some (g x y):=by
 have:=I2.eq (g:=g) (n:=(I x).1) (a:=(I x).2) (m:=(I y).1) (b:=(I y).2) hx hy
 rw [Z_I,Z_I] at this
 exact this
theorem I2.left {g:Int->Int->List D} {n:Bool} {a:ByteArray} {y:Int} (ha:a.size<=9000) (hy:Sz 9000 y):I2 g ([b_ n,s_ a]++enc y)=some (g (Z n a) y):=by
 have:=I2.eq (g:=g) (n:=n) (a:=a) (m:=(I y).1) (b:=(I y).2) ha hy
 rw [Z_I] at this
 exact this
theorem I2.inv {g:Int->Int->List D} {ds rs:List D} (h:I2 g ds=some rs):∃ n a m b,ds=[b_ n,s_ a,b_ m,s_ b]/\a.size<=9000/\b.size<=9000/\rs=g (Z n a) (Z m b):=by
 unfold I2 at h
 split at h
 ·split at h
  ·rename_i hc
   exact ⟨_,_,_,_,rfl,hc.1,hc.2,(Option.some.inj h).symm⟩
  ·cases h
 ·cases h
def F_of:Fct
 | [.v (.bool n),.v (.string a)]=>if (N (V a)).data=a.data then some (enc (sg n (V a))) else none
 | _=>none
theorem F_of.eq {n:Bool} {x:Nat}:F_of [b_ n,s_ (N x)]=some (enc (sg n x)):=by
 unfold F_of
 dsimp only
 rw [V_N,if_pos rfl]
theorem F_of.inv {ds rs:List D} (h:F_of ds=some rs):∃ n x,ds=[b_ n,s_ (N x)]/\rs=enc (sg n x):=by
 unfold F_of at h
 split at h
 ·split at h
  ·rename_i n a hc
   refine ⟨n,V a,?_,(Option.some.inj h).symm⟩
   rw [ByteArray.ext hc]
  ·cases h
 ·cases h
abbrev aGy (x y:Int):List D:=[.v (.bool (aEb x y).1),.v (.string (aEb x y).2.1),.v (.bool (aEb x y).2.2.1),.v (.string (aEb x y).2.2.2.1),.v (.bool (aEb x y).2.2.2.2)]
def aAj:Fct:=I1 19000 enc
def aAs:Fct:=I1 19000 λ x=>enc (-x)
def aBF:Fct:=I2 λ x y=>enc (x+y)
def aBg:Fct:=I2 λ x y=>enc (x - y)
def aAd:Fct:=I2 λ x y=>enc (x*y)
def aAh:Fct:=I2 aGy
def aAx:Fct:=I1 19000 λ x=>[i_ (sgn x)]
def aBM:Fct:=I2 λ x y=>[i_ (sgn (x - y))]
def F_ifrom:Fct
 | [.v (.int .i64 n)]=>if -9223372036854775808<=n/\n<=9223372036854775807 then some (enc n) else none
 | _=>none
theorem F_ifrom.eq {n:Int} (h0:-9223372036854775808<=n) (h1:n<=9223372036854775807):F_ifrom [i_ n]=some (enc n):=by
 unfold F_ifrom
 dsimp only
 rw [if_pos ⟨h0,h1⟩]
theorem F_ifrom.inv {ds rs:List D} (h:F_ifrom ds=some rs):∃ n,ds=[i_ n]/\-9223372036854775808<=n/\n<=9223372036854775807/\rs=enc n:=by
 unfold F_ifrom at h
 split at h
 ·split at h
  ·rename_i hc
   exact ⟨_,rfl,hc.1,hc.2,(Option.some.inj h).symm⟩
  ·cases h
 ·cases h
def aBX:Fct:=I1 9000 λ x=>[s_ (aAT x)]
theorem N_nil {x:Nat}:(N x=(⟨#[]⟩:ByteArray)) ↔ x=0:=by rw [<- aCn,aLn]
theorem aLv (x:Nat):(!decide (N x=(⟨#[]⟩:ByteArray)))=(I (sg true x)).1:=by
 show _=decide (-(x:Int) < 0)
 rw [Bool.eq_iff_iff,Bool.not_eq_true',decide_eq_true_iff,decide_eq_false_iff_not,N_nil]
 omega
theorem aHQ (b:Bool) (x:Nat):(I (sg b x)).2=N x:=by
 show N (sg b x).natAbs=_
 rw [aCo]
theorem aKt (x:Nat):(I (sg false x)).1=false:=by
 show decide (sg false x < 0)=false
 exact decide_eq_false (by unfold sg;rw [if_neg kQ];omega)
theorem of_run {P:Program} {C:Cf} {t:TypeId} {n:Bool} {x:Nat}:(T.ite 0 (.pure (.bin .neq t .true) [.one (.var 1),.one (.const (.string ⟨#[]⟩))] (.ret [.var 2,.var 1])) (.ret [.const (.bool .false),.var 1])).run P C 0 [] [b_ n,s_ (N x)]=some (enc (sg n x)):=by
 refine aAw rfl (λ h=>?_) (λ h=>?_)
 ·subst h
  refine aAf rfl (aFT _ _ _ _) (aAc ?_)
  show some [b_ (!decide (N x=(⟨#[]⟩:ByteArray))),s_ (N x)]=some [b_ (I (sg true x)).1,s_ (I (sg true x)).2]
  rw [aLv,aHQ]
 ·subst h
  refine aAc ?_
  show some [b_ false,s_ (N x)]=some [b_ (I (sg false x)).1,s_ (I (sg false x)).2]
  rw [aHQ,aKt]
theorem g_iof:Sx.Good Tryz.prog X.G 122 ⟨[.one,.one],.v1 (.agg 2)⟩ F_of:=aAe okN' (λ _ _=>X.G_below) 400 kK (by kernel_rfl:_=some aMs) λ ds rs h=>by
 obtain ⟨n,x,rfl,rfl⟩:=F_of.inv h
 exact ⟨0,of_run⟩
def tb1:Tb:=(122,F_of)::tbN'
theorem ok1:TbOk Tryz.prog X.G tb1:=.cons kK g_iof okN'
theorem g_inorm:Sx.Good Tryz.prog X.G 70 ⟨[.agg 2],.v1 (.agg 2)⟩ aAj:=aAe ok1 (λ _ _=>X.G_below) 400 kK (by kernel_rfl:_=some aHc) λ ds rs h=>by
 obtain ⟨n,a,rfl,ha,rfl⟩:=I1.inv h
 exact ⟨0,aAb aDV rfl rfl (S1.eq kJ) rfl (aAb F_of rfl rfl F_of.eq rfl (aAc rfl))⟩
def tb2:Tb:=(70,aAj)::tb1
theorem ok2:TbOk Tryz.prog X.G tb2:=.cons kK g_inorm ok1
theorem g_ineg:Sx.Good Tryz.prog X.G 75 ⟨[.agg 2],.v1 (.agg 2)⟩ aAs:=aAe ok2 (λ _ _=>X.G_below) 400 kK (by kernel_rfl:_=some aKR) λ ds rs h=>by
 obtain ⟨n,a,rfl,ha,rfl⟩:=I1.inv h
 refine ⟨0,aAb aAj rfl rfl (I1.eq ha) rfl (aAf rfl (aDR _) (aAb F_of rfl rfl F_of.eq rfl (aAc ?_)))⟩
 rw [<- aUk (Z n a)]
 rfl
def tb3:Tb:=(75,aAs)::tb2
theorem ok3:TbOk Tryz.prog X.G tb3:=.cons kK g_ineg ok2
theorem aBJ:Tryz.prog.underlying 4=some .bool:=by kernel_rfl
theorem g_iadd:Sx.Good Tryz.prog X.G 94 ⟨[.agg 2,.agg 2],.v1 (.agg 2)⟩ aBF:=aAe ok3 (λ _ _=>X.G_below) 400 kK (by kernel_rfl:_=some aKS) λ ds rs h=>by
 obtain ⟨n,a,m,b,rfl,ha,hb,rfl⟩:=I2.inv h
 have s1:Sz 9000 (Z n a):=.of ha
 have s2:Sz 9000 (Z m b):=.of hb
 refine ⟨0,aAb aAj rfl rfl (I1.eq kJ) rfl (aAb aAj rfl rfl (I1.eq kJ) rfl (aAf rfl (aNo _ _ _ _ aBJ) ?_))⟩
 generalize Z n a=x at *
 generalize Z m b=y at *
 have s1':(N x.natAbs).size<=20000:=Nat.le_trans s1 kQ
 have s2':(N y.natAbs).size<=20000:=Nat.le_trans s2 kQ
 refine aAw rfl (λ e=>?_) (λ e=>?_)
 ·refine aAb aFI rfl rfl (S2.eqN s1' s2') rfl (aAb F_of rfl rfl F_of.eq rfl (aAc ?_))
  show some (enc (sg (decide (x < 0)) (x.natAbs+y.natAbs)))=_
  rw [aTp e]
 ·have e:¬ (decide (x < 0) == decide (y < 0))=true:=λ h=>by
   have h:((I x).1 == (I y).1)=true:=h
   rw [e] at h
   cases h
  refine aAb aFJ rfl rfl (S2.eqN s1' s2') rfl ?_
  by_cases hl:x.natAbs < y.natAbs
  ·unfold aD0
   rw [if_pos hl]
   refine aBq rfl (aAb aFJ rfl rfl (S2.eqN s2' s1') rfl ?_)
   unfold aD0
   rw [if_neg kJ]
   refine aAb F_of rfl rfl F_of.eq rfl (aAc ?_)
   show some (enc (sg (decide (y < 0)) (y.natAbs - x.natAbs)))=_
   rw [aN8 (λ h=>e (by rw [beq_iff_eq] at h ⊢;exact h.symm)) kJ,Int.add_comm]
  ·unfold aD0
   rw [if_neg hl]
   refine aAZ rfl (aAb F_of rfl rfl F_of.eq rfl (aAc ?_))
   show some (enc (sg (decide (x < 0)) (x.natAbs - y.natAbs)))=_
   rw [aN8 e kJ]
def tb4:Tb:=(94,aBF)::tb3
theorem ok4:TbOk Tryz.prog X.G tb4:=.cons kK g_iadd ok3
theorem g_isub:Sx.Good Tryz.prog X.G 141 ⟨[.agg 2,.agg 2],.v1 (.agg 2)⟩ aBg:=aAe ok4 (λ _ _=>X.G_below) 400 kK (by kernel_rfl:_=some aKT) λ ds rs h=>by
 obtain ⟨n,a,m,b,rfl,ha,hb,rfl⟩:=I2.inv h
 have s2:Sz 9000 (Z m b):=.of hb
 exact ⟨0,aAb aAs rfl rfl (I1.eq kJ) rfl (aAb aBF rfl rfl (I2.left ha s2.neg) rfl (aAc rfl))⟩
def tb5:Tb:=(141,aBg)::tb4
theorem ok5:TbOk Tryz.prog X.G tb5:=.cons kK g_isub ok4
theorem g_imul:Sx.Good Tryz.prog X.G 86 ⟨[.agg 2,.agg 2],.v1 (.agg 2)⟩ aAd:=aAe ok5 (λ _ _=>X.G_below) 400 kK (by kernel_rfl:_=some aKU) λ ds rs h=>by
 obtain ⟨n,a,m,b,rfl,ha,hb,rfl⟩:=I2.inv h
 have s1:Sz 9000 (Z n a):=.of ha
 have s2:Sz 9000 (Z m b):=.of hb
 refine ⟨0,aAb aAj rfl rfl (I1.eq kJ) rfl (aAb aAj rfl rfl (I1.eq kJ) rfl (aAf rfl (aDH _ _ _ _ aBJ) ?_))⟩
 generalize Z n a=x at *
 generalize Z m b=y at *
 refine aAb aDA rfl rfl (S2.eqN (Nat.le_trans s1 kQ) (Nat.le_trans s2 kQ)) rfl (aAb F_of rfl rfl F_of.eq rfl (aAc ?_))
 show some (enc (sg (decide (x < 0) != decide (y < 0)) (x.natAbs*y.natAbs)))=_
 rw [aRe]
def tb6:Tb:=(86,aAd)::tb5
theorem ok6:TbOk Tryz.prog X.G tb6:=.cons kK g_imul ok5
theorem g_isign:Sx.Good Tryz.prog X.G 71 ⟨[.agg 2],.v1 .one⟩ aAx:=aAe ok6 (λ _ _=>X.G_below) 400 kK (by kernel_rfl:_=some aKb) λ ds rs h=>by
 obtain ⟨n,a,rfl,ha,rfl⟩:=I1.inv h
 refine ⟨0,aAb aAj rfl rfl (I1.eq ha) rfl ?_⟩
 generalize Z n a=z
 unfold sgn
 refine aAw rfl (λ h=>?_) (λ h=>?_)
 ·rw [if_pos (of_decide_eq_true h)]
  exact aAc rfl
 ·rw [if_neg (of_decide_eq_false h)]
  refine aAf rfl (aFT _ _ _ _) ?_
  by_cases h0:z=0
  ·rw [if_pos h0]
   refine aBq (congrArg (λ x=>some (b_ x)) ?_) (aAc rfl)
   show (!decide (N z.natAbs=_))=false
   rw [decide_eq_true (N_nil.2 kJ)]
   rfl
  ·rw [if_neg h0]
   refine aAZ (congrArg (λ x=>some (b_ x)) ?_) (aAc rfl)
   show (!decide (N z.natAbs=_))=true
   rw [decide_eq_false (λ e=>h0 (by have:=N_nil.1 e;omega))]
   rfl
def tb7:Tb:=(71,aAx)::tb6
theorem ok7:TbOk Tryz.prog X.G tb7:=.cons kK g_isign ok6
theorem g_icmp:Sx.Good Tryz.prog X.G 88 ⟨[.agg 2,.agg 2],.v1 .one⟩ aBM:=aAe ok7 (λ _ _=>X.G_below) 400 kK (by kernel_rfl:_=some aKV) λ ds rs h=>by
 obtain ⟨n,a,m,b,rfl,ha,hb,rfl⟩:=I2.inv h
 have s1:Sz 9000 (Z n a):=.of ha
 have s2:Sz 9000 (Z m b):=.of hb
 exact ⟨0,aAb aBg rfl rfl (I2.eq ha hb) rfl (aAb aAx rfl rfl (I1.can ((s1.sub s2).le kQ)) rfl (aAc rfl))⟩
def tb8:Tb:=(88,aBM)::tb7
theorem ok8:TbOk Tryz.prog X.G tb8:=.cons kK g_icmp ok7
theorem aF8:Tryz.prog.underlying 2=some (.int .i64):=by kernel_rfl
theorem aF9:Tryz.prog.underlying 116=some (.int .u64):=by kernel_rfl
theorem g_ifrom:Sx.Good Tryz.prog X.G 72 ⟨[.one],.v1 (.agg 2)⟩ F_ifrom:=aAe ok8 (λ _ _=>X.G_below) 400 kK (by kernel_rfl:_=some aHd) λ ds rs h=>by
 obtain ⟨n,rfl,h0,h1,rfl⟩:=F_ifrom.inv h
 refine ⟨0,aAf rfl (aAi _ _ _ _ _) ?_⟩
 have w64:∀ i:Int,-9223372036854775808<=i->i<=9223372036854775807->IntKind.i64.wrap i=i:=λ i h0 h1=>by rw [IntKind.wrap_i64];omega
 have wu:∀ i:Int,0<=i->i < 18446744073709551616->IntKind.u64.wrap i=i:=λ i h0 h1=>by rw [IntKind.wrap_u64];omega
 refine aAw rfl (λ h=>?_) (λ h=>?_)
 ·have h:=of_decide_eq_true h
  obtain ⟨x,hx⟩:∃ x:Nat,-n=x:=⟨(-n).toNat,by omega⟩
  refine aAf rfl (aEf _ _ _ _ _) (aAf rfl (aDe _ _) (aAf rfl (aDv aF9 _ _ aF8) (aAf rfl (aEf _ _ _ _ _) ?_)))
  rw [w64 (n+1) kJ kJ,w64 (0 - (n+1)) kJ kJ,wu (0 - (n+1)) kJ kJ,wu _ kJ kJ,show 0 - (n+1)+1=(x:Int) by omega]
  refine aAb F_from rfl rfl (F_from.eq kJ) rfl (aAb F_of rfl rfl F_of.eq rfl (aAc ?_))
  rw [show n=sg true x by unfold sg;rw [if_pos rfl];omega]
  rfl
 ·have h:=of_decide_eq_false h
  obtain ⟨x,rfl⟩:=Int.eq_ofNat_of_zero_le (show 0<=n by omega)
  refine aAf rfl (aDv aF9 _ _ aF8) ?_
  rw [wu _ kJ kJ]
  exact aAb F_from rfl rfl (F_from.eq kJ) rfl (aAb F_of rfl rfl F_of.eq rfl (aAc rfl))
def tb9:Tb:=(72,F_ifrom)::tb8
theorem ok9:TbOk Tryz.prog X.G tb9:=.cons kK g_ifrom ok8
theorem g_itext:Sx.Good Tryz.prog X.G 135 ⟨[.agg 2],.v1 .one⟩ aBX:=aAe ok9 (λ _ _=>X.G_below) 400 kK (by kernel_rfl:_=some aIG) λ ds rs h=>by
 obtain ⟨n,a,rfl,ha,rfl⟩:=I1.inv h
 have s1:Sz 9000 (Z n a):=.of ha
 refine ⟨0,aAb aAj rfl rfl (I1.eq kJ) rfl ?_⟩
 generalize Z n a=z at *
 have hs:(N z.natAbs).size<=10000:=Nat.le_trans s1 kQ
 have hd:=aN7 s1
 unfold aAT
 refine aAw rfl (λ h=>?_) (λ h=>?_)
 ·rw [if_pos (of_decide_eq_true h)]
  refine aAb aJr rfl rfl (S1.eqN hs) rfl (aAf rfl (aDd _ _ _ _ ?_) (aAc rfl))
  have:(⟨#[45]⟩:ByteArray).size=1:=rfl
  rw [aCk]
  omega
 ·rw [if_neg (of_decide_eq_false h)]
  exact aAb aJr rfl rfl (S1.eqN hs) rfl (aAc rfl)
def tb10:Tb:=(135,aBX)::tb9
theorem ok10:TbOk Tryz.prog X.G tb10:=.cons kK g_itext ok9
set_option maxHeartbeats 2000000 in
theorem g_idiv:Sx.Good Tryz.prog X.G 74 ⟨[.agg 2,.agg 2],.tup [.agg 2,.agg 2,.one]⟩ aAh:=aAe ok10 (λ _ _=>X.G_below) 400 kK (by kernel_rfl:_=some aKW) λ ds rs h=>by
 obtain ⟨n,a,m,b,rfl,ha,hb,rfl⟩:=I2.inv h
 have s1:Sz 9000 (Z n a):=.of ha
 have s2:Sz 9000 (Z m b):=.of hb
 refine ⟨0,aAb aAj rfl rfl (I1.eq kJ) rfl (aAb aAj rfl rfl (I1.eq kJ) rfl ?_)⟩
 generalize Z n a=x at *
 generalize Z m b=y at *
 have s1:(N x.natAbs).size<=9000:=s1
 have s2:(N y.natAbs).size<=9000:=s2
 refine aAb aCx rfl rfl (S2.eqN kJ kJ) rfl ?_
 unfold aC5
 by_cases hy:y=0
 ·unfold aGy aEb
  rw [if_pos hy,if_pos kJ]
  exact aAf rfl (aDR _) (aAZ rfl (aAc rfl))
 rw [if_neg (by omega:¬ y.natAbs=0)]
 refine aAf rfl (aDR _) (aBq rfl ?_)
 unfold aGy aEb
 rw [if_neg hy]
 have hxs:=aEw x
 have hys:=aEw y
 obtain ⟨a,ha⟩:∃ a,a=x.natAbs:=⟨_,rfl⟩
 obtain ⟨b,hb⟩:∃ b,b=y.natAbs:=⟨_,rfl⟩
 rw [<- ha] at hxs
 rw [<- hb] at hys
 have hb0:0 < b:=by omega
 obtain ⟨q,hq⟩:∃ q,q=a / b:=⟨_,rfl⟩
 obtain ⟨r,hr⟩:∃ r,r=a % b:=⟨_,rfl⟩
 have hqr:b*q+r=a:=by rw [hq,hr];exact Nat.div_add_mod a b
 have hrl:r < b:=by rw [hr];exact Nat.mod_lt _ hb0
 have hqr':(a:Int)=(b:Int)*q+r:=by rw [<- hqr,Int.natCast_add,Int.natCast_mul]
 have hqs:(N q).size<=9000:=Nat.le_trans ((aAH _ (N a).size).2 (Nat.lt_of_le_of_lt (by rw [hq];exact Nat.div_le_self _ _) ((aAH a _).1 (Nat.le_refl _)))) (by rw [ha];exact s1)
 have hrs:(N r).size<=9000:=Nat.le_trans ((aAH _ (N b).size).2 (Nat.lt_trans hrl ((aAH b _).1 (Nat.le_refl _)))) (by rw [hb];exact s2)
 have ea:x.natAbs / y.natAbs=q:=by rw [hq,ha,hb]
 have er:x.natAbs % y.natAbs=r:=by rw [hr,ha,hb]
 rw [ea,er]
 refine aAw rfl (λ hx=>?_) (λ hx=>?_)
 ·have hx:=of_decide_eq_true hx
  rw [decide_eq_true hx] at hxs
  have hxa:x=-(a:Int):=by rw [<- hxs];rfl
  refine aAf rfl (aFT _ _ _ _) ?_
  by_cases h0:r=0
  ·have e:=aGm (x:=x) (q:=-(q:Int)) (r:=0) (b:=decide (y < 0)) hb0 (by rw [hxa,hqr',h0,Int.mul_neg];omega) (Int.le_refl _) kJ
   rw [hys] at e
   refine aBq (congrArg (λ x=>some (b_ x)) ?_) ?_
   ·show (!decide (N r=_))=false
    rw [decide_eq_true (N_nil.2 h0)]
    rfl
   refine aAf rfl (aDH _ _ _ _ aBJ) (aAb F_of rfl rfl F_of.eq rfl (aAb F_of rfl rfl F_of.eq rfl (aAc ?_)))
   show some (enc (sg (decide (x < 0) != decide (y < 0)) q)++enc (sg false r)++[b_ true])=_
   have e1:x / y=sg (decide (x < 0) != decide (y < 0)) q:=by
    rw [e.1,decide_eq_true hx]
    cases decide (y < 0)<;>simp [sg]
   have e2:x % y=sg false r:=by rw [e.2,h0];rfl
   rw [<- e1,<- e2]
   rfl
  ·have e:=aGm (x:=x) (q:=-((q+1:Nat):Int)) (r:=((b - r:Nat):Int)) (b:=decide (y < 0)) hb0 (by rw [hxa,hqr',Int.mul_neg,Int.natCast_add,Int.mul_add];omega) kJ kJ
   rw [hys] at e
   refine aAZ (congrArg (λ x=>some (b_ x)) ?_) ?_
   ·show (!decide (N r=_))=true
    rw [decide_eq_false (λ e=>h0 (N_nil.1 e))]
    rfl
   have n1:=S1.eqN (lim:=20000) (g:=λ x=>[s_ (N x)]) (x:=y.natAbs) kJ
   refine aAb F_from rfl rfl (F_from.eq (n:=1) kQ) rfl (aAb aFI rfl rfl (S2.eqN kJ (Nat.le_trans ((aAH 1 1).2 kQ) kQ)) rfl (aAb aDV rfl rfl n1 rfl (aAb aFJ rfl rfl (S2.eqN kJ kJ) rfl ?_)))
   unfold aD0
   rw [if_neg kJ]
   refine aAf rfl (aDH _ _ _ _ aBJ) (aAb F_of rfl rfl F_of.eq rfl (aAb F_of rfl rfl F_of.eq rfl (aAc ?_)))
   show some (enc (sg (decide (x < 0) != decide (y < 0)) (q+1))++enc (sg false (y.natAbs - r))++[b_ true])=_
   have e1:x / y=sg (decide (x < 0) != decide (y < 0)) (q+1):=by
    rw [e.1,decide_eq_true hx]
    cases decide (y < 0)<;>simp [sg]
   have e2:x % y=sg false (y.natAbs - r):=by rw [e.2,hb];rfl
   rw [<- e1,<- e2]
   rfl
 ·have hx:=of_decide_eq_false hx
  rw [decide_eq_false hx] at hxs
  have hxa:x=(a:Int):=by rw [<- hxs];rfl
  have e:=aGm (x:=x) (q:=(q:Int)) (r:=(r:Int)) (b:=decide (y < 0)) hb0 (by rw [hxa,hqr']) kJ kJ
  rw [hys] at e
  refine aAf rfl (aDH _ _ _ _ aBJ) (aAb F_of rfl rfl F_of.eq rfl (aAb F_of rfl rfl F_of.eq rfl (aAc ?_)))
  show some (enc (sg (decide (x < 0) != decide (y < 0)) q)++enc (sg false r)++[b_ true])=_
  have e1:x / y=sg (decide (x < 0) != decide (y < 0)) q:=by
   rw [e.1,decide_eq_false hx]
   cases decide (y < 0)<;>simp [sg]
  have e2:x % y=sg false r:=e.2
  rw [<- e1,<- e2]
  rfl
def tb11:Tb:=(74,aAh)::tb10
theorem ok11:TbOk Tryz.prog X.G tb11:=.cons kK g_idiv ok10
end Go.Proofs.YtjefbecmeobegaaGreatDoor.Sp
