import Derived.Test.YtkkjlpfomofiaaaGreatDoorSpM
import Derived.Test.YtkkjlpfomofiaaaGreatDoorTr1
import Derived.Test.YtkkjlpfomofiaaaGreatDoorRatZ
namespace Go.Proofs.YtkkjlpfomofiaaaGreatDoor.Sp
open Go Go.RowKit Sx NatA NatB NatC NatD NatI NatJ IntZ RatZ
abbrev enc (z:Int):List D:=[.v (.bool (I z).1),.v (.string (I z).2)]
def I1 (lim:Nat) (g:Int→List D):Fct
 | [.v (.bool n),.v (.string a)]=>if a.size≤lim then some (g (Z n a)) else none
 | _=>none
def I2 (g:Int→Int→List D):Fct
 | [.v (.bool n),.v (.string a),.v (.bool m),.v (.string b)]=>if a.size≤9000∧b.size≤9000 then some (g (Z n a) (Z m b)) else none
 | _=>none
theorem I1.eq {lim:Nat} {g:Int→List D} {n:Bool} {a:ByteArray} (h:a.size≤lim):I1 lim g [b_ n,s_ a]=some (g (Z n a)):=if_pos h
theorem I1.can {lim:Nat} {g:Int→List D} {z:Int} (h:Sz lim z):I1 lim g (enc z)=some (g z):=by
 have:=I1.eq (g:=g) (n:=(I z).1) (a:=(I z).2) h
 rw [Z_I] at this
 exact this
theorem I1.inv {lim:Nat} {g:Int→List D} {ds rs:List D} (h:I1 lim g ds=some rs):∃ n a,ds=[b_ n,s_ a]∧a.size≤lim∧rs=g (Z n a):=by
 unfold I1 at h
 split at h
 ·split at h
  ·exact ⟨_,_,rfl,‹_›,(Option.some.inj h).symm⟩
  ·cases h
 ·cases h
theorem I2.eq {g:Int→Int→List D} {n m:Bool} {a b:ByteArray} (ha:a.size≤9000) (hb:b.size≤9000):I2 g [b_ n,s_ a,b_ m,s_ b]=some (g (Z n a) (Z m b)):=if_pos ⟨ha,hb⟩
theorem I2.can {g:Int→Int→List D} {x y:Int} (hx:Sz 9000 x) (hy:Sz 9000 y):I2 g (enc x++enc y)=some (g x y):=by
 have:=I2.eq (g:=g) (n:=(I x).1) (a:=(I x).2) (m:=(I y).1) (b:=(I y).2) hx hy
 rw [Z_I,Z_I] at this
 exact this
theorem I2.inv {g:Int→Int→List D} {ds rs:List D} (h:I2 g ds=some rs):∃ n a m b,ds=[b_ n,s_ a,b_ m,s_ b]∧a.size≤9000∧b.size≤9000∧rs=g (Z n a) (Z m b):=by
 unfold I2 at h
 split at h
 ·split at h
  ·rename_i hc
   exact ⟨_,_,_,_,rfl,hc.1,hc.2,(Option.some.inj h).symm⟩
  ·cases h
 ·cases h
def F_of:Fct
 | [.v (.bool n),.v (.string a)]=>if (N (V a)).data=a.data then some (enc (sg n (V a))) else none
 | _=>none
theorem F_of.eq {n:Bool} {x:Nat}:F_of [b_ n,s_ (N x)]=some (enc (sg n x)):=by
 unfold F_of
 dsimp only
 rw [V_N,if_pos rfl]
theorem F_of.inv {ds rs:List D} (h:F_of ds=some rs):∃ n x,ds=[b_ n,s_ (N x)]∧rs=enc (sg n x):=by
 unfold F_of at h
 split at h
 ·split at h
  ·rename_i n a hc
   refine ⟨n,V a,?_,(Option.some.inj h).symm⟩
   rw [ByteArray.ext hc]
  ·cases h
 ·cases h
def aCF:Fct:=I1 19000 enc
def aMW:Fct:=I1 19000 fun x=>enc (-x)
def aFI:Fct:=I1 19000 fun x=>[i_ (sgn x)]
def F_ifrom:Fct
 | [.v (.int .i64 n)]=>if -9223372036854775808≤n∧n≤9223372036854775807 then some (enc n) else none
 | _=>none
theorem F_ifrom.eq {n:Int} (h0:-9223372036854775808≤n) (h1:n≤9223372036854775807):F_ifrom [i_ n]=some (enc n):=by
 unfold F_ifrom
 dsimp only
 rw [if_pos ⟨h0,h1⟩]
theorem F_ifrom.inv {ds rs:List D} (h:F_ifrom ds=some rs):∃ n,ds=[i_ n]∧-9223372036854775808≤n∧n≤9223372036854775807∧rs=enc n:=by
 unfold F_ifrom at h
 split at h
 ·split at h
  ·rename_i hc
   exact ⟨_,rfl,hc.1,hc.2,(Option.some.inj h).symm⟩
  ·cases h
 ·cases h
def aEp:Fct:=I1 9000 fun x=>[s_ (aDN x)]
theorem N_nil {x:Nat}:(N x=(⟨#[]⟩:ByteArray)) ↔ x=0:=by rw [← aFs,aLQ]
theorem aNV (x:Nat):(!decide (N x=(⟨#[]⟩:ByteArray)))=(I (sg true x)).1:=by
 show _=decide (-(x:Int) < 0)
 rw [Bool.eq_iff_iff,Bool.not_eq_true',decide_eq_true_iff,decide_eq_false_iff_not,N_nil]
 omega
theorem aKQ (b:Bool) (x:Nat):(I (sg b x)).2=N x:=by
 show N (sg b x).natAbs=_
 rw [aB3]
theorem aMX (x:Nat):(I (sg false x)).1=false:=by
 show decide (sg false x < 0)=false
 exact decide_eq_false (by unfold sg;rw [if_neg (by decide)];omega)
theorem of_run {P:Program} {C:Cf} {t:TypeId} {n:Bool} {x:Nat}:(T.ite 0 (.pure (.bin .neq t .true) [.one (.var 1),.one (.const (.string ⟨#[]⟩))] (.ret [.var 2,.var 1])) (.ret [.const (.bool .false),.var 1])).run P C 0 [] [b_ n,s_ (N x)]=some (enc (sg n x)):=by
 refine aDu rfl (fun h=>?_) (fun h=>?_)
 ·subst h
  refine aA4 rfl (aHp _ _ _ _) (aAl ?_)
  show some [b_ (!decide (N x=(⟨#[]⟩:ByteArray))),s_ (N x)]=some [b_ (I (sg true x)).1,s_ (I (sg true x)).2]
  rw [aNV,aKQ]
 ·subst h
  refine aAl ?_
  show some [b_ false,s_ (N x)]=some [b_ (I (sg false x)).1,s_ (I (sg false x)).2]
  rw [aKQ,aMX]
theorem g_iof:Sx.Good Tryz.prog X.G 143 ⟨[.one,.one],.v1 (.agg 2)⟩ F_of:=aAj okN' (fun _ _=>X.G_below) 400 (by kernel_rfl) (by kernel_rfl:_=some aJO) fun ds rs h=>by
 obtain ⟨n,x,rfl,rfl⟩:=F_of.inv h
 exact ⟨0,of_run⟩
def tb1:Tb:=(143,F_of)::tbN'
theorem ok1:TbOk Tryz.prog X.G tb1:=.cons (by kernel_rfl) g_iof okN'
theorem g_inorm:Sx.Good Tryz.prog X.G 124 ⟨[.agg 2],.v1 (.agg 2)⟩ aCF:=aAj ok1 (fun _ _=>X.G_below) 400 (by kernel_rfl) (by kernel_rfl:_=some aEF) fun ds rs h=>by
 obtain ⟨n,a,rfl,ha,rfl⟩:=I1.inv h
 exact ⟨0,aAo aGT rfl rfl (S1.eq (by omega)) rfl (aAo F_of rfl rfl F_of.eq rfl (aAl rfl))⟩
def tb2:Tb:=(124,aCF)::tb1
theorem ok2:TbOk Tryz.prog X.G tb2:=.cons (by kernel_rfl) g_inorm ok1
theorem g_ineg:Sx.Good Tryz.prog X.G 103 ⟨[.agg 2],.v1 (.agg 2)⟩ aMW:=aAj ok2 (fun _ _=>X.G_below) 400 (by kernel_rfl) (by kernel_rfl:_=some aI0) fun ds rs h=>by
 obtain ⟨n,a,rfl,ha,rfl⟩:=I1.inv h
 refine ⟨0,aAo aCF rfl rfl (I1.eq ha) rfl (aA4 rfl (aCN _) (aAo F_of rfl rfl F_of.eq rfl (aAl ?_)))⟩
 rw [← aQh (Z n a)]
 rfl
def tb3:Tb:=(103,aMW)::tb2
theorem ok3:TbOk Tryz.prog X.G tb3:=.cons (by kernel_rfl) g_ineg ok2
theorem aE9:Tryz.prog.underlying 4=some .bool:=by kernel_rfl
def tb4:Tb:=tb3
theorem ok4:TbOk Tryz.prog X.G tb4:=ok3
def tb5:Tb:=tb4
theorem ok5:TbOk Tryz.prog X.G tb5:=ok4
def tb6:Tb:=tb5
theorem ok6:TbOk Tryz.prog X.G tb6:=ok5
theorem g_isign:Sx.Good Tryz.prog X.G 144 ⟨[.agg 2],.v1 .one⟩ aFI:=aAj ok6 (fun _ _=>X.G_below) 400 (by kernel_rfl) (by kernel_rfl:_=some aHB) fun ds rs h=>by
 obtain ⟨n,a,rfl,ha,rfl⟩:=I1.inv h
 refine ⟨0,aAo aCF rfl rfl (I1.eq ha) rfl ?_⟩
 generalize Z n a=z
 unfold sgn
 refine aDu rfl (fun h=>?_) (fun h=>?_)
 ·rw [if_pos (of_decide_eq_true h)]
  exact aAl rfl
 ·rw [if_neg (of_decide_eq_false h)]
  refine aA4 rfl (aHp _ _ _ _) ?_
  by_cases h0:z=0
  ·rw [if_pos h0]
   refine aC0 (congrArg (fun x=>some (b_ x)) ?_) (aAl rfl)
   show (!decide (N z.natAbs=_))=false
   rw [decide_eq_true (N_nil.2 (by omega))]
   rfl
  ·rw [if_neg h0]
   refine aDh (congrArg (fun x=>some (b_ x)) ?_) (aAl rfl)
   show (!decide (N z.natAbs=_))=true
   rw [decide_eq_false (fun e=>h0 (by have:=N_nil.1 e;omega))]
   rfl
def tb7:Tb:=(144,aFI)::tb6
theorem ok7:TbOk Tryz.prog X.G tb7:=.cons (by kernel_rfl) g_isign ok6
def tb8:Tb:=tb7
theorem ok8:TbOk Tryz.prog X.G tb8:=ok7
theorem aIt:Tryz.prog.underlying 2=some (.int .i64):=by kernel_rfl
theorem aIu:Tryz.prog.underlying 104=some (.int .u64):=by kernel_rfl
theorem g_ifrom:Sx.Good Tryz.prog X.G 163 ⟨[.one],.v1 (.agg 2)⟩ F_ifrom:=aAj ok8 (fun _ _=>X.G_below) 400 (by kernel_rfl) (by kernel_rfl:_=some aEG) fun ds rs h=>by
 obtain ⟨n,rfl,h0,h1,rfl⟩:=F_ifrom.inv h
 refine ⟨0,aA4 rfl (aAf _ _ _ _ _) ?_⟩
 have w64:∀ i:Int,-9223372036854775808≤i→i≤9223372036854775807→IntKind.i64.wrap i=i:=fun i h0 h1=>by rw [IntKind.wrap_i64];omega
 have wu:∀ i:Int,0≤i→i < 18446744073709551616→IntKind.u64.wrap i=i:=fun i h0 h1=>by rw [IntKind.wrap_u64];omega
 refine aDu rfl (fun h=>?_) (fun h=>?_)
 ·have h:=of_decide_eq_true h
  obtain ⟨x,hx⟩:∃ x:Nat,-n=x:=⟨(-n).toNat,by omega⟩
  refine aA4 rfl (aEw _ _ _ _ _) (aA4 rfl (aJj _ _) (aA4 rfl (aDj aIu _ _ aIt) (aA4 rfl (aEw _ _ _ _ _) ?_)))
  rw [w64 (n+1) (by omega) (by omega),w64 (0 - (n+1)) (by omega) (by omega),wu (0 - (n+1)) (by omega) (by omega),wu _ (by omega) (by omega),show 0 - (n+1)+1=(x:Int) by omega]
  refine aAo F_from rfl rfl (F_from.eq (by omega)) rfl (aAo F_of rfl rfl F_of.eq rfl (aAl ?_))
  rw [show n=sg true x by unfold sg;rw [if_pos rfl];omega]
  rfl
 ·have h:=of_decide_eq_false h
  obtain ⟨x,rfl⟩:=Int.eq_ofNat_of_zero_le (show 0≤n by omega)
  refine aA4 rfl (aDj aIu _ _ aIt) ?_
  rw [wu _ (by omega) (by omega)]
  exact aAo F_from rfl rfl (F_from.eq (by omega)) rfl (aAo F_of rfl rfl F_of.eq rfl (aAl rfl))
def tb9:Tb:=(163,F_ifrom)::tb8
theorem ok9:TbOk Tryz.prog X.G tb9:=.cons (by kernel_rfl) g_ifrom ok8
theorem g_itext:Sx.Good Tryz.prog X.G 87 ⟨[.agg 2],.v1 .one⟩ aEp:=aAj ok9 (fun _ _=>X.G_below) 400 (by kernel_rfl) (by kernel_rfl:_=some aGs) fun ds rs h=>by
 obtain ⟨n,a,rfl,ha,rfl⟩:=I1.inv h
 have s1:Sz 9000 (Z n a):=.of ha
 refine ⟨0,aAo aCF rfl rfl (I1.eq (by omega)) rfl ?_⟩
 generalize Z n a=z at *
 have hs:(N z.natAbs).size≤10000:=Nat.le_trans s1 (by decide)
 have hd:=aKU s1
 unfold aDN
 refine aDu rfl (fun h=>?_) (fun h=>?_)
 ·rw [if_pos (of_decide_eq_true h)]
  refine aAo aGU rfl rfl (S1.eqN hs) rfl (aA4 rfl (aCa _ _ _ _ ?_) (aAl rfl))
  have:(⟨#[45]⟩:ByteArray).size=1:=rfl
  rw [aAR]
  omega
 ·rw [if_neg (of_decide_eq_false h)]
  exact aAo aGU rfl rfl (S1.eqN hs) rfl (aAl rfl)
def tb10:Tb:=(87,aEp)::tb9
theorem ok10:TbOk Tryz.prog X.G tb10:=.cons (by kernel_rfl) g_itext ok9
def tb11:Tb:=tb10
theorem ok11:TbOk Tryz.prog X.G tb11:=ok10
end Go.Proofs.YtkkjlpfomofiaaaGreatDoor.Sp
