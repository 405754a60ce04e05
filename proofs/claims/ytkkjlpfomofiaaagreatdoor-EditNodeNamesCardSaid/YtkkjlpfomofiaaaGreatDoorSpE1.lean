/- MERGED by merge.py: SpEa SpEb SpEc SpEd SpEe SpEw -/
import Derived.Test.YtkkjlpfomofiaaaGreatDoorSpL
import Derived.Test.YtkkjlpfomofiaaaGreatDoorTr1
import Derived.Test.YtkkjlpfomofiaaaGreatDoorX
import Derived.Test.YtkkjlpfomofiaaaGreatDoorNatN
import Derived.Lib.AtoiErrMem
import Derived.Lib.AppendIntMem
import Derived.Lib.AtoiTie
import Derived.Test.YtkkjlpfomofiaaaGreatDoorSpO
import Derived.Test.YtkkjlpfomofiaaaGreatDoorXB
namespace Go.Proofs.YtkkjlpfomofiaaaGreatDoor.Sp
open Go Go.RowKit YtkkjlpfomofiaaaGreatDoorW.PrintWords Sx
def ch (s:ByteArray) (i:Nat):Nat:=(s.data.toList.getD i 0).toNat
theorem aLZ (s:ByteArray) (i:Nat) (h:i < s.size):s[i].toNat=ch s i:=by
 unfold ch
 rw [List.getD_eq_getElem?_getD,List.getElem?_eq_getElem (h:=by rw [Array.length_toList];exact h),Option.getD_some,Array.getElem_toList]
 rfl
theorem aI1 (s:ByteArray) (i:Nat) (h:i < s.size):(Pu.idx 9).run Tryz.prog [.one (s_ s),.one (i_ i)]=some (y_ (ch s i)):=by
 rw [← aLZ s i h]
 exact aJk aA3 s i h .i64
theorem aBW {P:Program} (t:TypeId) (kk:Bool) (k:IntKind) (a b:Int):(Pu.bin .eql t kk).run P [.one (.v (.int k a)),.one (.v (.int k b))]=some (b_ (decide (a=b))):=by
 rw [aHq]
 rfl
def okc (s:ByteArray) (i:Nat):Bool:=decide (97≤ch s i∧ch s i≤122) || (decide (i≠0) && decide (48≤ch s i∧ch s i≤57))
def aCi (s:ByteArray):Bool:=(List.range s.size).all (okc s) && (decide ((s.size:Int) ≥ 1) && decide ((s.size:Int)≤24))
theorem aBC {s:ByteArray} {i:Nat} (h:i < s.size) (ho:okc s i=false):aCi s=false:=by
 unfold aCi
 have:(List.range s.size).all (okc s)=false:=by
  rw [List.all_eq_false]
  exact ⟨i,List.mem_range.2 h,by rw [ho];decide⟩
 rw [this]
 rfl
theorem aIM {s:ByteArray} (h:∀ j,j < s.size→okc s j=true):aCi s=(decide ((s.size:Int) ≥ 1) && decide ((s.size:Int)≤24)):=by
 unfold aCi
 have:(List.range s.size).all (okc s)=true:=List.all_eq_true.2 fun j hj=>h j (List.mem_range.1 hj)
 rw [this,Bool.true_and]
theorem aCj {s:ByteArray} {i:Nat} (h1:¬ (97≤ch s i∧ch s i≤122)) (h2:i=0∨ch s i < 48∨ch s i > 57):okc s i=false:=by
 unfold okc
 rw [decide_eq_false h1,Bool.false_or]
 rcases h2 with h | h | h
 ·rw [decide_eq_false (by omega),Bool.false_and]
 ·rw [decide_eq_false (p:=48≤ch s i∧ch s i≤57) (by omega),Bool.and_false]
 ·rw [decide_eq_false (p:=48≤ch s i∧ch s i≤57) (by omega),Bool.and_false]
theorem aI2 {s:ByteArray} {i:Nat} (h:(97≤ch s i∧ch s i≤122)∨(i≠0∧48≤ch s i∧ch s i≤57)):okc s i=true:=by
 unfold okc
 rcases h with h | h
 ·rw [decide_eq_true h,Bool.true_or]
 ·rw [decide_eq_true h.1,decide_eq_true h.2,Bool.and_self,Bool.or_true]
theorem aEK {q:Nat→Prop} {i:Nat} (h:∀ j,j < i→q j) (hi:q i):∀ j,j < i+1→q j:=fun j hj=>by
 rcases Nat.lt_or_eq_of_le (Nat.le_of_lt_succ hj) with h' | h'
 ·exact h j h'
 ·exact h' ▸ hi
def F_auth:Fct
 | [.v (.string a)]=>if a.size≤1000000 then some [b_ (aCi a)] else none
 | _=>none
theorem F_auth.eq {a:ByteArray} (h:a.size≤1000000):F_auth [s_ a]=some [b_ (aCi a)]:=if_pos h
theorem F_auth.inv {ds rs:List D} (h:F_auth ds=some rs):∃ a:ByteArray,ds=[s_ a]∧a.size≤1000000∧rs=[b_ (aCi a)]:=by
 unfold F_auth at h
 split at h
 ·split at h
  ·exact ⟨_,rfl,‹_›,(Option.some.inj h).symm⟩
  ·cases h
 ·cases h
theorem aMa {C:Cf} (s:ByteArray) (hs:s.size≤1000000) (r:Nat):∀ i:Nat,i+r=s.size→(∀ j,j < i→okc s j=true) →
  Rn Tryz.prog C aBm [aBm] [s_ s,i_ s.size,i_ i] [b_ (aCi s)]:=by
 induction r with
 | zero =>
  intro i hi hj
  obtain rfl:i=s.size:=by omega
  rw [aIM hj]
  refine rF (by omega) (aAf 3 false .i64 s.size s.size) (rp (aAG aA3 s) ?_)
  by_cases h1:(s.size:Int) ≥ 1
  ·rw [decide_eq_true h1,Bool.true_and]
   exact rT h1 (aDi 3 true .i64 s.size 1) (rp (aAG aA3 s) (rp (aFx 3 true .i64 s.size 24) rr))
  ·rw [decide_eq_false h1,Bool.false_and]
   exact rF h1 (aDi 3 true .i64 s.size 1) rr
 | succ r ih =>
  intro i hi hj
  have hil:i < s.size:=by omega
  have p1:=aI1 s i hil
  have pa:=aBb (P:=Tryz.prog) 3 true (i:Int) 1 (by omega)
  have next:=fun h=>ih (i+1) (by omega) (aEK hj h)
  obtain ⟨c,hc⟩:∃ c,c=ch s i:=⟨_,rfl⟩
  rw [← hc] at p1
  refine rT (by omega) (aAf 3 false .i64 i s.size) (rp p1 ?_)
  by_cases h1:c < 97
  ·refine rT (by omega) (aAf 5 true .u8 c 97) ?_
   by_cases h2:i=0
   ·rw [aBC hil (aCj (by omega) (.inl h2))]
    exact rT (by omega) (aBW 3 true .i64 i 0) rr
   refine rF (by omega) (aBW 3 true .i64 i 0) ?_
   by_cases h3:c < 48
   ·rw [aBC hil (aCj (by omega) (.inr (.inl (by omega))))]
    exact rT (by omega) (aAf 5 true .u8 c 48) rr
   refine rF (by omega) (aAf 5 true .u8 c 48) ?_
   by_cases h4:c > 57
   ·rw [aBC hil (aCj (by omega) (.inr (.inr (by omega))))]
    exact rT (by omega) (aAC 5 true .u8 c 57) rr
   exact rF (by omega) (aAC 5 true .u8 c 57) (rp pa (ra (next (aI2 (.inr ⟨h2,by omega,by omega⟩)))))
  refine rF (by omega) (aAf 5 true .u8 c 97) ?_
  by_cases h5:c > 122
  ·refine rT (by omega) (aAC 5 true .u8 c 122) ?_
   by_cases h2:i=0
   ·rw [aBC hil (aCj (by omega) (.inl h2))]
    exact rT (by omega) (aBW 3 true .i64 i 0) rr
   refine rF (by omega) (aBW 3 true .i64 i 0) (rF (by omega) (aAf 5 true .u8 c 48) ?_)
   rw [aBC hil (aCj (by omega) (.inr (.inr (by omega))))]
   exact rT (by omega) (aAC 5 true .u8 c 57) rr
  exact rF (by omega) (aAC 5 true .u8 c 122) (rp pa (ra (next (aI2 (.inl ⟨by omega,by omega⟩)))))
theorem g_auth:Sx.Good Tryz.prog X.G 61 ⟨[.one],.v1 .one⟩ F_auth:=aAj (tb:=[]) trivial (fun _ _=>X.G_below) 400 (by kernel_rfl) (by kernel_rfl:_=some aE7) fun ds rs h=>by
 obtain ⟨a,rfl,ha,rfl⟩:=F_auth.inv h
 exact rp (aAG aA3 a) (rl (aMa a ha a.size 0 (by omega) (fun _ h=>absurd h (Nat.not_lt_zero _))))
theorem aKV {C:Cf} (s:ByteArray) (hs:s.size≤1000000) (r:Nat):∀ i:Nat,i+r=s.size→(∀ j,j < i→okc s j=true) →
  Rn Tryz.prog C aBd [aBd] [s_ s,i_ i] [b_ (aCi s)]:=by
 induction r with
 | zero =>
  intro i hi hj
  obtain rfl:i=s.size:=by omega
  rw [aIM hj]
  refine rp (aAG aA3 s) (rF (by omega) (aAf 3 false .i64 s.size s.size) (rp (aAG aA3 s) ?_))
  by_cases h1:(s.size:Int) ≥ 1
  ·rw [decide_eq_true h1,Bool.true_and]
   exact rT (by omega) (aAC 3 true .i64 s.size 0) (rp (aAG aA3 s) (rp (aFx 3 true .i64 s.size 24) rr))
  ·rw [decide_eq_false h1,Bool.false_and]
   exact rF (by omega) (aAC 3 true .i64 s.size 0) rr
 | succ r ih =>
  intro i hi hj
  have hil:i < s.size:=by omega
  have p1:=aI1 s i hil
  have pa:=aBb (P:=Tryz.prog) 3 true (i:Int) 1 (by omega)
  have next:=fun h=>ih (i+1) (by omega) (aEK hj h)
  obtain ⟨c,hc⟩:∃ c,c=ch s i:=⟨_,rfl⟩
  rw [← hc] at p1
  refine rp (aAG aA3 s) (rT (by omega) (aAf 3 false .i64 i s.size) (rp p1 ?_))
  by_cases h1:c ≥ 97
  ·refine rT (by omega) (aDi 5 true .u8 c 97) (rp p1 (rp (aFx 5 true .u8 c 122) (rp (aCN (decide ((c:Int)≤122))) ?_)))
   by_cases h5:c≤122
   ·rw [decide_eq_true (show (c:Int)≤122 by omega)]
    exact rn (rp pa (ra (next (aI2 (.inl ⟨by omega,by omega⟩)))))
   rw [decide_eq_false (show ¬ (c:Int)≤122 by omega)]
   refine ry ?_
   by_cases h2:i=0
   ·rw [aBC hil (aCj (by omega) (.inl h2))]
    exact rT (by omega) (aBW 3 true .i64 i 0) rr
   rw [aBC hil (aCj (by omega) (.inr (.inr (by omega))))]
   exact rF (by omega) (aBW 3 true .i64 i 0) (rp p1 (rF (by omega) (aAf 5 true .u8 c 48) (rp p1 (rT (by omega) (aAC 5 true .u8 c 57) rr))))
  refine rF (by omega) (aDi 5 true .u8 c 97) ?_
  by_cases h2:i=0
  ·rw [aBC hil (aCj (by omega) (.inl h2))]
   exact rT (by omega) (aBW 3 true .i64 i 0) rr
  refine rF (by omega) (aBW 3 true .i64 i 0) (rp p1 ?_)
  by_cases h3:c < 48
  ·rw [aBC hil (aCj (by omega) (.inr (.inl (by omega))))]
   exact rT (by omega) (aAf 5 true .u8 c 48) rr
  refine rF (by omega) (aAf 5 true .u8 c 48) (rp p1 ?_)
  by_cases h4:c > 57
  ·rw [aBC hil (aCj (by omega) (.inr (.inr (by omega))))]
   exact rT (by omega) (aAC 5 true .u8 c 57) rr
  exact rF (by omega) (aAC 5 true .u8 c 57) (rp pa (ra (next (aI2 (.inr ⟨h2,by omega,by omega⟩)))))
theorem aPw:Sx.Good Tryz.prog X.G 42 ⟨[.one],.v1 .one⟩ F_auth:=aAj (tb:=[]) trivial (fun _ _=>X.G_below) 400 (by kernel_rfl) (by kernel_rfl:_=some aDU) fun ds rs h=>by
 obtain ⟨a,rfl,ha,rfl⟩:=F_auth.inv h
 exact rl (aKV a ha a.size 0 (by omega) (fun _ h=>absurd h (Nat.not_lt_zero _)))
def aBh (s:ByteArray) (n:Int):Bool:=aCi s && (decide (n ≥ 1) && decide (n≤1000000000))
def F_idok:Fct
 | [.v (.string a),.v (.int .i64 n)]=>if a.size≤1000000 then some [b_ (aBh a n)] else none
 | _=>none
theorem F_idok.eq {a:ByteArray} {n:Int} (h:a.size≤1000000):F_idok [s_ a,i_ n]=some [b_ (aBh a n)]:=if_pos h
theorem F_idok.inv {ds rs:List D} (h:F_idok ds=some rs):∃ (a:ByteArray) (n:Int),ds=[s_ a,i_ n]∧a.size≤1000000∧rs=[b_ (aBh a n)]:=by
 unfold F_idok at h
 split at h
 ·split at h
  ·exact ⟨_,_,rfl,‹_›,(Option.some.inj h).symm⟩
  ·cases h
 ·cases h
def aNf:Tb:=[(61,F_auth),(42,F_auth)]
theorem okEa:TbOk Tryz.prog X.G aNf:=.cons (by kernel_rfl) g_auth (.cons (by kernel_rfl) aPw trivial)
theorem aIN {t:T} {f:FuncId} (ht:t=.call f [.var 0] 1 (.ite 2 (.pure (.bin .geq 3 true) [.one (.var 1),.one (.const (.int .i64 1))] (.ite 3 (.pure (.bin .leq 3 true) [.one (.var 1),.one (.const (.int .i64 1000000000))] (.ret [.var 4])) (.ret [.const (.bool false)]))) (.ret [.const (.bool false)]))) (hf:aBc aNf f=F_auth) {a:ByteArray} {n:Int} (ha:a.size≤1000000):Rn Tryz.prog (aBc aNf) t [] [s_ a,i_ n] [b_ (aBh a n)]:=by
 subst ht
 unfold aBh
 refine rc F_auth (F_auth.eq ha) ?_ hf
 cases h:aCi a with
 | false=>exact rn rr
 | true =>
  refine ry ?_
  rw [Bool.true_and]
  by_cases h1:n ≥ 1
  ·rw [decide_eq_true h1,Bool.true_and]
   exact rT h1 (aDi 3 true .i64 n 1) (rp (aFx 3 true .i64 n 1000000000) rr)
  ·rw [decide_eq_false h1,Bool.false_and]
   exact rF h1 (aDi 3 true .i64 n 1) rr
theorem g_valid:Sx.Good Tryz.prog X.G 54 ⟨[.agg 2],.v1 .one⟩ F_idok:=aAj okEa (fun _ _=>X.G_below) 400 (by kernel_rfl) (by kernel_rfl:_=some aJP) fun ds rs h=>by
 obtain ⟨a,n,rfl,ha,rfl⟩:=F_idok.inv h
 exact aIN rfl rfl ha
theorem aQj:Sx.Good Tryz.prog X.G 58 ⟨[.agg 2],.v1 .one⟩ F_idok:=aAj okEa (fun _ _=>X.G_below) 400 (by kernel_rfl) (by kernel_rfl:_=some aEI) fun ds rs h=>by
 obtain ⟨a,n,rfl,ha,rfl⟩:=F_idok.inv h
 exact aIN rfl rfl ha
end Go.Proofs.YtkkjlpfomofiaaaGreatDoor.Sp
namespace Go.Proofs.YtkkjlpfomofiaaaGreatDoor.Sp
open Go Go.RowKit YtkkjlpfomofiaaaGreatDoorW.PrintWords Sx NatA NatJ NatN
def dec (n:Int):ByteArray:=⟨(Lib.itoa n).toArray⟩
theorem aBQ (n:Nat):dec (n:Int)=text n:=by
 unfold dec text Lib.itoa
 rw [if_neg (by omega),Int.toNat_natCast]
theorem aMb (a b:List UInt8):(⟨a.toArray⟩:ByteArray)++(⟨b.toArray⟩:ByteArray)=⟨(a++b).toArray⟩:=by
 apply ByteArray.ext
 rw [ByteArray.data_append]
 simp
theorem aKo {n:Int} (h:n < 0):dec n=(⟨#[45]⟩:ByteArray)++dec (-n):=by
 unfold dec Lib.itoa
 rw [if_pos h,if_neg (by omega),show (-n).toNat=n.natAbs by omega]
 exact (aMb [45] _).symm
theorem aOA {n:Nat} (h:¬ n < 10):dec (n:Int)=dec ((n / 10:Nat):Int)++dec ((n % 10:Nat):Int):=by
 rw [aBQ,aBQ,aBQ]
 unfold text
 rw [aMb,Lib.decDigits_one (Nat.mod_lt _ (by decide))]
 have:Lib.decDigits n=Lib.decDigits (n / 10)++[UInt8.ofNat (48+n % 10)]:=by rw [Lib.decDigits,dif_neg h]
 rw [this]
theorem aOB:∀ {n:Nat} (_:n < 10),dec (n:Int)=(⟨#[48,49,50,51,52,53,54,55,56,57]⟩:ByteArray).extract n (n+1)
 | 0,_ | 1,_ | 2,_ | 3,_ | 4,_ | 5,_ | 6,_ | 7,_ | 8,_ | 9,_=>by
  rw [aBQ]
  unfold text
  rw [Lib.decDigits_one (by decide)]
  rfl
 | n+10,h=>by omega
theorem aDp {n:Int} (h0:-1000000000000 < n) (h1:n < 1000000000000):(dec n).size≤13:=by
 have key:∀ m:Nat,m < 1000000000000→(dec (m:Int)).size≤12:=fun m hm=>by
  rw [aBQ,aAR]
  exact aB6 11 m hm
 rcases Int.lt_or_le n 0 with h | h
 ·rw [aKo h,ByteArray.size_append]
  obtain ⟨m,hm⟩:=Int.eq_ofNat_of_zero_le (show 0≤-n by omega)
  have:=key m (by omega)
  rw [hm]
  have h2:(⟨#[45]⟩:ByteArray).size=1:=rfl
  omega
 ·obtain ⟨m,rfl⟩:=Int.eq_ofNat_of_zero_le h
  have:=key m (by omega)
  omega
def F_dec:Fct
 | [.v (.int .i64 n)]=>if -1000000000000 < n∧n < 1000000000000 then some [s_ (dec n)] else none
 | _=>none
theorem F_dec.eq {n:Int} (h0:-1000000000000 < n) (h1:n < 1000000000000):F_dec [i_ n]=some [s_ (dec n)]:=if_pos ⟨h0,h1⟩
theorem F_dec.inv {ds rs:List D} (h:F_dec ds=some rs):∃ n:Int,ds=[i_ n]∧-1000000000000 < n∧n < 1000000000000∧rs=[s_ (dec n)]:=by
 unfold F_dec at h
 split at h
 ·split at h
  ·rename_i hc
   exact ⟨_,rfl,hc.1,hc.2,(Option.some.inj h).symm⟩
  ·cases h
 ·cases h
def Fp (k:Nat):Fct
 | [.v (.int .i64 n)]=>if 0≤n∧n.toNat < 10 ^ k∧n < 1000000000000 then some [s_ (dec n)] else none
 | _=>none
theorem Fp.eq {k n:Nat} (h0:n < 10 ^ k) (h1:n < 1000000000000):Fp k [i_ (n:Int)]=some [s_ (dec n)]:=if_pos ⟨by omega,h0,by omega⟩
theorem Fp.inv {k:Nat} {ds rs:List D} (h:Fp k ds=some rs):∃ n:Nat,ds=[i_ (n:Int)]∧n < 10 ^ k∧n < 1000000000000∧rs=[s_ (dec n)]:=by
 unfold Fp at h
 split at h
 ·split at h
  ·rename_i hc
   obtain ⟨q,rfl⟩:=Int.eq_ofNat_of_zero_le hc.1
   exact ⟨q,rfl,hc.2.1,by omega,(Option.some.inj h).symm⟩
  ·cases h
 ·cases h
theorem aHg {C:Cf} {n:Nat} (h:n < 1000000000000) (hC:10≤n→∀ m:Nat,m=n / 10∨m=n % 10→C 59 [i_ (m:Int)]=some [s_ (dec m)]):Rn Tryz.prog C aBk [] [i_ (n:Int)] [s_ (dec n)]:=by
 have pa:=aBb (P:=Tryz.prog) 3 true (n:Int) 1 (by omega)
 by_cases h10:n < 10
 ·rw [aOB h10]
  exact rF (by omega) (aAf 3 true .i64 n 0) (rT (by omega) (aAf 3 true .i64 n 10) (rp pa (rp (aPA aA3 _ .i64 .i64 n (n+1) (by omega) (by rw [show (⟨#[48,49,50,51,52,53,54,55,56,57]⟩:ByteArray).size=10 from rfl];omega)) rr)))
 ·rw [aOA h10]
  have p1:=aKZ (P:=Tryz.prog) 3 true (n:Int) 10 (by omega) (by decide)
  have p2:=aLa (P:=Tryz.prog) 3 true .i64 (n:Int) 10 (by omega) (by decide)
  rw [show (n:Int) / 10=((n / 10:Nat):Int) by omega] at p1
  rw [show (n:Int) % 10=((n % 10:Nat):Int) by omega] at p2
  have s1:=aDp (n:=((n / 10:Nat):Int)) (by omega) (by omega)
  have s2:=aDp (n:=((n % 10:Nat):Int)) (by omega) (by omega)
  exact rF (by omega) (aAf 3 true .i64 n 0) (rF (by omega) (aAf 3 true .i64 n 10) (rp p1 (rc _ (hC (by omega) _ (.inl rfl)) (rp p2 (rc _ (hC (by omega) _ (.inr rfl)) (rp (aCa 9 false (dec ((n / 10:Nat):Int)) (dec ((n % 10:Nat):Int)) (by omega)) rr))))))
def aGx:Fct:=fun _=>none
theorem g_fp:∀ k:Nat,Sx.Good Tryz.prog X.G 59 ⟨[.one],.v1 .one⟩ (Fp k)
 | 0=>aAj (tb:=[(59,aGx)]) (.cons (ct:=⟨[.one],.v1 .one⟩) (by kernel_rfl) (fun _ _ h=>nomatch h) trivial) (fun _ _=>X.G_below) 400 (by kernel_rfl) (by kernel_rfl:_=some aBk) fun ds rs h=>by
  obtain ⟨n,rfl,h0,h1,rfl⟩:=Fp.inv h
  exact aHg h1 (fun h=>by omega)
 | k+1=>aAj (tb:=[(59,Fp k)]) (.cons (by kernel_rfl) (g_fp k) trivial) (fun _ _=>X.G_below) 400 (by kernel_rfl) (by kernel_rfl:_=some aBk) fun ds rs h=>by
  obtain ⟨n,rfl,h0,h1,rfl⟩:=Fp.inv h
  refine aHg h1 (fun h m hm=>?_)
  have e:aBc [(59,Fp k)] 59 [i_ (m:Int)]=Fp k [i_ (m:Int)]:=rfl
  rw [e]
  rw [Nat.pow_succ] at h0
  refine Fp.eq ?_ (by omega)
  rcases hm with rfl | rfl
  ·omega
  ·cases k with
   | zero=>rw [Nat.pow_zero] at h0;omega
   | succ k =>
    have:10≤10 ^ (k+1):=by
     rw [Nat.pow_succ]
     have:=Nat.pow_pos (n:=k) (show 0 < 10 by decide)
     omega
    omega
theorem aOb:Sx.Good Tryz.prog X.G 59 ⟨[.one],.v1 .one⟩ F_dec:=aAj (tb:=[(59,Fp 12)]) (.cons (by kernel_rfl) (g_fp 12) trivial) (fun _ _=>X.G_below) 400 (by kernel_rfl) (by kernel_rfl:_=some aBk) fun ds rs h=>by
 obtain ⟨n,rfl,h0,h1,rfl⟩:=F_dec.inv h
 have e:∀ m:Nat,m < 1000000000000→aBc [(59,Fp 12)] 59 [i_ (m:Int)]=some [s_ (dec m)]:=fun m hm=>Fp.eq (k:=12) (Nat.lt_of_lt_of_le hm (by decide)) hm
 rcases Int.lt_or_le n 0 with hn | hn
 ·rw [aKo hn]
  obtain ⟨m,hm⟩:=Int.eq_ofNat_of_zero_le (show 0≤-n by omega)
  have p:(Pu.un .neg).run Tryz.prog [.one (i_ n)]=some (i_ (m:Int)):=by
   rw [aJj,wi (by omega),← hm,Int.zero_sub]
  have s1:=aDp (n:=(m:Int)) (by omega) (by omega)
  rw [hm]
  exact rT hn (aAf 3 true .i64 n 0) (rp p (rc _ (e m (by omega)) (rp (aCa 9 true (⟨#[45]⟩:ByteArray) (dec (m:Int)) (by rw [show (⟨#[45]⟩:ByteArray).size=1 from rfl];omega)) rr)))
 ·obtain ⟨m,rfl⟩:=Int.eq_ofNat_of_zero_le hn
  exact aHg (by omega) (fun _ j hj=>e j (by omega))
theorem g_itoa:Sx.Good Tryz.prog X.G 39 ⟨[.one],.v1 .one⟩ F_dec:=aBp fun ds rs h=>by
 obtain ⟨n,rfl,h0,h1,rfl⟩:=F_dec.inv h
 refine ⟨[.int .i64 n],[.string (dec n)],rfl,rfl,rfl,rfl,fun w hw=>?_⟩
 refine (Go.Proofs.Tryz.strconv_Itoa n (by omega) (by omega) w hw.1).mono ?_
 rintro e w' ⟨rfl,k,os,rfl⟩
 exact ⟨rfl,Lib.below_grow _ _ (Nat.le_refl _) k os⟩
def F_last:Fct
 | [.v (.string a),.v (.int .u8 c)]=>if a.size≤1000000 then some [i_ (Lib.lastIndexByte a c)] else none
 | _=>none
theorem F_last.eq {a:ByteArray} {c:Int} (h:a.size≤1000000):F_last [s_ a,y_ c]=some [i_ (Lib.lastIndexByte a c)]:=if_pos h
theorem g_last:Sx.Good Tryz.prog X.G 55 ⟨[.one,.one],.v1 .one⟩ F_last:=aBp fun ds rs h=>by
 unfold F_last at h
 split at h
 ·rename_i a c
  split at h
  ·rename_i ha
   obtain rfl:=(Option.some.inj h).symm
   refine ⟨[.string a,.int .u8 c],[.int .i64 (Lib.lastIndexByte a c)],rfl,rfl,rfl,rfl,fun w hw=>?_⟩
   refine (Go.Proofs.Tryz.strings_LastIndexByte a c (by omega) w).mono ?_
   rintro e w' ⟨rfl,rfl⟩
   exact ⟨rfl,Below.refl _ _⟩
  ·cases h
 ·cases h
def aAM (a:ByteArray):Int × D:=match Lib.atoiAll a.data.toList with
 | .ok v=>(v,.v .nilIface)
 | .range=>(Lib.atoiSat a.data.toList,.err)
 | _=>(0,.err)
def F_atoi:Fct
 | [.v (.string a)]=>if a.size≤1000000 then some [i_ (aAM a).1,(aAM a).2] else none
 | _=>none
theorem F_atoi.eq {a:ByteArray} (h:a.size≤1000000):F_atoi [s_ a]=some [i_ (aAM a).1,(aAM a).2]:=if_pos h
theorem g_atoi:Sx.Good Tryz.prog X.G 56 ⟨[.one],.tup [.one,.one]⟩ F_atoi:=by
 intro ds rs hF h w args hw hh ha
 unfold F_atoi at hF
 split at hF
 ·rename_i a
  split at hF
  ·rename_i hc
   obtain rfl:=Option.some.inj hF
   obtain ⟨d1,d2,v,vs,e1,rfl,⟨d,rfl,g1⟩,⟨e3,e4⟩⟩:=ha
   subst e3
   subst e4
   obtain ⟨rfl,-⟩:=List.cons.inj e1
   obtain rfl:=(D.at_v.1 g1).1
   have keep:∀ {w':World},Below w.heap.size w w'→∀ b o x,h b o=some x→w'.cell? ⟨b,o,none⟩=some x:=fun hb b o x e=>by
    have h6:=hh b o x e
    rw [hb.cell (p:=⟨b,o,none⟩) (aBx h6)]
    exact h6
   have fin:∀ {w':World} {x:Value},Below w.heap.size w w'→D.at h (aAM a).2 x→aLg h w (.tup [.one,.one]) [i_ (aAM a).1,(aAM a).2] (.returned (.tuple #[.int .i64 (aAM a).1,x])) w':=fun {w' x} hb hx =>
    ⟨_,h,rfl,hb,Hp.le.refl _,fun b o y e=>⟨keep hb b o y e,.inr e⟩,_,rfl,[_],[_],_,[_],rfl,rfl,⟨_,rfl,D.at_v.2 ⟨rfl,rfl⟩⟩,[_],[],_,[],rfl,rfl,⟨_,rfl,hx⟩,rfl,rfl⟩
   cases hq:Lib.atoiAll a.data.toList
   ·rename_i v
    have e:aAM a=(v,.v .nilIface):=by unfold aAM;rw [hq]
    rw [e] at fin ⊢
    refine (Go.Proofs.Tryz.strconv_Atoi_ok a (by omega) v hq w).mono ?_
    rintro _ w' ⟨rfl,hb⟩
    refine fin ?_ (D.at_v.2 ⟨rfl,rfl⟩)
    rcases hb with rfl | ⟨t,rfl⟩
    ·exact Below.refl _ _
    ·exact Lib.bytesWorld_below _ _ _
   ·have e:aAM a=(0,.err):=by unfold aAM;rw [hq]
    rw [e] at fin ⊢
    obtain ⟨t,x,hx⟩:=hw.2.1
    refine (Go.Proofs.Any.strconv_Atoi_syntax Go.Proofs.Tryz.laysC172 a (by omega) hq _ w hx (.inr ⟨_,_,rfl⟩)).mono ?_
    rintro _ w' ⟨n,rfl,-,-,hb⟩
    exact fin hb ⟨_,_,rfl⟩
   ·have e:aAM a=(Lib.atoiSat a.data.toList,.err):=by unfold aAM;rw [hq]
    rw [e] at fin ⊢
    obtain ⟨t,x,hx⟩:=hw.2.2
    refine (Go.Proofs.Tryz.strconv_Atoi_range a (by omega) hq _ w hx (.inr ⟨_,_,rfl⟩)).mono ?_
    rintro _ w' ⟨n,rfl,-,-,hb⟩
    exact fin hb ⟨_,_,rfl⟩
  ·cases hF
 ·cases hF
end Go.Proofs.YtkkjlpfomofiaaaGreatDoor.Sp
namespace Go.Proofs.YtkkjlpfomofiaaaGreatDoor.Sp
open Go Go.RowKit YtkkjlpfomofiaaaGreatDoorW.PrintWords Sx NatA NatJ NatN
theorem ch_L (s:ByteArray) (i:Nat) (h:i < s.size):ch s i=((L s)[i]'(by rw [aAs];exact h)).toNat:=by
 unfold ch
 rw [List.getD_eq_getElem?_getD,List.getElem?_eq_getElem (h:=by rw [Array.length_toList];exact h),Option.getD_some]
 rfl
theorem aNg (s:ByteArray) {i:Nat} (h:s.size≤i):(L s).take i=L s:=List.take_of_length_le (by rw [aAs];exact h)
def aAX (s:ByteArray):Int × Bool:=if (L s).all dig=true∧s.size≤10 then ((dv (L s):Int),decide (¬ s=(⟨#[]⟩:ByteArray)) && decide (dec (dv (L s))=s)) else (0,false)
def F_rint:Fct
 | [.v (.string a)]=>if a.size≤1000000 then some [i_ (aAX a).1,b_ (aAX a).2] else none
 | _=>none
theorem F_rint.eq {a:ByteArray} (h:a.size≤1000000):F_rint [s_ a]=some [i_ (aAX a).1,b_ (aAX a).2]:=if_pos h
theorem F_rint.inv {ds rs:List D} (h:F_rint ds=some rs):∃ a:ByteArray,ds=[s_ a]∧a.size≤1000000∧rs=[i_ (aAX a).1,b_ (aAX a).2]:=by
 unfold F_rint at h
 split at h
 ·split at h
  ·exact ⟨_,rfl,‹_›,(Option.some.inj h).symm⟩
  ·cases h
 ·cases h
def tbEb:Tb:=[(59,F_dec)]
theorem okEb:TbOk Tryz.prog X.G tbEb:=.cons (by kernel_rfl) aOb trivial
theorem aKp {s:ByteArray} (h:¬ ((L s).all dig=true∧s.size≤10)):aAX s=(0,false):=by unfold aAX;rw [if_neg h]
theorem aMc (s:ByteArray) (hs:s.size≤1000000) (r:Nat):∀ i:Nat,i+r=s.size→i≤10→((L s).take i).all dig=true →
  Rn Tryz.prog (aBc tbEb) aBv [aBv] [s_ s,i_ (dv ((L s).take i)),i_ i] [i_ (aAX s).1,b_ (aAX s).2]:=by
 have hL:=aAs s
 induction r with
 | zero =>
  intro i hi h10 hd
  obtain rfl:i=s.size:=by omega
  rw [aNg s (Nat.le_refl _)] at hd ⊢
  unfold aAX
  rw [if_pos ⟨hd,h10⟩]
  have hv:dv (L s) < 1000000000000:=Nat.lt_of_lt_of_le (aO6 (L s) hd) (Nat.le_trans (Nat.pow_le_pow_right (by decide) (show (L s).length≤10 by omega)) (by decide))
  refine rp (aAG aA3 s) (rF (by omega) (aAf 3 false .i64 s.size s.size) ?_)
  by_cases h0:¬ s=(⟨#[]⟩:ByteArray)
  ·rw [decide_eq_true h0,Bool.true_and]
   exact rT h0 (aDY 9 true s ⟨#[]⟩) (rc F_dec (F_dec.eq (n:=(dv (L s):Int)) (by omega) (by omega)) (rp (aC1 9 false (dec (dv (L s))) s) rr))
  ·rw [decide_eq_false h0,Bool.false_and]
   exact rF h0 (aDY 9 true s ⟨#[]⟩) rr
 | succ r ih =>
  intro i hi h10 hd
  have hil:i < s.size:=by omega
  have p1:=aI1 s i hil
  have e1:=ch_L s i hil
  have e2:=aPY s i hil
  have e3:=aFE ((L s).take i) ((L s)[i]'(by omega))
  rw [← e2,← e1] at e3
  have hdg:dig ((L s)[i]'(by omega))=(decide (48≤ch s i) && decide (ch s i≤57)):=by unfold dig;rw [← e1]
  have no:dig ((L s)[i]'(by omega))=false→aAX s=(0,false):=fun h=>aKp fun hc=>by
   rw [List.all_eq_true.1 hc.1 _ (List.getElem_mem (by omega))] at h
   cases h
  obtain ⟨c,hc⟩:∃ c,c=ch s i:=⟨_,rfl⟩
  rw [← hc] at p1 e3 hdg
  refine rp (aAG aA3 s) (rT (by omega) (aAf 3 false .i64 i s.size) (rp p1 ?_))
  by_cases h1:c < 48
  ·rw [no (by rw [hdg,decide_eq_false (by omega)];rfl)]
   exact rT (by omega) (aAf 5 true .u8 c 48) rr
  refine rF (by omega) (aAf 5 true .u8 c 48) (rp p1 ?_)
  by_cases h2:c > 57
  ·rw [no (by rw [hdg,decide_eq_false (p:=c≤57) (by omega),Bool.and_false])]
   exact rT (by omega) (aAC 5 true .u8 c 57) rr
  refine rF (by omega) (aAC 5 true .u8 c 57) ?_
  by_cases h3:i > 9
  ·rw [aKp fun hc=>by omega]
   exact rT (by omega) (aAC 3 true .i64 i 9) rr
  have hdt:((L s).take (i+1)).all dig=true:=by
   rw [e2,List.all_append,hd]
   simp only [List.all_cons,List.all_nil,Bool.and_true,Bool.true_and]
   rw [hdg,decide_eq_true (by omega),decide_eq_true (by omega)]
   rfl
  have hv:dv ((L s).take i) < 10000000000:=Nat.lt_of_lt_of_le (aO6 _ hd) (Nat.le_trans (Nat.pow_le_pow_right (by decide) (show ((L s).take i).length≤10 by rw [List.length_take];omega)) (by decide))
  have next:=ih (i+1) (by omega) (by omega) hdt
  rw [e3] at next
  have q1:=aKY (P:=Tryz.prog) 3 true 10 (dv ((L s).take i):Int) (by omega)
  have q2:(Pu.bin .sub 5 true).run Tryz.prog [.one (y_ c),.one (y_ 48)]=some (y_ ((c - 48:Nat):Int)):=by rw [aJh,aOD (by omega),show (c:Int) - 48=((c - 48:Nat):Int) by omega]
  have q3:=aP1 (P:=Tryz.prog) aOF .u8 ((c - 48:Nat):Int) aHh (by omega)
  have q4:=aBb (P:=Tryz.prog) 3 false (10*(dv ((L s).take i):Int)) ((c - 48:Nat):Int) (by omega)
  have q5:=aBb (P:=Tryz.prog) 3 true (i:Int) 1 (by omega)
  rw [show 10*(dv ((L s).take i):Int)+((c - 48:Nat):Int)=((10*dv ((L s).take i)+(c - 48):Nat):Int) by omega] at q4
  exact rF (by omega) (aAC 3 true .i64 i 9) (rp q1 (rp p1 (rp q2 (rp q3 (rp q4 (rp q5 (ra next)))))))
theorem aQk:Sx.Good Tryz.prog X.G 57 ⟨[.one],.tup [.one,.one]⟩ F_rint:=aAj okEb (fun _ _=>X.G_below) 400 (by kernel_rfl) (by kernel_rfl:_=some aEJ) fun ds rs h=>by
 obtain ⟨a,rfl,ha,rfl⟩:=F_rint.inv h
 exact rl (aMc a ha a.size 0 (by omega) (by omega) rfl)
def nm (a:ByteArray) (n:Int):ByteArray:=a++(⟨#[46]⟩:ByteArray)++dec n
def aBj (a:ByteArray) (n:Int):ByteArray:=if aBh a n=true then nm a n else (⟨#[]⟩:ByteArray)
def F_name:Fct
 | [.v (.string a),.v (.int .i64 n)]=>if a.size≤1000000 then some [s_ (aBj a n)] else none
 | _=>none
theorem F_name.eq {a:ByteArray} {n:Int} (h:a.size≤1000000):F_name [s_ a,i_ n]=some [s_ (aBj a n)]:=if_pos h
theorem F_name.inv {ds rs:List D} (h:F_name ds=some rs):∃ (a:ByteArray) (n:Int),ds=[s_ a,i_ n]∧a.size≤1000000∧rs=[s_ (aBj a n)]:=by
 unfold F_name at h
 split at h
 ·split at h
  ·exact ⟨_,_,rfl,‹_›,(Option.some.inj h).symm⟩
  ·cases h
 ·cases h
theorem aDV {a:ByteArray} {n:Int} (h:aBh a n=true):1≤n∧n≤1000000000:=by
 unfold aBh at h
 rw [Bool.and_eq_true,Bool.and_eq_true,decide_eq_true_iff,decide_eq_true_iff] at h
 omega
theorem aPx {a:ByteArray} {n:Int} (h:aBh a n=true):aCi a=true:=by
 unfold aBh at h
 rw [Bool.and_eq_true] at h
 exact h.1
theorem aIO {C:Cf} {t:T} {f g:FuncId} (ht:t=.call f [.var 0,.var 1] 1 (.pure (.un .not) [.one (.var 2)] (.ite 3 (.ret [.const (.string ⟨#[]⟩)]) (.pure (.bin .add 9 true) [.one (.var 0),.one (.const (.string ⟨#[46]⟩))] (.call g [.var 1] 1 (.pure (.bin .add 9 false) [.one (.var 4),.one (.var 5)] (.ret [.var 6]))))))) (hf:C f=F_idok) (hg:C g=F_dec) {a:ByteArray} {n:Int} (ha:a.size≤1000000):Rn Tryz.prog C t [] [s_ a,i_ n] [s_ (aBj a n)]:=by
 subst ht
 unfold aBj
 refine rc F_idok (F_idok.eq (n:=n) ha) (rp (aCN (aBh a n)) ?_) hf
 cases h:aBh a n with
 | false=>exact ry rr
 | true =>
  obtain ⟨h0,h1⟩:=aDV h
  have s1:=aDp (n:=n) (by omega) (by omega)
  have s2:(a++(⟨#[46]⟩:ByteArray)).size≤1000001:=by rw [ByteArray.size_append,show (⟨#[46]⟩:ByteArray).size=1 from rfl];omega
  rw [if_pos rfl]
  exact rn (rp (aCa 9 true a (⟨#[46]⟩:ByteArray) (by rw [show (⟨#[46]⟩:ByteArray).size=1 from rfl];omega)) (rc F_dec (F_dec.eq (n:=n) (by omega) (by omega)) (rp (aCa 9 false (a++(⟨#[46]⟩:ByteArray)) (dec n) (by omega)) rr) hg))
def aNh:Tb:=[(54,F_idok),(39,F_dec),(58,F_idok),(59,F_dec),(57,F_rint),(55,F_last),(56,F_atoi)]
theorem aKW:TbOk Tryz.prog X.G aNh:=.cons (by kernel_rfl) g_valid (.cons (by kernel_rfl) g_itoa (.cons (by kernel_rfl) aQj (.cons (by kernel_rfl) aOb (.cons (by kernel_rfl) aQk (.cons (by kernel_rfl) g_last (.cons (by kernel_rfl) g_atoi trivial))))))
theorem g_fmtid:Sx.Good Tryz.prog X.G 30 ⟨[.agg 2],.v1 .one⟩ F_name:=aAj aKW (fun _ _=>X.G_below) 400 (by kernel_rfl) (by kernel_rfl:_=some aHc) fun ds rs h=>by
 obtain ⟨a,n,rfl,ha,rfl⟩:=F_name.inv h
 exact aIO rfl rfl rfl ha
theorem aPy:Sx.Good Tryz.prog X.G 33 ⟨[.agg 2],.v1 .one⟩ F_name:=aAj aKW (fun _ _=>X.G_below) 400 (by kernel_rfl) (by kernel_rfl:_=some aE8) fun ds rs h=>by
 obtain ⟨a,n,rfl,ha,rfl⟩:=F_name.inv h
 exact aIO rfl rfl rfl ha
end Go.Proofs.YtkkjlpfomofiaaaGreatDoor.Sp
namespace Go.Proofs.YtkkjlpfomofiaaaGreatDoor.Sp
open Go Go.RowKit YtkkjlpfomofiaaaGreatDoorW.PrintWords Sx NatA NatJ NatN
theorem aGy (s:ByteArray) (i j:Nat):L (s.extract i j)=((L s).drop i).take (j - i):=by
 unfold L
 rw [ByteArray.data_extract,Array.toList_extract,List.extract_eq_take_drop]
theorem aI3 (a b:ByteArray):L (a++b)=L a++L b:=by
 unfold L
 rw [ByteArray.data_append,Array.toList_append]
theorem aFu {a b:ByteArray} (h:L a=L b):a=b:=by
 apply ByteArray.ext
 exact Array.toList_inj.1 h
theorem aGz (n:Nat):L (dec n)=Lib.decDigits n:=by
 rw [aBQ]
 unfold L text
 rw [List.toList_toArray]
theorem aKX (a:ByteArray) (n:Int):L (nm a n)=L a++46::L (dec n):=by
 unfold nm
 rw [aI3,aI3,List.append_assoc]
 rfl
theorem aDW {s:ByteArray} {i:Nat} (h:i < s.size):ch s i=46 ↔ (L s)[i]'(by rw [aAs];exact h)=46:=by
 rw [ch_L s i h]
 exact ⟨fun e=>UInt8.toNat_inj.1 e,fun e=>by rw [e];rfl⟩
theorem aNi {a:ByteArray} (h:aCi a=true):(46:UInt8) ∉ L a:=fun hm=>by
 obtain ⟨i,hi,he⟩:=List.getElem_of_mem hm
 have hs:i < a.size:=by rw [aAs] at hi;exact hi
 have h1:=(aDW hs).2 he
 unfold aCi at h
 rw [Bool.and_eq_true] at h
 have h2:=List.all_eq_true.1 h.1 i (List.mem_range.2 hs)
 rw [aCj (by omega) (.inr (.inl (by omega)))] at h2
 cases h2
theorem aOC (n:Nat):(46:UInt8) ∉ L (dec n):=fun hm=>by
 rw [aGz] at hm
 have:=List.all_eq_true.1 (aHF n) _ hm
 cases this
theorem aOc {s a:ByteArray} {n:Int} {i:Nat} (hs:s=nm a n) (hid:aBh a n=true) (hi:i < s.size) (hc:ch s i=46):i=a.size∧s.extract 0 i=a∧s.extract (i+1) s.size=dec n:=by
 have hl:L s=L a++46::L (dec n):=by rw [hs,aKX]
 have hla:=aAs a
 have hls:=aAs s
 obtain ⟨h0,h1⟩:=aDV hid
 obtain ⟨m,rfl⟩:=Int.eq_ofNat_of_zero_le (show 0≤n by omega)
 have hg:=(aDW hi).1 hc
 have hia:i=a.size:=by
  rcases Nat.lt_trichotomy i a.size with h | h | h
  ·exact absurd (by
    have e:(L s)[i]?=some 46:=by rw [List.getElem?_eq_getElem (by omega),hg]
    rw [hl,List.getElem?_append_left (by omega)] at e
    exact List.mem_of_getElem? e) (aNi (aPx hid))
  ·exact h
  ·exact absurd (by
    have e:(L s)[i]?=some 46:=by rw [List.getElem?_eq_getElem (by omega),hg]
    rw [hl,List.getElem?_append_right (by omega),show i - (L a).length=(i - a.size - 1)+1 by omega,List.getElem?_cons_succ] at e
    exact List.mem_of_getElem? e) (aOC m)
 refine ⟨hia,aFu ?_,aFu ?_⟩
 ·rw [aGy,hl,List.drop_zero,Nat.sub_zero,hia,List.take_append_of_le_length (by omega),← hla,List.take_length]
 ·have e:(L a++46::L (dec (m:Int))).drop (a.size+1)=L (dec (m:Int)):=by
   rw [List.drop_append,hla,List.drop_eq_nil_of_le (by omega),List.nil_append,show a.size+1 - a.size=1 by omega]
   rfl
  rw [aGy,hl,hia,e]
  refine List.take_of_length_le ?_
  rw [hl,List.length_append,List.length_cons] at hls
  omega
theorem aDX {a:ByteArray} {n:Int}:a.size < (nm a n).size∧ch (nm a n) a.size=46:=by
 have hl:=aKX a n
 have h1:a.size < (nm a n).size:=by
  rw [← aAs,← aAs,hl,List.length_append,List.length_cons]
  omega
 refine ⟨h1,(aDW h1).2 ?_⟩
 have e:(L (nm a n))[a.size]?=some 46:=by
  rw [hl,List.getElem?_append_right (by rw [aAs];exact Nat.le_refl _),aAs,Nat.sub_self]
  rfl
 rw [List.getElem?_eq_getElem (by rw [aAs];exact h1)] at e
 exact Option.some.inj e
theorem aPz {s:ByteArray} {i:Nat} (hi:i < s.size) (hc:ch s i=46):s=s.extract 0 i++(⟨#[46]⟩:ByteArray)++s.extract (i+1) s.size:=by
 refine aFu ?_
 have hls:=aAs s
 have hg:=(aDW hi).1 hc
 rw [aI3,aI3,aGy,aGy,List.drop_zero,Nat.sub_zero,List.take_of_length_le (l:=(L s).drop (i+1)) (by rw [List.length_drop];omega),show L (⟨#[46]⟩:ByteArray)=[46] from rfl,List.append_assoc,List.singleton_append,← hg,List.getElem_cons_drop,List.take_append_drop]
theorem aNj {t:ByteArray} (h:(aAX t).2=true):t=dec (aAX t).1:=by
 unfold aAX at h ⊢
 split
 ·rename_i hc
  rw [if_pos hc,Bool.and_eq_true,decide_eq_true_iff,decide_eq_true_iff] at h
  exact h.2.symm
 ·rename_i hc
  rw [if_neg hc] at h
  cases h
theorem aNk {n:Nat} (h:n≤1000000000):aAX (dec n)=((n:Int),true):=by
 have hs:(dec (n:Int)).size≤10:=by
  rw [aBQ,aAR]
  exact aB6 9 n (by omega)
 have hne:¬ dec (n:Int)=(⟨#[]⟩:ByteArray):=fun e=>aMU n (by rw [← aGz,e];rfl)
 unfold aAX
 rw [aGz,aMT,if_pos ⟨aHF n,hs⟩,decide_eq_true hne,decide_eq_true rfl]
 rfl
theorem aG0:∀ (l:List UInt8) (k:Nat),l.all dig=true→Lib.decFrom k l=some (l.foldl (fun n c=>10*n+(c.toNat - 48)) k)
 | [],_,_=>rfl
 | c::l,k,h=>by
  rw [List.all_cons,Bool.and_eq_true] at h
  have hc:=(aEo c).1 h.1
  unfold Lib.decFrom Lib.digitVal
  rw [if_pos hc]
  show Lib.decFrom (k*10+(c.toNat - 48)) l=_
  rw [aG0 l _ h.2,List.foldl_cons,Nat.mul_comm]
theorem aIP {n:Nat} (h:n≤1000000000):aAM (dec n)=((n:Int),.v .nilIface):=by
 have hl:(L (dec (n:Int))).length≤18:=by
  rw [aAs,aBQ,aAR]
  exact Nat.le_trans (aB6 9 n (by omega)) (by decide)
 have hd:=aHF n
 have hn:=aMU n
 have e:Lib.atoiAll (L (dec (n:Int)))=.ok (n:Int):=by
  rw [Lib.atoiAll_short _ hl,aGz]
  have e2:Lib.decNat (Lib.decDigits n)=some n:=by
   unfold Lib.decNat
   rw [if_neg (by rw [List.isEmpty_iff];exact hn),aG0 _ _ hd]
   exact congrArg some (aMT n)
  revert hd hn e2
  generalize Lib.decDigits n=l
  intro hd hn e2
  cases l with
  | nil=>exact absurd rfl hn
  | cons c r =>
   rw [List.all_cons,Bool.and_eq_true] at hd
   have hc:=(aEo c).1 hd.1
   have e3:Lib.atoi (c::r)=if (c == 45)=true then (Lib.decNat r).map fun (m:Nat)=>-(m:Int) else if (c == 43)=true then (Lib.decNat r).map fun (m:Nat)=>(m:Int) else (Lib.decNat (c::r)).map fun (m:Nat)=>(m:Int):=rfl
   rw [e3,if_neg (fun e=>by rw [beq_iff_eq] at e;subst e;exact absurd hc.1 (by decide)),if_neg (fun e=>by rw [beq_iff_eq] at e;subst e;exact absurd hc.1 (by decide)),e2]
   rfl
 unfold aAM
 rw [show (dec (n:Int)).data.toList=L (dec (n:Int)) from rfl,e]
def ps (s:ByteArray):Option (ByteArray × Int):=if (L s).idxOf 46 < s.size then (if ((aAX (s.extract ((L s).idxOf 46+1) s.size)).2 && aBh (s.extract 0 ((L s).idxOf 46)) (aAX (s.extract ((L s).idxOf 46+1) s.size)).1)=true then some (s.extract 0 ((L s).idxOf 46),(aAX (s.extract ((L s).idxOf 46+1) s.size)).1) else none) else none
theorem aIQ {s:ByteArray} (h:(L s).idxOf 46 < s.size):ch s ((L s).idxOf 46)=46:=(aDW h).2 (List.getElem_idxOf (by rw [aAs];exact h))
theorem aEL {s a:ByteArray} {n:Int}:ps s=some (a,n) ↔ aBh a n=true∧s=nm a n:=by
 constructor
 ·intro h
  unfold ps at h
  split at h
  ·rename_i hi
   split at h
   ·rename_i hc
    rw [Bool.and_eq_true] at hc
    obtain ⟨rfl,rfl⟩:=Prod.mk.inj (Option.some.inj h)
    refine ⟨hc.2,?_⟩
    have e:=aPz hi (aIQ hi)
    unfold nm
    rw [← aNj hc.1]
    exact e
   ·cases h
  ·cases h
 ·rintro ⟨hid,hs⟩
  obtain ⟨h1,h2⟩:=aDX (a:=a) (n:=n)
  have hi:(L s).idxOf 46 < s.size:=by
   rw [← aAs]
   exact List.idxOf_lt_length_of_mem (by rw [hs,aKX];simp)
  obtain ⟨e0,e1,e2⟩:=aOc hs hid hi (aIQ hi)
  obtain ⟨h3,h4⟩:=aDV hid
  obtain ⟨m,rfl⟩:=Int.eq_ofNat_of_zero_le (show 0≤n by omega)
  unfold ps
  rw [if_pos hi,e1,e2,aNk (by omega),hid]
  rfl
theorem aDg {s:ByteArray} (h:∀ a n,aBh a n=true→s=nm a n→False):ps s=none:=by
 cases e:ps s with
 | none=>rfl
 | some p =>
  obtain ⟨h1,h2⟩:=aEL.1 (show ps s=some (p.1,p.2) from e)
  exact (h _ _ h1 h2).elim
def pid:Option (ByteArray × Int)→List D
 | some (a,n)=>[s_ a,i_ n,b_ true]
 | none=>[s_ (⟨#[]⟩:ByteArray),i_ 0,b_ false]
def F_pid:Fct
 | [.v (.string a)]=>if a.size≤1000000 then some (pid (ps a)) else none
 | _=>none
theorem F_pid.eq {a:ByteArray} (h:a.size≤1000000):F_pid [s_ a]=some (pid (ps a)):=if_pos h
theorem F_pid.inv {ds rs:List D} (h:F_pid ds=some rs):∃ a:ByteArray,ds=[s_ a]∧a.size≤1000000∧rs=pid (ps a):=by
 unfold F_pid at h
 split at h
 ·split at h
  ·exact ⟨_,rfl,‹_›,(Option.some.inj h).symm⟩
  ·cases h
 ·cases h
theorem size_ext (s:ByteArray) (i j:Nat):(s.extract i j).size≤s.size:=by
 rw [← aAs,← aAs,aGy,List.length_take,List.length_drop]
 omega
theorem aKc (s:ByteArray) (hs:s.size≤1000000) (r:Nat):∀ i:Nat,i+r=s.size→(∀ j,j < i→ch s j≠46) →
  Rn Tryz.prog (aBc aNh) aBi [aBi] [s_ s,i_ i] (pid (ps s)):=by
 have hL:=aAs s
 induction r with
 | zero =>
  intro i hi hn
  obtain rfl:i=s.size:=by omega
  rw [aDg (s:=s) fun a n _ e=>by
   obtain ⟨h1,h2⟩:=aDX (a:=a) (n:=n)
   rw [← e] at h1 h2
   exact hn _ h1 h2]
  exact rp (aAG aA3 s) (rF (by omega) (aAf 3 false .i64 s.size s.size) rr)
 | succ r ih =>
  intro i hi hn
  have hil:i < s.size:=by omega
  have p1:=aI1 s i hil
  have q5:=aBb (P:=Tryz.prog) 3 true (i:Int) 1 (by omega)
  refine rp (aAG aA3 s) (rT (by omega) (aAf 3 false .i64 i s.size) (rp p1 ?_))
  by_cases h:ch s i=46
  ·have hx:(L s).idxOf 46=i:=by
    have h1:(L s).idxOf 46≤i:=by
     rcases Nat.lt_or_ge i ((L s).idxOf 46) with h' | h'
     ·exact absurd ((aDW hil).1 h) (by simpa using List.not_of_lt_findIdx h')
     ·exact h'
    rcases Nat.lt_or_eq_of_le h1 with h' | h'
    ·exact absurd (aIQ (by omega)) (hn _ h')
    ·exact h'
   have e:ps s=if ((aAX (s.extract (i+1) s.size)).2 && aBh (s.extract 0 i) (aAX (s.extract (i+1) s.size)).1)=true then some (s.extract 0 i,(aAX (s.extract (i+1) s.size)).1) else none:=by
    unfold ps
    rw [hx,if_pos hil]
   rw [e]
   have s1:=size_ext s (i+1) s.size
   have s2:=size_ext s 0 i
   refine rT (by omega) (aBW 5 true .u8 (ch s i) 46) (rp q5 (rp (aHY aA3 s .i64 (i+1) (by omega)) (rc F_rint (F_rint.eq (a:=s.extract (i+1) s.size) (by omega)) (rp (aHZ aA3 s .i64 i (by omega)) ?_))))
   cases h1:(aAX (s.extract (i+1) s.size)).2 with
   | false =>
    rw [Bool.false_and,if_neg (by decide)]
    exact rn rr
   | true =>
    rw [Bool.true_and]
    refine ry (rc F_idok (F_idok.eq (a:=s.extract 0 i) (n:=(aAX (s.extract (i+1) s.size)).1) (by omega)) ?_)
    cases h2:aBh (s.extract 0 i) (aAX (s.extract (i+1) s.size)).1 with
    | false =>
     rw [if_neg (by decide)]
     exact rn rr
    | true =>
     rw [if_pos rfl]
     exact ry rr
  ·exact rF (by omega) (aBW 5 true .u8 (ch s i) 46) (rp q5 (ra (ih (i+1) (by omega) (aEK hn h))))
theorem aQl:Sx.Good Tryz.prog X.G 32 ⟨[.one],.tup [.agg 2,.one]⟩ F_pid:=aAj aKW (fun _ _=>X.G_below) 400 (by kernel_rfl) (by kernel_rfl:_=some aEm) fun ds rs h=>by
 obtain ⟨a,rfl,ha,rfl⟩:=F_pid.inv h
 exact rl (aKc a ha a.size 0 (by omega) (fun _ h=>absurd h (Nat.not_lt_zero _)))
end Go.Proofs.YtkkjlpfomofiaaaGreatDoor.Sp
namespace Go.Proofs.YtkkjlpfomofiaaaGreatDoor.Sp
open Go Go.RowKit YtkkjlpfomofiaaaGreatDoorW.PrintWords Sx NatA NatJ NatN
theorem aOd {s:ByteArray} {i:Nat} (h:i < s.size):(s.data[i]!).toNat=ch s i:=by
 rw [← aLZ s i h,getElem!_pos s.data i h]
 rfl
def tbEd:Tb:=(30,F_name)::aNh
theorem okEd:TbOk Tryz.prog X.G tbEd:=.cons (by kernel_rfl) g_fmtid aKW
theorem aNl:(Pu.enil false).run Tryz.prog [.one .err]=some (b_ true):=rfl
theorem aNm:(Pu.enil false).run Tryz.prog [.one (.v .nilIface)]=some (b_ false):=rfl
theorem g_pid:Sx.Good Tryz.prog X.G 31 ⟨[.one],.tup [.agg 2,.one]⟩ F_pid:=aAj okEd (fun _ _=>X.G_below) 400 (by kernel_rfl) (by kernel_rfl:_=some aHC) fun ds rs h=>by
 obtain ⟨s,rfl,hs,rfl⟩:=F_pid.inv h
 refine rc F_last (F_last.eq (a:=s) (c:=46) hs) ?_
 rcases Lib.lastIndexByte_spec s 46 with ⟨e,hn⟩ | ⟨i,hi,e,hc,hn⟩
 ·rw [e,aDg (s:=s) fun a n _ e=>by
   obtain ⟨h1,h2⟩:=aDX (a:=a) (n:=n)
   rw [← e] at h1 h2
   have:=hn _ h1
   rw [aOd h1,h2] at this
   exact this rfl]
  exact rT (by omega) (aAf 3 true .i64 (-1) 0) rr
 ·rw [e]
  rw [aOd hi] at hc
  have hd:ch s i=46:=by omega
  clear hn hc e
  have s1:=size_ext s (i+1) s.size
  have s2:=size_ext s 0 i
  have at':∀ a n,aBh a n=true→s=nm a n→s.extract 0 i=a∧s.extract (i+1) s.size=dec n:=fun a n h1 h2=>(aOc h2 h1 hi hd).2
  have q5:=aBb (P:=Tryz.prog) 3 true (i:Int) 1 (by omega)
  refine rF (by omega) (aAf 3 true .i64 i 0) (rp q5 (rp (aHY aA3 s .i64 (i+1) (by omega)) (rc F_atoi (F_atoi.eq (a:=s.extract (i+1) s.size) (by omega)) (rp (aHZ aA3 s .i64 i (by omega)) ?_))))
  cases ha:(aAM (s.extract (i+1) s.size)).2 with
  | err =>
   rw [aDg (s:=s) fun a n h1 h2=>by
    obtain ⟨h3,h4⟩:=aDV h1
    obtain ⟨m,rfl⟩:=Int.eq_ofNat_of_zero_le (show 0≤n by omega)
    rw [(at' _ _ h1 h2).2,aIP (by omega)] at ha
    cases ha]
   exact rp aNl (ry rr)
  | l n ds =>
   unfold aAM at ha
   split at ha<;>cases ha
  | v x =>
   have hx:x=.nilIface:=by
    unfold aAM at ha
    split at ha
    ·exact (D.v.inj ha).symm
    ·cases ha
    ·cases ha
   subst hx
   refine rp aNm (rn (rc F_idok (F_idok.eq (a:=s.extract 0 i) (n:=(aAM (s.extract (i+1) s.size)).1) (by omega)) (rp (aCN (aBh (s.extract 0 i) (aAM (s.extract (i+1) s.size)).1)) ?_)))
   have at2:∀ a n,aBh a n=true→s=nm a n→s.extract 0 i=a∧(aAM (s.extract (i+1) s.size)).1=n:=fun a n h1 h2=>by
    obtain ⟨h3,h4⟩:=aDV h1
    obtain ⟨m,rfl⟩:=Int.eq_ofNat_of_zero_le (show 0≤n by omega)
    obtain ⟨e1,e2⟩:=at' _ _ h1 h2
    rw [e2,aIP (by omega)]
    exact ⟨e1,rfl⟩
   generalize (aAM (s.extract (i+1) s.size)).1=n at *
   generalize s.extract 0 i=a at *
   cases hk:aBh a n with
   | false =>
    rw [aDg (s:=s) fun a' n' h1 h2=>by
     obtain ⟨rfl,rfl⟩:=at2 _ _ h1 h2
     rw [h1] at hk
     cases hk]
    exact ry rr
   | true =>
    have en:aBj a n=nm a n:=by unfold aBj;rw [if_pos hk]
    refine rn (rc F_name (F_name.eq (a:=a) (n:=n) (by omega)) ?_)
    rw [en]
    by_cases hq:¬ nm a n=s
    ·rw [aDg (s:=s) fun a' n' h1 h2=>by
      obtain ⟨rfl,rfl⟩:=at2 _ _ h1 h2
      exact hq h2.symm]
     exact rT hq (aDY 9 false (nm a n) s) rr
    ·rw [aEL.2 ⟨hk,(Decidable.not_not.1 hq).symm⟩]
     exact rF hq (aDY 9 false (nm a n) s) rr
end Go.Proofs.YtkkjlpfomofiaaaGreatDoor.Sp
namespace Go.Proofs.YtkkjlpfomofiaaaGreatDoor.Sp
open Go Go.RowKit YtkkjlpfomofiaaaGreatDoorW.PrintWords Sx NatA NatB NatJ NatN IntZ RatZ
def runT (P:Program) (tb:Tb) (t:T):Nat→Fct
 | 0=>fun _=>none
 | n+1=>fun ds=>match t.run P (aBc tb) 300 [] ds with
  | some r=>some r
  | none=>runT P tb t n ds
theorem aFT {P:Program} {tb:Tb} {t:T} {ds r:List D}:∀ {n:Nat},runT P tb t n ds=some r→t.run P (aBc tb) 300 [] ds=some r
 | 0,h=>by cases h
 | n+1,h=>by
  unfold runT at h
  split at h
  ·rw [← h]
   assumption
  ·exact aFT h
theorem aFU {P:Program} {G:World→Prop} {tb:Tb} (h:TbOk P G tb) (hG:∀ w w',G w→Below w.heap.size w w'→G w') (N:Nat) {f:FuncId} {ct:Ct} {t:T} (hc:aDS P f=some ct) (ht:aFc P (tb.map (·.1)) N f=some t):Sx.Good P G f ct (runT P tb t 1):=aAj h hG N hc ht fun _ _ h=>⟨300,aFT h⟩
theorem aFV {P:Program} {G:World→Prop} {f:FuncId} {ct:Ct} {F F':Fct} (hg:Sx.Good P G f ct F) (h:∀ ds rs,F' ds=some rs→F ds=some rs):Sx.Good P G f ct F':=fun ds rs e=>hg ds rs (h ds rs e)
theorem aFW {P:Program} {G:World→Prop} {f:FuncId} {ct:Ct}:Sx.Good P G f ct aGx:=fun _ _ h=>nomatch h
def dec2 (n:Nat):ByteArray:=if n < 10 then (⟨#[UInt8.ofNat (48+n)]⟩:ByteArray) else (⟨#[UInt8.ofNat (48+n / 10),UInt8.ofNat (48+n % 10)]⟩:ByteArray)
def F_dec2:Fct
 | [.v (.int .i64 n)]=>if 0≤n∧n < 100 then some [s_ (dec2 n.toNat)] else none
 | _=>none
theorem F_dec2.sub:∀ ds rs,F_dec2 ds=some rs→F_dec ds=some rs:=fun ds rs h=>by
 unfold F_dec2 at h
 split at h
 ·split at h
  ·rename_i n hc
   obtain ⟨m,rfl⟩:=Int.eq_ofNat_of_zero_le hc.1
   rw [F_dec.eq (by omega) (by omega),← h,aBQ]
   unfold text dec2
   rw [Int.toNat_natCast]
   by_cases h10:m < 10
   ·rw [if_pos h10,Lib.decDigits_one h10]
   ·rw [if_neg h10,Lib.decDigits_two h10 (by omega)]
  ·cases h
 ·cases h
def F_zero:Fct
 | [.v (.bool false),.v (.string a),.v (.string b)]=>if a.size=0∧b.size=0 then some [s_ (⟨#[48]⟩:ByteArray)] else none
 | _=>none
theorem F_zero.sub:∀ ds rs,F_zero ds=some rs→aJR ds=some rs:=fun ds rs h=>by
 unfold F_zero at h
 split at h
 ·split at h
  ·rename_i a b hc
   rw [← h]
   have ha:a=(⟨#[]⟩:ByteArray):=aFu (List.eq_nil_of_length_eq_zero (by rw [aAs];exact hc.1))
   have hb:b=(⟨#[]⟩:ByteArray):=aFu (List.eq_nil_of_length_eq_zero (by rw [aAs];exact hc.2))
   subst ha
   subst hb
   have e2:aJR [b_ false,s_ (⟨#[]⟩:ByteArray),s_ (⟨#[]⟩:ByteArray)]=some [s_ (aHd (qv false (⟨#[]⟩:ByteArray) (⟨#[]⟩:ByteArray)))]:=R1.eq (by decide) (by decide)
   rw [e2,aPn.2 (by kernel_rfl)]
   have e3:aHd 0=(⟨#[48]⟩:ByteArray):=by
    unfold aHd
    rw [if_pos (show (0:Rat).den=1 from rfl)]
    have:aDN 0=text 0:=rfl
    rw [show (0:Rat).num=0 from rfl,this]
    unfold text
    rw [Lib.decDigits_one (by decide)]
    rfl
   rw [e3]
  ·cases h
 ·cases h
def F_ann:Fct
 | [.v (.string a)]=>if L a=[97,110,110,46,51] then some [s_ (⟨#[97,110,110]⟩:ByteArray),i_ 3,b_ true] else none
 | _=>none
theorem F_ann.sub:∀ ds rs,F_ann ds=some rs→F_pid ds=some rs:=fun ds rs h=>by
 unfold F_ann at h
 split at h
 ·split at h
  ·rename_i a ha
   have ea:a=nm (⟨#[97,110,110]⟩:ByteArray) 3:=aFu (by
    rw [ha,aKX,show ((3:Int))=((3:Nat):Int) from rfl,aGz,Lib.decDigits_one (by decide)]
    rfl)
   rw [← h,F_pid.eq (by rw [← aAs,ha];decide),aEL.2 ⟨by decide,ea⟩]
   rfl
  ·cases h
 ·cases h
def tbW1:Tb:=[(61,F_auth)]
theorem okW1:TbOk Tryz.prog X.G tbW1:=.cons (by kernel_rfl) g_auth trivial
def RW1 (P:Program):Fct:=runT P tbW1 aHD 1
def tbW2:Tb:=[(54,F_idok),(95,aGx),(96,aGx),(97,aGx)]
theorem okW2:TbOk Tryz.prog X.G tbW2:=.cons (by kernel_rfl) g_valid (.cons (ct:=⟨[.agg 3],.v1 .one⟩) (by kernel_rfl) aFW (.cons (ct:=⟨[.one],.v1 .one⟩) (by kernel_rfl) aFW (.cons (ct:=⟨[.one,.one],.v1 .one⟩) (by kernel_rfl) aFW trivial)))
def RW2 (P:Program):Fct:=runT P tbW2 aHE 1
def tbW3 (P:Program):Tb:=[(61,F_auth),(54,F_idok),(62,RW1 P),(63,RW2 P)]
theorem okW3:TbOk Tryz.prog X.G (tbW3 Tryz.prog):=.cons (by kernel_rfl) g_auth (.cons (by kernel_rfl) g_valid (.cons (ct:=⟨[.one],.v1 .one⟩) (by kernel_rfl) (aFU okW1 (fun _ _=>X.G_below) 400 (by kernel_rfl) (by kernel_rfl)) (.cons (ct:=⟨[.agg 18],.v1 .one⟩) (by kernel_rfl) (aFU okW2 (fun _ _=>X.G_below) 400 (by kernel_rfl) (by kernel_rfl)) trivial)))
def RW3 (P:Program):Fct:=runT P (tbW3 P) aJQ 1
def optE:Opt Tryz.prog:={ cc:=[84],str:=[53],bt:=73,be:=5,hcc:=fun f h=>by obtain rfl:=List.mem_singleton.1 h;exact aQG,hstr:=fun f h=>by obtain rfl:=List.mem_singleton.1 h;exact aQi Tryz.lays169 Tryz.Builder_Extra_169 }
def tbW4 (P:Program):Tb:=[(39,F_dec2),(52,F_zero),(35,RW3 P)]
theorem okW4:TbOk Tryz.prog X.G (tbW4 Tryz.prog):=.cons (by kernel_rfl) (aFV g_itoa F_dec2.sub) (.cons (by kernel_rfl) (aFV g_rfmt F_zero.sub) (.cons (ct:=⟨[.agg 18],.v1 .one⟩) (by kernel_rfl) (aFU okW3 (fun _ _=>X.G_below) 400 (by kernel_rfl) (by kernel_rfl)) trivial))
def RW4 (P:Program):Fct:=runT P (tbW4 P) aED 1
theorem aNn:Sx.Good Tryz.prog X.G 29 ⟨[.agg 18],.tup [.one,.one]⟩ (RW4 Tryz.prog):=aLt okW4 (fun _ _=>X.G_below) (o:=optE) (fun _ _ _ h=>nomatch h) 4000 (by kernel_rfl) (by kernel_rfl:_=some aED) fun _ _ h=>⟨300,aFT h⟩
def tbW5 (P:Program):Tb:=[(29,RW4 P),(31,F_ann)]
theorem okW5:TbOk Tryz.prog X.G (tbW5 Tryz.prog):=.cons (by kernel_rfl) aNn (.cons (by kernel_rfl) (aFV g_pid F_ann.sub) trivial)
def aDO:Fct
 | []=>some [b_ true]
 | _=>none
theorem g_awake37:Sx.Good Tryz.prog X.G 28 ⟨[],.v1 .one⟩ aDO:=aAj okW5 (fun _ _=>X.G_below) 400 (by kernel_rfl) (by kernel_rfl:_=some aEn) fun ds rs h=>by
 unfold aDO at h
 split at h
 ·obtain rfl:=Option.some.inj h
  exact ⟨300,by kernel_rfl⟩
 ·cases h
end Go.Proofs.YtkkjlpfomofiaaaGreatDoor.Sp
