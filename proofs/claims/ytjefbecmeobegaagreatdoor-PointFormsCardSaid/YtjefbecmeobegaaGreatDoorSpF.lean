/- MERGED by merge.py: SpT4 SpDt -/
import Derived.Test.YtjefbecmeobegaaGreatDoorSpB
import Derived.Test.YtjefbecmeobegaaGreatDoorSpD
import Derived.Test.YtjefbecmeobegaaGreatDoorSpG
namespace Go.Proofs.YtjefbecmeobegaaGreatDoor.Sp
open Go Go.RowKit Sx NatA NatB NatC NatD NatI NatJ IntZ RatZ PtZ
abbrev lst (a:ByteArray):List UInt8:=a.data.toList
theorem aSz {a b:ByteArray} (h:lst a=lst b):a=b:=by
 apply ByteArray.ext
 exact Array.ext' h
theorem aJQ (a b:ByteArray):lst (a++b)=lst a++lst b:=by
 unfold lst
 rw [ByteArray.data_append,Array.toList_append]
theorem aPw (v:V3):lst (aCb v)=40::(lst (aAw v.1)++44::32::(lst (aAw v.2.1)++44::32::(lst (aAw v.2.2)++[41]))):=by
 unfold aCb aC6
 rw [aJQ,aJQ]
 have e:lst (⟨(Lib.join ([aAw v.1,aAw v.2.1,aAw v.2.2].map (·.data.toList)) (⟨#[44,32]⟩:ByteArray).data.toList).toArray⟩:ByteArray)=Lib.join [lst (aAw v.1),lst (aAw v.2.1),lst (aAw v.2.2)] [44,32]:=rfl
 rw [e,Lib.join_cons]
 have t:Lib.joinTail [44,32] [lst (aAw v.2.1),lst (aAw v.2.2)]=44::32::(lst (aAw v.2.1)++44::32::(lst (aAw v.2.2)++[])):=by
  show (([44,32]++lst (aAw v.2.1))++(([44,32]++lst (aAw v.2.2))++[]))=_
  simp
 rw [t,List.append_nil]
 show [40]++(lst (aAw v.1)++_)++[41]=_
 simp
end Go.Proofs.YtjefbecmeobegaaGreatDoor.Sp
namespace Go.Proofs.YtjefbecmeobegaaGreatDoor.Sp
open Go Go.RowKit YtjefbecmeobegaaGreatDoorW.PrintWords Sx NatA NatB NatC NatD NatI NatJ IntZ RatZ PtZ
theorem aKw {C:Cf} (n:Nat) (hn:n < 18446744073709551616) (e0 e2 e3 e4 e5:D):∀ r:Nat,r≤(N n).size→Rn Tryz.prog C aCr [aCr] [e0,s_ (N n),e2,e3,e4,e5,w_ (val 256 ((nb n).drop r)),i_ ((r:Int) - 1)] [w_ n,b_ true]
 | 0,_=>by
  rw [List.drop_zero,aBu]
  exact rF (by omega) (aD3 3 true .i64 (((0:Nat):Int) - 1) 0) rr
 | r+1,hr=>by
  have hbl:(nb n).length=(N n).size:=by rw [← aAH,bytesOf_length]
  have h8:=(aA9 n 8).2 (by omega)
  have up:∀ i,i≤(nb n).length→0≤val 256 ((nb n).drop i)∧val 256 ((nb n).drop i)≤n:=fun i hi=>by
   have h1:=aBL 256 (nb n) i hi
   rw [aBu] at h1
   have h2:=aAu (B:=256) (by decide) (aA7 (aBF n) i)
   have h3:=aAu (B:=256) (by decide) (aCm (aBF n) i)
   have h4:(1:Int)≤256 ^ i:=Int.pow_pos (by decide)
   have h5:=Int.mul_le_mul_of_nonneg_right h4 h3
   omega
  have hb:=aA2 (aBF n) (i:=r) (by omega)
  have h1:=up (r+1) (by omega)
  have h2:=up r (by omega)
  have h3:=aDz 256 (nb n) r (by omega)
  have px:=aGc (P:=Tryz.prog) aAt (N n) r (by omega) .i64
  rw [aAH] at px
  have p1:(Pu.bin .mul 116 true).run Tryz.prog [.one (w_ (val 256 ((nb n).drop (r+1)))),.one (w_ 256)]=some (w_ (val 256 ((nb n).drop (r+1))*256)):=by rw [aIk,wu (by omega) (by omega)]
  have p2:(Pu.conv 5 116).run Tryz.prog [.one (y_ (rd (nb n) r))]=some (w_ (rd (nb n) r)):=by rw [aCD aBi .u8 _ aBX,wu (by omega) (by omega)]
  have p3:(Pu.bin .add 116 false).run Tryz.prog [.one (w_ (val 256 ((nb n).drop (r+1))*256)),.one (w_ (rd (nb n) r))]=some (w_ (val 256 ((nb n).drop r))):=by rw [aCS,wu (by omega) (by omega),show val 256 ((nb n).drop (r+1))*256+rd (nb n) r=val 256 ((nb n).drop r) by omega]
  have es:((r+1:Nat):Int) - 1=(r:Int):=by omega
  rw [es]
  exact rT (by omega) (aD3 3 true .i64 (r:Int) 0) (rp p1 (rp px (rp p2 (rp p3 (rp (aDD 3 true (r:Int) 1 (by omega)) (ra (aKw n hn e0 e2 e3 e4 e5 r (by omega))))))))
theorem aTV:Sx.Good Tryz.prog X.G 174 ⟨[.one],.tup [.one,.one]⟩ aCs:=aAd aQq (fun _ _=>X.G_below) 400 (by kernel_rfl) (by kernel_rfl:_=some aGT) fun ds rs h=>by
 obtain ⟨a,rfl,ha,rfl⟩:=S1.inv h
 have c1:aA3 [s_ a]=some [s_ (N (V a))]:=S1.eq (by omega)
 have sa:=aBO ha
 generalize V a=x at *
 have h8:=aA9 x 8
 unfold aDm
 by_cases h:x < 18446744073709551616
 ·have hs:=h8.2 (by omega)
  rw [if_pos h]
  have lp:=aKw (C:=aBa aOb) x h (s_ a) (i_ (N x).size) (b_ false) (i_ (N x).size) (i_ (((N x).size:Int) - 1)) (N x).size (Nat.le_refl _)
  rw [List.drop_eq_nil_of_le (by rw [← aAH,bytesOf_length];exact Nat.le_refl _),show val 256 ([]:List Int)=0 from rfl] at lp
  exact rc aA3 c1 (rp (aAp aAt (N x)) (rF (by omega) (aAC 3 true .i64 (N x).size 8) (rp (aAp aAt (N x)) (rp (aDD 3 true ((N x).size:Int) 1 (by omega)) (rl lp)))))
 ·rw [if_neg h]
  have hs:8 < (N x).size:=by
   rcases Nat.lt_or_ge 8 (N x).size with h' | h'
   ·exact h'
   ·exact absurd (h8.1 h') (by omega)
  exact rc aA3 c1 (rp (aAp aAt (N x)) (rT (by omega) (aAC 3 true .i64 (N x).size 8) rr))
def tbR8:Tb:=(174,aCs)::aOb
theorem okR8:TbOk Tryz.prog X.G tbR8:=.cons (by kernel_rfl) aTV aQq
theorem nine {x:Nat} (h:x < 10):strOfNums [48+(x:Int)]=text x:=by
 unfold text strOfNums
 rw [Lib.decDigits_one h,show (48:Int)+x=((48+x:Nat):Int) by omega,List.map_singleton,Int.toNat_natCast]
theorem aOp (e0 e1:D) (n:Nat):∀ out:ByteArray,0 < n→(N n).size≤20000→out.size+Lib.nDigits n≤1000000→Rn Tryz.prog (aBa tbR8) aBU [aBU] [e0,e1,s_ (N n),s_ out] [s_ (text n++out)]:=by
 induction n using Nat.strongRecOn with
 | _ n ih =>
  intro out h0 hs ho
  have d1:aBH [s_ (N n),s_ (⟨#[10]⟩:ByteArray)]=some [s_ (N (n / 10)),s_ (N (n % 10)),b_ true]:=by
   have h1:aBH [s_ (N n),s_ (⟨#[10]⟩:ByteArray)]=some [s_ (aBI (V (N n)) (V (⟨#[10]⟩:ByteArray))).1,s_ (aBI (V (N n)) (V (⟨#[10]⟩:ByteArray))).2.1,b_ (aBI (V (N n)) (V (⟨#[10]⟩:ByteArray))).2.2]:=S2.eq hs (by decide)
   rw [V_N,show V (⟨#[10]⟩:ByteArray)=10 from rfl] at h1
   unfold aBI at h1
   rw [if_neg (by decide)] at h1
   exact h1
  have hm:n % 10 < 10:=Nat.mod_lt _ (by decide)
  have s1:(N (n % 10)).size≤1:=(aA9 _ _).2 (by omega)
  have n1:aCs [s_ (N (n % 10))]=some [w_ ((n % 10:Nat):Int),b_ true]:=by
   have h1:aCs [s_ (N (n % 10))]=some [w_ (aDm (n % 10)).1,b_ (aDm (n % 10)).2]:=S1.eqN (by omega)
   unfold aDm at h1
   rw [if_pos (by omega)] at h1
   exact h1
  have hts:(text (n % 10)).size=1:=by rw [aBx,Lib.nDigits_small hm]
  have p1:(Pu.bin .add 116 true).run Tryz.prog [.one (w_ 48),.one (w_ ((n % 10:Nat):Int))]=some (w_ (48+((n % 10:Nat):Int))):=by rw [aCS,wu (by omega) (by omega)]
  have p2:=aEq (P:=Tryz.prog) aBX .u64 (48+((n % 10:Nat):Int)) aBi (by omega)
  have p3:=aJi (P:=Tryz.prog) [48+((n % 10:Nat):Int)]
  rw [nine hm] at p3
  have p4:=aBf (P:=Tryz.prog) 9 false (text (n % 10)) out (by omega)
  refine rT (mt aGA.1 (by omega)) (aFC 9 true (N n) ⟨#[]⟩) (rc aBH d1 (rc aCs n1 (rp p1 (rp p2 (rp p3 (rp p4 (ra (env':=[e0,e1,s_ (N (n / 10)),s_ (text (n % 10)++out)]) ?_)))))))
  by_cases h10:n < 10
  ·rw [Nat.div_eq_of_lt h10,Nat.mod_eq_of_lt h10]
   have hne:¬ (text n++out)=(⟨#[]⟩:ByteArray):=fun e=>by
    have:=congrArg ByteArray.size e
    rw [ByteArray.size_append,aBx,Lib.nDigits_small h10] at this
    have h2:(⟨#[]⟩:ByteArray).size=0:=rfl
    omega
   exact rF (not_not_intro (aGA.2 rfl)) (aFC 9 true (N 0) ⟨#[]⟩) (rF hne (aBN 9 true (text n++out) ⟨#[]⟩) rr)
  ·rw [Lib.nDigits_big h10] at ho
   have e:text n++out=text (n / 10)++(text (n % 10)++out):=by
    rw [← aIr]
    refine congrArg (·++out) ?_
    unfold text
    rw [aFz,Lib.decDigits_one hm]
    have:Lib.decDigits n=Lib.decDigits (n / 10)++[UInt8.ofNat (48+n % 10)]:=by rw [Lib.decDigits,dif_neg h10]
    rw [this]
   rw [e]
   exact ih (n / 10) (by omega) _ (by omega) (Nat.le_trans ((aA9 _ (N n).size).2 (Nat.lt_of_le_of_lt (Nat.div_le_self _ _) ((aA9 n _).1 (Nat.le_refl _)))) hs) (by rw [ByteArray.size_append,hts];omega)
theorem aT3:Sx.Good Tryz.prog X.G 160 ⟨[.one],.v1 .one⟩ aDJ:=aAd okR8 (fun _ _=>X.G_below) 400 (by kernel_rfl) (by kernel_rfl:_=some aG1) fun ds rs h=>by
 obtain ⟨a,rfl,ha,rfl⟩:=S1.inv h
 have c1:aA3 [s_ a]=some [s_ (N (V a))]:=S1.eq (by omega)
 by_cases h:V a=0
 ·rw [h] at c1
  rw [h]
  have e:text 0=(⟨#[48]⟩:ByteArray):=by unfold text;rw [Lib.decDigits_one (by decide)];rfl
  rw [e]
  exact rc aA3 c1 (rl (env':=[s_ a,s_ (N 0),s_ (N 0),s_ ⟨#[]⟩]) (rF (not_not_intro (aGA.2 rfl)) (aFC 9 true (N 0) ⟨#[]⟩) (rT rfl (aBN 9 true ⟨#[]⟩ ⟨#[]⟩) rr)))
 ·have h3:text (V a)++(⟨#[]⟩:ByteArray)=text (V a):=by apply ByteArray.ext;rw [ByteArray.data_append];simp
  have hd:Lib.nDigits (V a)≤3*a.size+1:=aDK (3*a.size) (V a) (Nat.lt_of_lt_of_le (aDN a) (by
   rw [show 3*a.size+1=3*a.size+1 from rfl,Nat.pow_succ,Nat.pow_mul]
   exact Nat.le_trans (Nat.pow_le_pow_left (by decide) _) (Nat.le_mul_of_pos_right _ (by decide))))
  have lp:=aOp (s_ a) (s_ (N (V a))) (V a) (⟨#[]⟩:ByteArray) (by omega) (Nat.le_trans (aBO (Nat.le_refl a.size)) (by omega)) (by rw [show (⟨#[]⟩:ByteArray).size=0 from rfl];omega)
  rw [h3] at lp
  exact rc aA3 c1 (rl lp)
def tbDx:Tb:=(160,aDJ)::aPx
theorem okDx:TbOk Tryz.prog X.G tbDx:=.cons (by kernel_rfl) aT3 okD5
theorem aSv {z:Int} (h:z < 0):enc z=[b_ true,s_ (N z.natAbs)]:=by
 show [b_ (decide (z < 0)),s_ (N z.natAbs)]=_
 rw [decide_eq_true h]
theorem aSw {z:Int} (h:¬ z < 0):enc z=[b_ false,s_ (N z.natAbs)]:=by
 show [b_ (decide (z < 0)),s_ (N z.natAbs)]=_
 rw [decide_eq_false h]
theorem aSx:Sx.Good Tryz.prog X.G 139 ⟨[.agg 2],.v1 .one⟩ aBW:=aAd okDx (fun _ _=>X.G_below) 400 (by kernel_rfl) (by kernel_rfl:_=some aGx) fun ds rs h=>by
 obtain ⟨n,a,rfl,ha,rfl⟩:=I1.inv h
 have s1:Sz 9000 (Z n a):=.of ha
 have c1:aAh [b_ n,s_ a]=some (enc (Z n a)):=I1.eq (by omega)
 generalize Z n a=z at *
 have hs:(N z.natAbs).size≤10000:=Nat.le_trans s1 (by decide)
 have c2:aDJ [s_ (N z.natAbs)]=some [s_ (text z.natAbs)]:=S1.eqN hs
 have hd:=aJN s1
 unfold aBz
 by_cases hz:z < 0
 ·rw [aSv hz] at c1
  rw [if_pos hz]
  have p1:=aBf (P:=Tryz.prog) 9 true (⟨#[45]⟩:ByteArray) (text z.natAbs) (by
   have:(⟨#[45]⟩:ByteArray).size=1:=rfl
   rw [aBx]
   omega)
  exact rc aAh c1 (ry (rc aDJ c2 (rp p1 rr)))
 ·rw [aSw hz] at c1
  rw [if_neg hz]
  exact rc aAh c1 (rn (rc aDJ c2 rr))
def tbDy:Tb:=(139,aBW)::tbDx
theorem okDy:TbOk Tryz.prog X.G tbDy:=.cons (by kernel_rfl) aSx okDx
theorem aT4:Sx.Good Tryz.prog X.G 84 ⟨[.agg 3],.v1 .one⟩ aBG:=aAd okDy (fun _ _=>X.G_below) 400 (by kernel_rfl) (by kernel_rfl:_=some aG0) fun ds rs h=>by
 obtain ⟨n,a,b,rfl,ha,hb,rfl⟩:=R1.inv h
 have hq:Sq 3000 (qv n a b):=.qv (by decide) ha hb
 have c1:aAR [b_ n,s_ a,s_ b]=some (enc (qv n a b).num++enc (qv n a b).den):=R1.eq (by omega) (by omega)
 generalize qv n a b=q at *
 have z1:=aDj hq.1
 have z2:=aDj hq.2
 have c2:aBW (enc q.num)=some [s_ (aBz q.num)]:=I1.can (hq.1.le (by decide))
 have c3:aBW (enc (q.den:Int))=some [s_ (aBz (q.den:Int))]:=I1.can (hq.2.le (by decide))
 have h1:(q.den:Int)=1 ↔ q.den=1:=by omega
 unfold aAw
 have o1:(⟨#[47]⟩:ByteArray).size=1:=rfl
 have c4:aF2 []=some (enc 1):=rfl
 refine ⟨0,gC aAR c1 (gC aF2 c4 (aAe (by kernel_rfl) (aLW _ (q.den:Int) 1) (aA0 (b:=decide ((q.den:Int)=1)) (by kernel_rfl) (fun e=>?_) (fun e=>?_))))⟩
 ·rw [if_pos (h1.1 (of_decide_eq_true e))]
  exact gC aBW c2 (aAc (by kernel_rfl))
 ·rw [if_neg (mt h1.2 (of_decide_eq_false e))]
  exact gC aBW c2 (gP (aBf _ _ (aBz q.num) ⟨#[47]⟩ (by omega)) (gC aBW c3 (gP (aBf _ _ (aBz q.num++(⟨#[47]⟩:ByteArray)) (aBz (q.den:Int)) (by rw [ByteArray.size_append];omega)) (aAc (by kernel_rfl)))))
def tbDz:Tb:=(84,aBG)::tbDy
theorem okDz:TbOk Tryz.prog X.G tbDz:=.cons (by kernel_rfl) aT4 okDy
theorem aPv (r s t:Rat):(⟨#[40]⟩:ByteArray)++aAw r++(⟨#[44,32]⟩:ByteArray)++aAw s++(⟨#[44,32]⟩:ByteArray)++aAw t++(⟨#[41]⟩:ByteArray)=aCb (r,s,t):=by
 apply aSz
 rw [aPw]
 simp only [aJQ]
 show [40]++lst (aAw r)++[44,32]++lst (aAw s)++[44,32]++lst (aAw t)++[41]=_
 simp
set_option maxHeartbeats 2000000 in
theorem aSy:Sx.Good Tryz.prog X.G 24 ⟨[.agg 8],.v1 .one⟩ aDo:=aAd okDz (fun _ _=>X.G_below) 400 (by kernel_rfl) (by kernel_rfl:_=some aG5) fun ds rs h=>by
 obtain ⟨p,hp,rfl⟩:=Fo.inv (aA5 600) h
 obtain ⟨n1,a1,n2,a2,n3,a3,n4,a4,rfl,h1,h2,h3,h4,rfl⟩:=hp.inv
 obtain ⟨u,hu⟩:∃ v,v=pv4 (Z n1 a1,Z n2 a2,Z n3 a3,Z n4 a4):=⟨_,rfl⟩
 have su:Sv 600 u:=by rw [hu];exact Sv.pv4 (by decide) ⟨.of h1,.of h2,.of h3,.of h4⟩
 have k1:aAm [b_ n1,s_ a1,b_ n2,s_ a2,b_ n3,s_ a3,b_ n4,s_ a4]=some (aCi u):=by rw [hu];exact Fo.eq (aA5 1500) (PI.mk (.raw n1 (by omega)) (.raw n2 (by omega)) (.raw n3 (by omega)) (.raw n4 (by omega)))
 show ∃ kk,aG5.run _ _ kk _ _=some [s_ (aCb (pv4 (Z n1 a1,Z n2 a2,Z n3 a3,Z n4 a4)))]
 rw [← hu]
 clear hu
 obtain ⟨r,s,t⟩:=u
 have k1:aAm [b_ n1,s_ a1,b_ n2,s_ a2,b_ n3,s_ a3,b_ n4,s_ a4]=some (encR r++(encR s++encR t)):=k1
 have d1:aBG (encR r)=some [s_ (aAw r)]:=R1.can (su.1.le (by decide))
 have d2:aBG (encR s)=some [s_ (aAw s)]:=R1.can (su.2.1.le (by decide))
 have d3:aBG (encR t)=some [s_ (aAw t)]:=R1.can (su.2.2.le (by decide))
 have q1:=aDk su.1
 have q2:=aDk su.2.1
 have q3:=aDk su.2.2
 rw [← aPv]
 dsimp only at q1 q2 q3
 generalize aAw r=A at *
 generalize aAw s=B at *
 generalize aAw t=C at *
 have o1:(⟨#[40]⟩:ByteArray).size=1:=rfl
 have o2:(⟨#[44,32]⟩:ByteArray).size=2:=rfl
 have o3:(⟨#[41]⟩:ByteArray).size=1:=rfl
 obtain ⟨s1,f1⟩:∃ w,w=(⟨#[40]⟩:ByteArray)++A:=⟨_,rfl⟩
 have z1:s1.size=(⟨#[40]⟩:ByteArray).size+A.size:=by rw [f1,ByteArray.size_append]
 have a1:∀ t k,(Pu.bin .add t k).run Tryz.prog [.one (s_ (⟨#[40]⟩:ByteArray)),.one (s_ A)]=some (s_ s1):=fun t k=>by rw [f1];exact aBf t k _ _ (by omega)
 rw [← f1]
 obtain ⟨s2,f2⟩:∃ w,w=s1++(⟨#[44,32]⟩:ByteArray):=⟨_,rfl⟩
 have z2:s2.size=s1.size+(⟨#[44,32]⟩:ByteArray).size:=by rw [f2,ByteArray.size_append]
 have a2:∀ t k,(Pu.bin .add t k).run Tryz.prog [.one (s_ s1),.one (s_ (⟨#[44,32]⟩:ByteArray))]=some (s_ s2):=fun t k=>by rw [f2];exact aBf t k _ _ (by omega)
 rw [← f2]
 obtain ⟨s3,f3⟩:∃ w,w=s2++B:=⟨_,rfl⟩
 have z3:s3.size=s2.size+B.size:=by rw [f3,ByteArray.size_append]
 have a3:∀ t k,(Pu.bin .add t k).run Tryz.prog [.one (s_ s2),.one (s_ B)]=some (s_ s3):=fun t k=>by rw [f3];exact aBf t k _ _ (by omega)
 rw [← f3]
 obtain ⟨s4,f4⟩:∃ w,w=s3++(⟨#[44,32]⟩:ByteArray):=⟨_,rfl⟩
 have z4:s4.size=s3.size+(⟨#[44,32]⟩:ByteArray).size:=by rw [f4,ByteArray.size_append]
 have a4:∀ t k,(Pu.bin .add t k).run Tryz.prog [.one (s_ s3),.one (s_ (⟨#[44,32]⟩:ByteArray))]=some (s_ s4):=fun t k=>by rw [f4];exact aBf t k _ _ (by omega)
 rw [← f4]
 obtain ⟨s5,f5⟩:∃ w,w=s4++C:=⟨_,rfl⟩
 have z5:s5.size=s4.size+C.size:=by rw [f5,ByteArray.size_append]
 have a5:∀ t k,(Pu.bin .add t k).run Tryz.prog [.one (s_ s4),.one (s_ C)]=some (s_ s5):=fun t k=>by rw [f5];exact aBf t k _ _ (by omega)
 rw [← f5]
 obtain ⟨s6,f6⟩:∃ w,w=s5++(⟨#[41]⟩:ByteArray):=⟨_,rfl⟩
 have z6:s6.size=s5.size+(⟨#[41]⟩:ByteArray).size:=by rw [f6,ByteArray.size_append]
 have a6:∀ t k,(Pu.bin .add t k).run Tryz.prog [.one (s_ s5),.one (s_ (⟨#[41]⟩:ByteArray))]=some (s_ s6):=fun t k=>by rw [f6];exact aBf t k _ _ (by omega)
 rw [← f6]
 refine ⟨0,?_⟩
 refine gC aAm k1 (gC aBG d1 (aAe (by kernel_rfl) (a1 _ _) (aAe (by kernel_rfl) (a2 _ _) (gC aBG d2 (aAe (by kernel_rfl) (a3 _ _) (aAe (by kernel_rfl) (a4 _ _) (gC aBG d3 (aAe (by kernel_rfl) (a5 _ _) (aAe (by kernel_rfl) (a6 _ _) (aAc (by kernel_rfl)))))))))))
def tbDT:Tb:=(24,aDo)::tbDz
theorem okDT:TbOk Tryz.prog X.G tbDT:=.cons (by kernel_rfl) aSy okDz
end Go.Proofs.YtjefbecmeobegaaGreatDoor.Sp
