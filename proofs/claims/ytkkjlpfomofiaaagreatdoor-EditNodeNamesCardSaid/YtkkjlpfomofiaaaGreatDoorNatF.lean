import Derived.Test.YtkkjlpfomofiaaaGreatDoorNatE
import Derived.Test.YtkkjlpfomofiaaaGreatDoorPxNB
namespace Go.Proofs.YtkkjlpfomofiaaaGreatDoor.NatF
open Go Go.RowKit YtkkjlpfomofiaaaGreatDoorW.PrintWords P NatA NatB NatC NatD NatE
theorem aDn (s:Nat) (h:s < 32):(1:Int)≤2 ^ s∧(2:Int) ^ s≤2147483648∧(2:Int) ^ s*2 ^ (32 - s)=4294967296:=by
 refine ⟨Int.pow_pos (by decide),?_,?_⟩
 ·have:(2:Int) ^ s*2 ^ (31 - s)=2147483648:=by rw [← Int.pow_add,show s+(31 - s)=31 by omega];rfl
  have h1:(1:Int)≤2 ^ (31 - s):=Int.pow_pos (by decide)
  have h2:=Int.mul_le_mul_of_nonneg_left h1 (show (0:Int)≤2 ^ s from Int.le_of_lt (Int.pow_pos (by decide)))
  omega
 ·rw [← Int.pow_add,show s+(32 - s)=32 by omega]
  rfl
theorem aPR (s:Nat) (hs:s < 32) {a x:Int} (ha:0≤a∧a < 2 ^ s) (_hx:0≤x∧x < 4294967296):bits .or .u32 a (x*2 ^ s % 4294967296)=a+x*2 ^ s % 4294967296∧a+x*2 ^ s % 4294967296 < 4294967296:=by
 obtain ⟨h1,h2,h3⟩:=aDn s hs
 have e:x*2 ^ s % 4294967296=(x % 2 ^ (32 - s))*2 ^ s:=by rw [← h3,Int.mul_comm x,Int.mul_emod_mul_of_pos _ _ (by omega),Int.mul_comm]
 have hq:(0:Int) < 2 ^ (32 - s):=Int.pow_pos (by decide)
 have h4:=Int.emod_nonneg x (show (2:Int) ^ (32 - s)≠0 by omega)
 have h5:=Int.emod_lt_of_pos x hq
 have h6:(x % 2 ^ (32 - s)+1)*2 ^ s≤2 ^ (32 - s)*2 ^ s:=Int.mul_le_mul_of_nonneg_right (by omega) (by omega)
 rw [Int.add_mul,Int.one_mul,Int.mul_comm (2 ^ (32 - s)),h3] at h6
 rw [e]
 exact ⟨aJI s ha.1 ha.2 (by omega) h4 (by omega),by omega⟩
theorem aPS (l:List Int) (hl:Dig 4294967296 l) (s:Nat) (hs:s < 32) (hn:l.length≤268435456) (r:Nat):∀ (i:Nat) (z:List Int),i+r=l.length→z.length=l.length+1→Dig 4294967296 z→rd z i < 2 ^ s →
  val 4294967296 (z.take i)+4294967296 ^ i*rd z i=val 4294967296 (l.take i)*2 ^ s→∀ k,r+1≤k →
  ∃ z',z'.length=l.length+1∧Dig 4294967296 z'∧val 4294967296 z'=val 4294967296 l*2 ^ s∧nat_shift.l0 k s z l (l.length:Int) i=some z':=by
 obtain ⟨t1,t2,t3⟩:=aDn s hs
 induction r with
 | zero =>
  intro i z hi hz hd hc hv k hk
  obtain ⟨k,rfl⟩:∃ m,k=m+1:=⟨k - 1,by omega⟩
  refine ⟨z,hz,hd,?_,by rw [nat_shift.l0,if_neg (by omega)]⟩
  rw [← aAg,List.take_of_length_le (by omega),List.take_of_length_le (by omega)] at hv
  exact hv
 | succ r ih =>
  intro i z hi hz hd hc hv k hk
  obtain ⟨k,rfl⟩:∃ m,k=m+1:=⟨k - 1,by omega⟩
  have h1:=aAt hl (i:=i) (by omega)
  have h2:=aAt hd (i:=i) (by omega)
  have h3:0≤rd l i*2 ^ s:=Int.mul_nonneg h1.1 (by omega)
  have h4:rd l i*2 ^ s≤4294967295*2147483648:=Int.mul_le_mul (by omega) t2 (by omega) (by omega)
  obtain ⟨o1,o2⟩:=aPR s hs ⟨h2.1,hc⟩ h1
  have hhi:rd l i*2 ^ s / 4294967296 < 2 ^ s:=by
   apply Int.ediv_lt_of_lt_mul (by omega)
   rw [Int.mul_comm]
   exact Int.mul_lt_mul_of_pos_left h1.2 (by omega)
  have hlo:0≤rd l i*2 ^ s / 4294967296:=Int.ediv_nonneg h3 (by omega)
  obtain ⟨z',e1,e2,e3,e4⟩:=ih (i+1) ((z.set i (rd z i+rd l i*2 ^ s % 4294967296)).set (i+1) (rd l i*2 ^ s / 4294967296)) (by omega) (by rw [List.length_set,List.length_set,hz]) (aAI (aAI hd _ (by omega) o2) _ hlo (by omega))
   (by rw [aEk _ _ _ _ (by rw [List.length_set];omega),if_pos rfl];exact hhi)
   (by
    rw [aEk _ _ _ _ (by rw [List.length_set];omega),if_pos rfl,List.take_set_of_le (Nat.le_refl _),aBy _ _ _ _ (by omega),aAg _ l,Int.add_mul,← hv,Int.pow_succ,Int.mul_assoc,Int.add_assoc,Int.add_assoc,← Int.mul_add,Int.mul_assoc,← Int.mul_add]
    congr 2
    omega) k (by omega)
  refine ⟨z',e1,e2,e3,?_⟩
  rw [nat_shift.l0,if_pos (by omega),if_pos (by omega),if_pos (by omega),if_pos (by omega),if_pos (by omega),w64 (i:=(i:Int)+1) (by omega) (by omega),if_pos (by omega),if_pos (by omega),wu h1.1 (by omega),aO1 _ _ (by omega),wu h3 (by omega),o1,Int.toNat_natCast,show ((i:Int)+1)=((i+1:Nat):Int) by omega,Int.toNat_natCast,Int.emod_eq_of_lt hlo (by omega)]
  exact e4
theorem aKM (l:List Int) (hl:Dig 4294967296 l) (s:Nat) (hs:s < 32) (hn:l.length≤268435456) (k:Nat) (hk:l.length+1≤k) :
  ∃ z,z.length=l.length+1∧Dig 4294967296 z∧val 4294967296 z=val 4294967296 l*2 ^ s∧nat_shift.f k l s=some z:=by
 obtain ⟨t1,t2,t3⟩:=aDn s hs
 obtain ⟨z,e1,e2,e3,e4⟩:=aPS l hl s hs hn l.length 0 (List.replicate (l.length+1) 0) (by omega) List.length_replicate (aAF (by decide) _) (by rw [aCu];omega) (by rw [aCu];simp [val]) k (by omega)
 refine ⟨z,e1,e2,e3,?_⟩
 unfold nat_shift.f
 rw [w64 (by omega) (by omega),if_pos (by omega),if_pos (by omega),show ((l.length:Int)+1).toNat=l.length+1 by omega]
 exact e4
theorem aFB {P X r:Int} (h0:0≤r) (h1:r < P):(P*X+r) / P=X∧(P*X+r) % P=r:=by
 constructor
 ·rw [Int.add_comm,Int.add_mul_ediv_left _ _ (by omega),Int.ediv_eq_zero_of_lt h0 h1,Int.zero_add]
 ·rw [Int.add_comm,Int.add_mul_emod_self_left,Int.emod_eq_of_lt h0 h1]
theorem unsh {P Q B l0 l1:Int} (hP:0 < P) (hQ:0 < Q) (hB:P*Q=B) (h0:0≤l0) (h0':l0 < B):(l1*B+l0) / P % B=(l1 % P)*Q+l0 / P:=by
 have a0:=Int.emod_nonneg l0 (show P≠0 by omega)
 have a1:=Int.emod_lt_of_pos l0 hP
 have a2:=Int.mul_ediv_add_emod l0 P
 have b0:=Int.emod_nonneg l1 (show P≠0 by omega)
 have b1:=Int.emod_lt_of_pos l1 hP
 have b2:=Int.mul_ediv_add_emod l1 P
 have c0:0≤l0 / P:=Int.ediv_nonneg h0 (by omega)
 have c1:l0 / P < Q:=Int.ediv_lt_of_lt_mul hP (by rw [Int.mul_comm];omega)
 have e:l1*B+l0=P*(l1*Q+l0 / P)+l0 % P:=by grind
 rw [e,(aFB a0 a1).1]
 have e2:l1*Q+l0 / P=B*(l1 / P)+((l1 % P)*Q+l0 / P):=by grind
 have d0:0≤(l1 % P)*Q:=Int.mul_nonneg b0 (by omega)
 have d1:(l1 % P+1)*Q≤P*Q:=Int.mul_le_mul_of_nonneg_right (by omega) (by omega)
 rw [Int.add_mul,Int.one_mul,hB] at d1
 rw [e2,(aFB (by omega) (by omega)).2]
theorem aNT (l:List Int) (hl:Dig 4294967296 l) (s:Nat) (hs:s < 32) (hn:l.length≤268435456) (r:Nat):∀ (i:Nat) (z:List Int),i+r=l.length→z.length=l.length→Dig 4294967296 z →
  val 4294967296 (z.take i)*2 ^ s+rd l 0 % 2 ^ s=val 4294967296 (l.take i)+4294967296 ^ i*(rd l i % 2 ^ s)→∀ k,r+1≤k →
  ∃ z',z'.length=l.length∧Dig 4294967296 z'∧val 4294967296 z'*2 ^ s+rd l 0 % 2 ^ s=val 4294967296 l∧nat_unshift.l0 k l s z (l.length:Int) i=some z':=by
 obtain ⟨t1,t2,t3⟩:=aDn s hs
 have tq:(0:Int) < 2 ^ (32 - s):=Int.pow_pos (by decide)
 induction r with
 | zero =>
  intro i z hi hz hd hv k hk
  obtain ⟨k,rfl⟩:∃ m,k=m+1:=⟨k - 1,by omega⟩
  refine ⟨z,hz,hd,?_,by rw [nat_unshift.l0,if_neg (by omega)]⟩
  rw [aEj (l:=l) (i:=i) (by omega),Int.zero_emod,Int.mul_zero,Int.add_zero,List.take_of_length_le (by omega),List.take_of_length_le (by omega)] at hv
  exact hv
 | succ r ih =>
  intro i z hi hz hd hv k hk
  obtain ⟨k,rfl⟩:∃ m,k=m+1:=⟨k - 1,by omega⟩
  have h1:=aAt hl (i:=i) (by omega)
  have h2:=aFD (by decide) hl (i+1)
  obtain ⟨w,hw⟩:∃ w,w=rd l ((i+1:Nat):Int)*4294967296+rd l i:=⟨_,rfl⟩
  have hw0:0≤w:=by omega
  have hu:=unsh (l1:=rd l ((i+1:Nat):Int)) (show (0:Int) < 2 ^ s by omega) tq t3 h1.1 h1.2
  rw [← hw] at hu
  obtain ⟨z',e1,e2,e3,e4⟩:=ih (i+1) (z.set i (w / 2 ^ s % 4294967296)) (by omega) (by rw [List.length_set,hz]) (aAI hd _ (by omega) (by omega))
   (by
    rw [aBy _ _ _ _ (by omega),aAg _ l,Int.add_mul,Int.pow_succ]
    have hb:=Int.mul_ediv_add_emod (rd l i) (2 ^ s)
    generalize (2:Int) ^ s=P at *
    generalize (2:Int) ^ (32 - s)=Q at *
    grind) k (by omega)
  refine ⟨z',e1,e2,e3,?_⟩
  have ew:shr .u64 w (s:Int) % 4294967296=w / 2 ^ s % 4294967296:=by rw [aII _ _ (by omega)]
  rw [nat_unshift.l0,if_pos (by omega),if_pos (by omega),if_pos (by omega),w64 (i:=(i:Int)+1) (by omega) (by omega),show (i:Int)+1=((i+1:Nat):Int) by omega]
  by_cases hlt:i+1 < l.length
  ·rw [if_pos (by omega),if_pos (by omega),if_pos (by omega),if_pos (by omega),wu (n:=rd l i) h1.1 (by omega),wu (n:=rd l ((i+1:Nat):Int)) h2.1 (by omega),wu (by omega) (by omega),aQ8 h1.1 h1.2 h2.1 h2.2,← hw,ew,Int.toNat_natCast]
   exact e4
  ·rw [if_neg (by omega),if_pos (by omega),if_pos (by omega),wu (n:=rd l i) h1.1 (by omega)]
   rw [aEj (l:=l) (i:=i+1) (by omega),Int.zero_mul,Int.zero_add] at hw
   rw [← hw,ew,Int.toNat_natCast]
   exact e4
theorem aMH (l:List Int) (hl:Dig 4294967296 l) (s:Nat) (hs:s < 32) (hn:l.length≤268435456) (k:Nat) (hk:l.length+1≤k) :
  ∃ z,z.length=l.length∧Dig 4294967296 z∧val 4294967296 z=val 4294967296 l / 2 ^ s∧nat_unshift.f k l s=some z:=by
 obtain ⟨t1,t2,t3⟩:=aDn s hs
 obtain ⟨z,e1,e2,e3,e4⟩:=aNT l hl s hs hn l.length 0 (List.replicate l.length 0) (by omega) List.length_replicate (aAF (by decide) _) (by simp [val]) k (by omega)
 refine ⟨z,e1,e2,?_,?_⟩
 ·have a0:=Int.emod_nonneg (rd l 0) (show (2:Int) ^ s≠0 by omega)
  have a1:=Int.emod_lt_of_pos (rd l 0) (show (0:Int) < 2 ^ s by omega)
  rw [← e3,Int.mul_comm,(aFB a0 a1).1]
 ·unfold nat_unshift.f
  rw [if_pos (by omega),if_pos (by omega),Int.toNat_natCast]
  exact e4
end Go.Proofs.YtkkjlpfomofiaaaGreatDoor.NatF
