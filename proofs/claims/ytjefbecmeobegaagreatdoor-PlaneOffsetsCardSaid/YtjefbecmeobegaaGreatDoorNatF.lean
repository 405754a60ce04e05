import Derived.Test.YtjefbecmeobegaaGreatDoorNatE
import Derived.Test.YtjefbecmeobegaaGreatDoorPxNB
namespace Go.Proofs.YtjefbecmeobegaaGreatDoor.NatF
open Go Go.RowKit YtjefbecmeobegaaGreatDoorW.PrintWords P NatA NatB NatC NatD NatE
theorem aFg (s:Nat) (h:s < 32):(1:Int)<=2 ^ s/\(2:Int) ^ s<=2147483648/\(2:Int) ^ s*2 ^ (32 - s)=4294967296:=by
 refine ⟨Int.pow_pos kQ,?_,?_⟩
 ·have:(2:Int) ^ s*2 ^ (31 - s)=2147483648:=by rw [<- Int.pow_add,show s+(31 - s)=31 by omega];rfl
  have h1:(1:Int)<=2 ^ (31 - s):=Int.pow_pos kQ
  have h2:=Int.mul_le_mul_of_nonneg_left h1 (show (0:Int)<=2 ^ s from Int.le_of_lt (Int.pow_pos kQ))
  omega
 ·rw [<- Int.pow_add,show s+(32 - s)=32 by omega]
  rfl
theorem aTZ (s:Nat) (hs:s < 32) {a x:Int} (ha:0<=a/\a < 2 ^ s) (_hx:0<=x/\x < 4294967296):bits .or .u32 a (x*2 ^ s % 4294967296)=a+x*2 ^ s % 4294967296/\a+x*2 ^ s % 4294967296 < 4294967296:=by
 obtain ⟨h1,h2,h3⟩:=aFg s hs
 have e:x*2 ^ s % 4294967296=(x % 2 ^ (32 - s))*2 ^ s:=by rw [<- h3,Int.mul_comm x,Int.mul_emod_mul_of_pos _ _ kJ,Int.mul_comm]
 have hq:(0:Int) < 2 ^ (32 - s):=Int.pow_pos kQ
 have h4:=Int.emod_nonneg x (show (2:Int) ^ (32 - s)≠0 by omega)
 have h5:=Int.emod_lt_of_pos x hq
 have h6:(x % 2 ^ (32 - s)+1)*2 ^ s<=2 ^ (32 - s)*2 ^ s:=Int.mul_le_mul_of_nonneg_right kJ kJ
 rw [Int.add_mul,Int.one_mul,Int.mul_comm (2 ^ (32 - s)),h3] at h6
 rw [e]
 exact ⟨aMn s ha.1 ha.2 kJ h4 kJ,by omega⟩
theorem aUa (l:List Int) (hl:Dig 4294967296 l) (s:Nat) (hs:s < 32) (hn:l.length<=268435456) (r:Nat):∀ (i:Nat) (z:List Int),i+r=l.length->z.length=l.length+1->Dig 4294967296 z->rd z i < 2 ^ s ->
  val 4294967296 (z.take i)+4294967296 ^ i*rd z i=val 4294967296 (l.take i)*2 ^ s->∀ k,r+1<=k ->
  ∃ z',z'.length=l.length+1/\Dig 4294967296 z'/\val 4294967296 z'=val 4294967296 l*2 ^ s/\nat_shift.l0 k s z l (l.length:Int) i=some z':=by
 obtain ⟨t1,t2,t3⟩:=aFg s hs
 induction r with
 | zero =>
  intro i z hi hz hd hc hv k hk
  obtain ⟨k,rfl⟩:∃ m,k=m+1:=⟨k - 1,by omega⟩
  refine ⟨z,hz,hd,?_,by rw [nat_shift.l0,if_neg kJ]⟩
  rw [<- aAk,List.take_of_length_le kJ,List.take_of_length_le kJ] at hv
  exact hv
 | succ r ih =>
  intro i z hi hz hd hc hv k hk
  obtain ⟨k,rfl⟩:∃ m,k=m+1:=⟨k - 1,by omega⟩
  have h1:=aAA hl (i:=i) kJ
  have h2:=aAA hd (i:=i) kJ
  have h3:0<=rd l i*2 ^ s:=Int.mul_nonneg h1.1 kJ
  have h4:rd l i*2 ^ s<=4294967295*2147483648:=Int.mul_le_mul kJ t2 kJ kJ
  obtain ⟨o1,o2⟩:=aTZ s hs ⟨h2.1,hc⟩ h1
  have hhi:rd l i*2 ^ s / 4294967296 < 2 ^ s:=by
   apply Int.ediv_lt_of_lt_mul kJ
   rw [Int.mul_comm]
   exact Int.mul_lt_mul_of_pos_left h1.2 kJ
  have hlo:0<=rd l i*2 ^ s / 4294967296:=Int.ediv_nonneg h3 kJ
  obtain ⟨z',e1,e2,e3,e4⟩:=ih (i+1) ((z.set i (rd z i+rd l i*2 ^ s % 4294967296)).set (i+1) (rd l i*2 ^ s / 4294967296)) kJ (by rw [List.length_set,List.length_set,hz]) (aBk (aBk hd _ kJ o2) _ hlo kJ)
   (by rw [aGd _ _ _ _ (by rw [List.length_set];omega),if_pos rfl];exact hhi)
   (by
    rw [aGd _ _ _ _ (by rw [List.length_set];omega),if_pos rfl,List.take_set_of_le (Nat.le_refl _),aCc _ _ _ _ kJ,aAk _ l,Int.add_mul,<- hv,Int.pow_succ,Int.mul_assoc,Int.add_assoc,Int.add_assoc,<- Int.mul_add,Int.mul_assoc,<- Int.mul_add]
    congr 2
    omega) k kJ
  refine ⟨z',e1,e2,e3,?_⟩
  rw [nat_shift.l0,if_pos kJ,if_pos kJ,if_pos kJ,if_pos kJ,if_pos kJ,w64 (i:=(i:Int)+1) kJ kJ,if_pos kJ,if_pos kJ,wu h1.1 kJ,aSg _ _ kJ,wu h3 kJ,o1,Int.toNat_natCast,show ((i:Int)+1)=((i+1:Nat):Int) by omega,Int.toNat_natCast,Int.emod_eq_of_lt hlo kJ]
  exact e4
theorem aN3 (l:List Int) (hl:Dig 4294967296 l) (s:Nat) (hs:s < 32) (hn:l.length<=268435456) (k:Nat) (hk:l.length+1<=k) :
  ∃ z,z.length=l.length+1/\Dig 4294967296 z/\val 4294967296 z=val 4294967296 l*2 ^ s/\nat_shift.f k l s=some z:=by
 obtain ⟨t1,t2,t3⟩:=aFg s hs
 obtain ⟨z,e1,e2,e3,e4⟩:=aUa l hl s hs hn l.length 0 (List.replicate (l.length+1) 0) kJ List.length_replicate (aAU kQ _) (by rw [aDX];omega) (by rw [aDX];simp [val]) k kJ
 refine ⟨z,e1,e2,e3,?_⟩
 unfold nat_shift.f
 rw [w64 kJ kJ,if_pos kJ,if_pos kJ,show ((l.length:Int)+1).toNat=l.length+1 by omega]
 exact e4
theorem aIc {P X r:Int} (h0:0<=r) (h1:r < P):(P*X+r) / P=X/\(P*X+r) % P=r:=by
 constructor
 ·rw [Int.add_comm,Int.add_mul_ediv_left _ _ kJ,Int.ediv_eq_zero_of_lt h0 h1,Int.zero_add]
 ·rw [Int.add_comm,Int.add_mul_emod_self_left,Int.emod_eq_of_lt h0 h1]
theorem unsh {P Q B l0 l1:Int} (hP:0 < P) (hQ:0 < Q) (hB:P*Q=B) (h0:0<=l0) (h0':l0 < B):(l1*B+l0) / P % B=(l1 % P)*Q+l0 / P:=by
 have a0:=Int.emod_nonneg l0 (show P≠0 by omega)
 have a1:=Int.emod_lt_of_pos l0 hP
 have a2:=Int.mul_ediv_add_emod l0 P
 have b0:=Int.emod_nonneg l1 (show P≠0 by omega)
 have b1:=Int.emod_lt_of_pos l1 hP
 have b2:=Int.mul_ediv_add_emod l1 P
 have c0:0<=l0 / P:=Int.ediv_nonneg h0 kJ
 have c1:l0 / P < Q:=Int.ediv_lt_of_lt_mul hP (by rw [Int.mul_comm];omega)
 have e:l1*B+l0=P*(l1*Q+l0 / P)+l0 % P:=by grind
 rw [e,(aIc a0 a1).1]
 have e2:l1*Q+l0 / P=B*(l1 / P)+((l1 % P)*Q+l0 / P):=by grind
 have d0:0<=(l1 % P)*Q:=Int.mul_nonneg b0 kJ
 have d1:(l1 % P+1)*Q<=P*Q:=Int.mul_le_mul_of_nonneg_right kJ kJ
 rw [Int.add_mul,Int.one_mul,hB] at d1
 rw [e2,(aIc kJ kJ).2]
theorem aRb (l:List Int) (hl:Dig 4294967296 l) (s:Nat) (hs:s < 32) (hn:l.length<=268435456) (r:Nat):∀ (i:Nat) (z:List Int),i+r=l.length->z.length=l.length->Dig 4294967296 z ->
  val 4294967296 (z.take i)*2 ^ s+rd l 0 % 2 ^ s=val 4294967296 (l.take i)+4294967296 ^ i*(rd l i % 2 ^ s)->∀ k,r+1<=k ->
  ∃ z',z'.length=l.length/\Dig 4294967296 z'/\val 4294967296 z'*2 ^ s+rd l 0 % 2 ^ s=val 4294967296 l/\nat_unshift.l0 k l s z (l.length:Int) i=some z':=by
 obtain ⟨t1,t2,t3⟩:=aFg s hs
 have tq:(0:Int) < 2 ^ (32 - s):=Int.pow_pos kQ
 induction r with
 | zero =>
  intro i z hi hz hd hv k hk
  obtain ⟨k,rfl⟩:∃ m,k=m+1:=⟨k - 1,by omega⟩
  refine ⟨z,hz,hd,?_,by rw [nat_unshift.l0,if_neg kJ]⟩
  rw [aEq (l:=l) (i:=i) kJ,Int.zero_emod,Int.mul_zero,Int.add_zero,List.take_of_length_le kJ,List.take_of_length_le kJ] at hv
  exact hv
 | succ r ih =>
  intro i z hi hz hd hv k hk
  obtain ⟨k,rfl⟩:∃ m,k=m+1:=⟨k - 1,by omega⟩
  have h1:=aAA hl (i:=i) kJ
  have h2:=aFh kQ hl (i+1)
  obtain ⟨w,hw⟩:∃ w,w=rd l ((i+1:Nat):Int)*4294967296+rd l i:=⟨_,rfl⟩
  have hw0:0<=w:=by omega
  have hu:=unsh (l1:=rd l ((i+1:Nat):Int)) (show (0:Int) < 2 ^ s by omega) tq t3 h1.1 h1.2
  rw [<- hw] at hu
  obtain ⟨z',e1,e2,e3,e4⟩:=ih (i+1) (z.set i (w / 2 ^ s % 4294967296)) kJ (by rw [List.length_set,hz]) (aBk hd _ kJ kJ)
   (by
    rw [aCc _ _ _ _ kJ,aAk _ l,Int.add_mul,Int.pow_succ]
    have hb:=Int.mul_ediv_add_emod (rd l i) (2 ^ s)
    generalize (2:Int) ^ s=P at *
    generalize (2:Int) ^ (32 - s)=Q at *
    grind) k kJ
  refine ⟨z',e1,e2,e3,?_⟩
  have ew:shr .u64 w (s:Int) % 4294967296=w / 2 ^ s % 4294967296:=by rw [aLl _ _ kJ]
  rw [nat_unshift.l0,if_pos kJ,if_pos kJ,if_pos kJ,w64 (i:=(i:Int)+1) kJ kJ,show (i:Int)+1=((i+1:Nat):Int) by omega]
  by_cases hlt:i+1 < l.length
  ·rw [if_pos kJ,if_pos kJ,if_pos kJ,if_pos kJ,wu (n:=rd l i) h1.1 kJ,wu (n:=rd l ((i+1:Nat):Int)) h2.1 kJ,wu kJ kJ,aUM h1.1 h1.2 h2.1 h2.2,<- hw,ew,Int.toNat_natCast]
   exact e4
  ·rw [if_neg kJ,if_pos kJ,if_pos kJ,wu (n:=rd l i) h1.1 kJ]
   rw [aEq (l:=l) (i:=i+1) kJ,Int.zero_mul,Int.zero_add] at hw
   rw [<- hw,ew,Int.toNat_natCast]
   exact e4
theorem aPF (l:List Int) (hl:Dig 4294967296 l) (s:Nat) (hs:s < 32) (hn:l.length<=268435456) (k:Nat) (hk:l.length+1<=k) :
  ∃ z,z.length=l.length/\Dig 4294967296 z/\val 4294967296 z=val 4294967296 l / 2 ^ s/\nat_unshift.f k l s=some z:=by
 obtain ⟨t1,t2,t3⟩:=aFg s hs
 obtain ⟨z,e1,e2,e3,e4⟩:=aRb l hl s hs hn l.length 0 (List.replicate l.length 0) kJ List.length_replicate (aAU kQ _) (by simp [val]) k kJ
 refine ⟨z,e1,e2,?_,?_⟩
 ·have a0:=Int.emod_nonneg (rd l 0) (show (2:Int) ^ s≠0 by omega)
  have a1:=Int.emod_lt_of_pos (rd l 0) (show (0:Int) < 2 ^ s by omega)
  rw [<- e3,Int.mul_comm,(aIc a0 a1).1]
 ·unfold nat_unshift.f
  rw [if_pos kJ,if_pos kJ,Int.toNat_natCast]
  exact e4
end Go.Proofs.YtjefbecmeobegaaGreatDoor.NatF
