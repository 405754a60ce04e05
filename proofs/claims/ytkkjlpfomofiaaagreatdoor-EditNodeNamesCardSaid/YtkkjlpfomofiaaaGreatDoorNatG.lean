import Derived.Test.YtkkjlpfomofiaaaGreatDoorNatF
import Derived.Test.YtkkjlpfomofiaaaGreatDoorTw
namespace Go.Proofs.YtkkjlpfomofiaaaGreatDoor.NatG
open Go Go.RowKit YtkkjlpfomofiaaaGreatDoorW.PrintWords P NatA NatB NatC NatD NatE NatF
theorem aIn {z l b:Int} (hz:0≤z∧z < 4294967296) (hl:0≤l∧l < 4294967296) (hb:0≤b∧b≤1) :
  (z - l - b) % 4294967296=z - l - b+4294967296*(if z < l+b then 1 else 0)∧0≤(z - l - b) % 4294967296∧(z - l - b) % 4294967296 < 4294967296∧0≤(if z < l+b then (1:Int) else 0)∧(if z < l+b then (1:Int) else 0)≤1:=by
 split<;>omega
theorem aQ5 (d:List Int) (hd:Dig 4294967296 d) (q:Int) (hq:0≤q∧q < 4294967296) (hs:d.length≤268435456) (U:Int) (r:Nat):∀ (i:Nat) (z:List Int) (c b:Int),i+r=d.length→z.length=d.length+1→Dig 4294967296 z→(0≤c∧c < 4294967296)→(0≤b∧b≤1) →
  val 4294967296 z+q*val 4294967296 (d.take i)=U+4294967296 ^ i*(c+b)→∀ k,r+1≤k →
  ∃ z' b',z'.length=d.length+1∧Dig 4294967296 z'∧(0≤b'∧b'≤1)∧val 4294967296 z'+q*val 4294967296 d=U+4294967296 ^ (d.length+1)*b' ∧
   nat_take.l0 k z d q c b d (d.length:Int) i=if b'=0 then some (false,z') else nat_take.l1 (k - r - 1) z' d 0 d (d.length:Int) 0:=by
 induction r with
 | zero =>
  intro i z c b hi hz hg hc hb hv k hk
  obtain ⟨k,rfl⟩:∃ m,k=m+1:=⟨k - 1,by omega⟩
  have h3:=aAt hg (i:=d.length) (by omega)
  obtain ⟨s1,s2,s3,s4,s5⟩:=aIn h3 hc hb
  refine ⟨z.set d.length ((rd z (d.length:Int) - c - b) % 4294967296),if rd z (d.length:Int) < c+b then 1 else 0,by rw [List.length_set,hz],aAI hg _ s2 s3,⟨s4,s5⟩,?_,?_⟩
  ·rw [List.take_of_length_le (l:=d) (by omega),show i=d.length by omega] at hv
   rw [aBV _ _ _ _ (by omega),s1,Int.pow_succ]
   grind
  ·rw [nat_take.l0,if_neg (by omega),if_pos (by omega),if_pos (by omega),Int.emod_eq_of_lt hc.1 hc.2,aO4 h3 hc hb,Option.bind_some,Int.toNat_natCast]
   simp only [Option.bind_some]
   congr 2
 | succ r ih =>
  intro i z c b hi hz hg hc hb hv k hk
  obtain ⟨k,rfl⟩:∃ m,k=m+1:=⟨k - 1,by omega⟩
  have h2:=aAt hd (i:=i) (by omega)
  have h3:=aAt hg (i:=i) (by omega)
  have hp:0≤rd d i*q:=Int.mul_nonneg h2.1 hq.1
  have hp2:rd d i*q≤4294967295*4294967295:=Int.mul_le_mul (by omega) (by omega) hq.1 (by omega)
  obtain ⟨n,hn⟩:∃ n,n=rd d i*q+c:=⟨_,rfl⟩
  have hn0:0≤n∧n < 18446744069414584321:=by omega
  have hlo:0≤n % 4294967296∧n % 4294967296 < 4294967296:=by omega
  have hhi:0≤n / 4294967296∧n / 4294967296 < 4294967296:=by omega
  have hdm:4294967296*(n / 4294967296)+n % 4294967296=n:=Int.mul_ediv_add_emod _ _
  obtain ⟨s1,s2,s3,s4,s5⟩:=aIn h3 hlo hb
  obtain ⟨z',b',e1,e2,e3,e4,e5⟩:=ih (i+1) (z.set i ((rd z i - n % 4294967296 - b) % 4294967296)) (n / 4294967296) (if rd z i < n % 4294967296+b then 1 else 0) (by omega) (by rw [List.length_set,hz]) (aAI hg _ s2 s3) hhi ⟨s4,s5⟩
   (by
    rw [aBV _ _ _ _ (by omega),s1,aAg,Int.pow_succ]
    grind) k (by omega)
  refine ⟨z',b',e1,e2,e3,e4,?_⟩
  rw [nat_take.l0,if_pos (by omega),if_pos (by omega),if_pos (by omega),if_pos (by omega),wu h2.1 (by omega),wu hq.1 (by omega),wu hp (by omega),← hn,wu (n:=n) (by omega) (by omega),aO4 h3 hlo hb,Option.bind_some,w64 (by omega) (by omega),Int.toNat_natCast,show (i:Int)+1=((i+1:Nat):Int) by omega]
  rw [show k+1 - (r+1) - 1=k - r - 1 by omega]
  exact e5
theorem take1 (d:List Int) (hd:Dig 4294967296 d) (hs:d.length≤268435456) (Y:Int) (r:Nat):∀ (i:Nat) (z:List Int) (c:Int),i+r=d.length→z.length=d.length+1→Dig 4294967296 z→(0≤c∧c≤1) →
  val 4294967296 z+4294967296 ^ i*c=Y+val 4294967296 (d.take i)→∀ k,r+1≤k →
  ∃ z' e',z'.length=d.length+1∧Dig 4294967296 z'∧(0≤e'∧e'≤1)∧val 4294967296 z'+4294967296 ^ (d.length+1)*e'=Y+val 4294967296 d∧nat_take.l1 k z d c d (d.length:Int) i=some (true,z'):=by
 induction r with
 | zero =>
  intro i z c hi hz hg hc hv k hk
  obtain ⟨k,rfl⟩:∃ m,k=m+1:=⟨k - 1,by omega⟩
  have h3:=aAt hg (i:=d.length) (by omega)
  have hdm:4294967296*((rd z (d.length:Int)+c) / 4294967296)+(rd z (d.length:Int)+c) % 4294967296=rd z (d.length:Int)+c:=Int.mul_ediv_add_emod _ _
  refine ⟨z.set d.length ((rd z (d.length:Int)+c) % 4294967296),(rd z (d.length:Int)+c) / 4294967296,by rw [List.length_set,hz],aAI hg _ (by omega) (by omega),by omega,?_,?_⟩
  ·rw [List.take_of_length_le (l:=d) (by omega),show i=d.length by omega] at hv
   rw [aBV _ _ _ _ (by omega),Int.pow_succ]
   grind
  ·rw [nat_take.l1,if_neg (by omega),if_pos (by omega),if_pos (by omega),Int.toNat_natCast]
 | succ r ih =>
  intro i z c hi hz hg hc hv k hk
  obtain ⟨k,rfl⟩:∃ m,k=m+1:=⟨k - 1,by omega⟩
  have h2:=aAt hd (i:=i) (by omega)
  have h3:=aAt hg (i:=i) (by omega)
  have hdm:4294967296*((rd z i+rd d i+c) / 4294967296)+(rd z i+rd d i+c) % 4294967296=rd z i+rd d i+c:=Int.mul_ediv_add_emod _ _
  obtain ⟨z',e',e1,e2,e3,e4,e5⟩:=ih (i+1) (z.set i ((rd z i+rd d i+c) % 4294967296)) ((rd z i+rd d i+c) / 4294967296) (by omega) (by rw [List.length_set,hz]) (aAI hg _ (by omega) (by omega)) (by omega)
   (by
    rw [aBV _ _ _ _ (by omega),aAg,Int.pow_succ]
    grind) k (by omega)
  refine ⟨z',e',e1,e2,e3,e4,?_⟩
  rw [nat_take.l1,if_pos (by omega),if_pos (by omega),if_pos (by omega),if_pos (by omega),aQ9 h3 h2 hc,Option.bind_some,w64 (by omega) (by omega),Int.toNat_natCast,show (i:Int)+1=((i+1:Nat):Int) by omega]
  exact e5
theorem aPQ (u d:List Int) (hu:Dig 4294967296 u) (hd:Dig 4294967296 d) (hl:u.length=d.length+1) (q:Int) (hq:0≤q∧q < 4294967296) (hs:d.length≤268435456) (hlow:(q - 1)*val 4294967296 d≤val 4294967296 u) (k:Nat) (hk:2*d.length+2≤k) :
  ∃ z,z.length=u.length∧Dig 4294967296 z∧((val 4294967296 z=val 4294967296 u - q*val 4294967296 d∧nat_take.f k u d q=some (false,z))∨(val 4294967296 u < q*val 4294967296 d∧val 4294967296 z=val 4294967296 u - (q - 1)*val 4294967296 d∧nat_take.f k u d q=some (true,z))):=by
 obtain ⟨z,b,e1,e2,e3,e4,e5⟩:=aQ5 d hd q hq hs (val 4294967296 u) d.length 0 u 0 0 (by omega) hl hu (by omega) (by omega) (by simp [val]) k (by omega)
 have hz:=aBs (by decide) e2
 rw [e1] at hz
 by_cases hb:b=0
 ·subst hb
  exact ⟨z,by omega,e2,Or.inl ⟨by rw [Int.mul_zero] at e4;omega,e5⟩⟩
 ·obtain rfl:b=1:=by omega
  rw [Int.mul_one] at e4
  obtain ⟨y,e,f1,f2,f3,f4,f5⟩:=take1 d hd hs (val 4294967296 z) d.length 0 z 0 (by omega) e1 e2 (by omega) (by simp [val]) (k - d.length - 1) (by omega)
  have hy:=aBs (by decide) f2
  rw [f1] at hy
  have hy0:=aAz (by decide) f2
  have hqd:(q - 1)*val 4294967296 d=q*val 4294967296 d - val 4294967296 d:=by rw [Int.sub_mul,Int.one_mul]
  have he:e=1:=by
   rcases (show e=0∨e=1 by omega) with rfl | rfl
   ·rw [Int.mul_zero] at f4
    omega
   ·rfl
  subst he
  rw [Int.mul_one] at f4
  refine ⟨y,by omega,f2,Or.inr ⟨by omega,by omega,?_⟩⟩
  unfold nat_take.f
  have e5':=e5
  rw [if_neg (by decide)] at e5'
  exact e5'.trans f5
end Go.Proofs.YtkkjlpfomofiaaaGreatDoor.NatG
