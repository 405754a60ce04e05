import Derived.Test.YtkkjlpfomofiaaaGreatDoorNatA
import Derived.Test.YtkkjlpfomofiaaaGreatDoorPxNB
import Derived.Laws.Bits64b
namespace Go.Proofs.YtkkjlpfomofiaaaGreatDoor.NatB
open Go Go.RowKit YtkkjlpfomofiaaaGreatDoorW.PrintWords P NatA
theorem wu {n:Int} (h0:0≤n) (h1:n < 18446744073709551616):IntKind.u64.wrap n=n:=by rw [IntKind.wrap_u64];omega
theorem aD2 {a b:Int} (h:0≤a):Int.tdiv a b=a / b:=Int.tdiv_eq_ediv_of_nonneg h
theorem aE5 {a b:Int} (h:0≤a):Int.tmod a b=a % b:=Int.tmod_eq_emod_of_nonneg h
theorem wrap_u32 (n:Int):IntKind.u32.wrap n=n % 4294967296:=by simp [IntKind.wrap,IntKind.bits,IntKind.signed]
theorem aHA (a:Nat) (ha:a < 4294967296):(BitVec.ofInt 32 (a:Int)).toNat=a:=by
 rw [BitVec.ofInt_natCast,BitVec.toNat_ofNat]
 exact Nat.mod_eq_of_lt (by omega)
theorem or32 (a b:Nat) (ha:a < 4294967296) (hb:b < 4294967296):bits .or .u32 (a:Int) (b:Int)=((a ||| b:Nat):Int):=by
 have hx:a ||| b < 2 ^ 32:=Nat.or_lt_two_pow (by omega) (by omega)
 show IntKind.u32.wrap ((BitVec.ofInt 32 (a:Int) ||| BitVec.ofInt 32 (b:Int)).toNat:Int)=_
 rw [BitVec.toNat_or,aHA a ha,aHA b hb,wrap_u32]
 omega
theorem aO3 (a b:Nat) (ha:a < 4294967296) (hb:b < 4294967296):bits .and .u32 (a:Int) (b:Int)=((a &&& b:Nat):Int):=by
 have hx:a &&& b < 2 ^ 32:=Nat.and_lt_two_pow _ (by omega)
 show IntKind.u32.wrap ((BitVec.ofInt 32 (a:Int) &&& BitVec.ofInt 32 (b:Int)).toNat:Int)=_
 rw [BitVec.toNat_and,aHA a ha,aHA b hb,wrap_u32]
 omega
theorem aLN (a b:Nat) (ha:a < 4294967296) (hb:b < 4294967296):bits .xor .u32 (a:Int) (b:Int)=((a ^^^ b:Nat):Int):=by
 have hx:a ^^^ b < 2 ^ 32:=Nat.xor_lt_two_pow (by omega) (by omega)
 show IntKind.u32.wrap ((BitVec.ofInt 32 (a:Int) ^^^ BitVec.ofInt 32 (b:Int)).toNat:Int)=_
 rw [BitVec.toNat_xor,aHA a ha,aHA b hb,wrap_u32]
 omega
theorem aJI (j:Nat) {a b:Int} (ha:0≤a) (ha1:a < 2 ^ j) (ha2:a < 4294967296) (hb:0≤b) (hb1:b*2 ^ j < 4294967296):bits .or .u32 a (b*2 ^ j)=a+b*2 ^ j:=by
 obtain ⟨a,rfl⟩:=Int.eq_ofNat_of_zero_le ha
 obtain ⟨b,rfl⟩:=Int.eq_ofNat_of_zero_le hb
 have e:((b:Int)*2 ^ j)=((2 ^ j*b:Nat):Int):=by rw [Int.natCast_mul,Int.natCast_pow,Int.mul_comm];rfl
 rw [e] at hb1 ⊢
 have h1:a < 2 ^ j:=by
  have:((2 ^ j:Nat):Int)=2 ^ j:=by rw [Int.natCast_pow];rfl
  omega
 rw [or32 a (2 ^ j*b) (by omega) (by omega),Nat.or_comm,← Nat.two_pow_add_eq_or_of_lt h1,Nat.add_comm,Int.natCast_add]
theorem aJJ (j:Nat) {a b:Int} (ha:0≤a) (ha1:a < 2 ^ j) (ha2:a < 18446744073709551616) (hb:0≤b) (hb1:b*2 ^ j < 18446744073709551616):bits .or .u64 a (b*2 ^ j)=a+b*2 ^ j:=by
 obtain ⟨a,rfl⟩:=Int.eq_ofNat_of_zero_le ha
 obtain ⟨b,rfl⟩:=Int.eq_ofNat_of_zero_le hb
 have e:((b:Int)*2 ^ j)=((2 ^ j*b:Nat):Int):=by rw [Int.natCast_mul,Int.natCast_pow,Int.mul_comm];rfl
 rw [e] at hb1 ⊢
 have h1:a < 2 ^ j:=by
  have:((2 ^ j:Nat):Int)=2 ^ j:=by rw [Int.natCast_pow];rfl
  omega
 rw [bits_or_u64_nat a (2 ^ j*b) (by omega) (by omega),Nat.or_comm,← Nat.two_pow_add_eq_or_of_lt h1,Nat.add_comm,Int.natCast_add]
theorem or_hi {a b:Int} (ha:0≤a) (ha1:a < 4294967296) (hb:0≤b) (hb1:b < 4294967296):bits .or .u64 (b*4294967296) a=b*4294967296+a:=by
 obtain ⟨a,rfl⟩:=Int.eq_ofNat_of_zero_le ha
 obtain ⟨b,rfl⟩:=Int.eq_ofNat_of_zero_le hb
 have e:((b:Int)*4294967296)=((2 ^ 32*b:Nat):Int):=by omega
 rw [e,bits_or_u64_nat (2 ^ 32*b) a (by omega) (by omega),← Nat.two_pow_add_eq_or_of_lt (by omega),Int.natCast_add]
theorem aQ8 {a b:Int} (ha:0≤a) (ha1:a < 4294967296) (hb:0≤b) (hb1:b < 4294967296):bits .or .u64 a (b*4294967296)=b*4294967296+a:=by
 have:=aJJ 32 ha (by omega) (by omega) hb (by omega)
 rw [show (2:Int) ^ 32=4294967296 from rfl] at this
 rw [this,Int.add_comm]
theorem aQ9 {a b c:Int} (ha:0≤a∧a < 4294967296) (hb:0≤b∧b < 4294967296) (hc:0≤c∧c≤1):bits_Add32.f a b c=some ((a+b+c) % 4294967296,(a+b+c) / 4294967296):=by
 unfold bits_Add32.f
 rw [wu ha.1 (by omega),wu hb.1 (by omega),wu (n:=a+b) (by omega) (by omega),wu hc.1 (by omega),wu (by omega) (by omega)]
 congr 2
 omega
theorem aPi (n:Nat) (h:n < 4294967296):n / 2147483648=(n.testBit 31).toNat:=by
 rw [Nat.testBit_eq_decide_div_mod_eq]
 have:n / 2 ^ 31 < 2:=by omega
 by_cases h1:n / 2 ^ 31 % 2=1
 ·rw [decide_eq_true h1]
  show _=1
  omega
 ·rw [decide_eq_false h1]
  show _=0
  omega
theorem aGY (n:Nat) (h:n < 4294967296):n.testBit 31=decide (2147483648≤n):=by
 rw [Nat.testBit_eq_decide_div_mod_eq]
 apply decide_eq_decide.2
 omega
theorem aO4 {a b c:Int} (ha:0≤a∧a < 4294967296) (hb:0≤b∧b < 4294967296) (hc:0≤c∧c≤1):bits_Sub32.f a b c=some ((a - b - c) % 4294967296,if a < b+c then 1 else 0):=by
 unfold bits_Sub32.f
 have e1:((a - b) % 4294967296 - c) % 4294967296=(a - b - c) % 4294967296:=by omega
 rw [e1]
 congr 2
 obtain ⟨d,hd⟩:∃ d:Nat,(d:Int)=(a - b - c) % 4294967296:=⟨((a - b - c) % 4294967296).toNat,by omega⟩
 rw [← hd]
 obtain ⟨a,rfl⟩:=Int.eq_ofNat_of_zero_le ha.1
 obtain ⟨b,rfl⟩:=Int.eq_ofNat_of_zero_le hb.1
 have h1:a ^^^ b < 2 ^ 32:=Nat.xor_lt_two_pow (by omega) (by omega)
 have h2:4294967295 ^^^ a < 2 ^ 32:=Nat.xor_lt_two_pow (by omega) (by omega)
 have h3:4294967295 ^^^ (a ^^^ b) < 2 ^ 32:=Nat.xor_lt_two_pow (by omega) h1
 have h4:(4294967295 ^^^ a) &&& b < 2 ^ 32:=Nat.and_lt_two_pow _ (by omega)
 have h5:(4294967295 ^^^ (a ^^^ b)) &&& d < 2 ^ 32:=Nat.and_lt_two_pow _ (by omega)
 have h6:((4294967295 ^^^ a) &&& b) ||| ((4294967295 ^^^ (a ^^^ b)) &&& d) < 2 ^ 32:=Nat.or_lt_two_pow h4 h5
 rw [aLN a b (by omega) (by omega),show (4294967295:Int)=((4294967295:Nat):Int) from rfl,aLN _ a (by decide) (by omega),aLN _ (a ^^^ b) (by decide) (by omega),aO3 _ b (by omega) (by omega),aO3 _ d (by omega) (by omega),or32 _ _ (by omega) (by omega)]
 have h7:=aPi _ (by omega:((4294967295 ^^^ a) &&& b) ||| ((4294967295 ^^^ (a ^^^ b)) &&& d) < 4294967296)
 rw [show ∀ n:Nat,((n:Nat):Int) / 2147483648=((n / 2147483648:Nat):Int) from fun n=>by omega,h7]
 simp only [Nat.testBit_or,Nat.testBit_and,Nat.testBit_xor]
 rw [aGY a (by omega),aGY b (by omega),aGY d (by omega),aGY 4294967295 (by decide)]
 by_cases p:2147483648≤a<;>by_cases q:2147483648≤b<;>by_cases s:2147483648≤d<;>simp [p,q,s]<;>omega
theorem aPj (x y:Int) (hx:0≤x∧x < 4294967296) (hy:0≤y∧y < 4294967296):Dig 4294967296 [x,y]:=by
 rw [aAB,aAB]
 exact ⟨hx,hy,aCB _⟩
def lb (n:Nat):List Int:=if h:n=0 then [] else ((n % 4294967296:Nat):Int)::lb (n / 4294967296)
 termination_by n
 decreasing_by omega
theorem aBU:lb 0=[]:=by rw [lb,dif_pos rfl]
theorem aFp {n:Nat} (h:n≠0):lb n=((n % 4294967296:Nat):Int)::lb (n / 4294967296):=by rw [lb,dif_neg h]
theorem aBA (n:Nat):Dig 4294967296 (lb n):=by
 induction n using Nat.strongRecOn with
 | _ n ih =>
  by_cases h:n=0
  ·rw [h,aBU]
   exact aCB _
  ·rw [aFp h,aAB]
   exact ⟨by omega,ih _ (by omega)⟩
theorem aCt (n:Nat):val 4294967296 (lb n)=n:=by
 induction n using Nat.strongRecOn with
 | _ n ih =>
  by_cases h:n=0
  ·rw [h,aBU]
   rfl
  ·rw [aFp h,val,ih _ (by omega)]
   omega
theorem aCS (n s:Nat):(lb n).length≤s ↔ n < 4294967296 ^ s:=by
 induction s generalizing n with
 | zero =>
  by_cases h:n=0
  ·rw [h,aBU];simp
  ·rw [aFp h,List.length_cons,Nat.pow_zero]
   omega
 | succ s ih =>
  by_cases h:n=0
  ·rw [h,aBU]
   simp only [List.length_nil,Nat.zero_le,true_iff]
   exact Nat.pow_pos (by decide)
  ·rw [aFp h,List.length_cons,Nat.pow_succ,Nat.add_le_add_iff_right,ih]
   omega
theorem aJK {n:Nat}:(lb n).length=0 ↔ n=0:=by
 have h:=aCS n 0
 rw [Nat.pow_zero] at h
 omega
theorem aJL (l:List Int) (h:Dig 4294967296 l) (hl:l.length=0∨(4294967296:Int) ^ (l.length - 1)≤val 4294967296 l):lb (val 4294967296 l).toNat=l:=by
 induction l with
 | nil=>exact aBU
 | cons d r ih =>
  rw [aAB] at h
  have hr:=aAz (B:=4294967296) (by decide) h.2
  have hl':(4294967296:Int) ^ r.length≤val 4294967296 (d::r):=by
   rcases hl with hl | hl
   ·cases hl
   ·exact hl
  have hp:=aBP (B:=4294967296) (by decide) r.length
  have ih':lb (val 4294967296 r).toNat=r:=by
   refine ih h.2 ?_
   by_cases hz:r.length=0
   ·exact .inl hz
   ·right
    obtain ⟨m,hm⟩:∃ m,r.length=m+1:=⟨r.length - 1,by omega⟩
    rw [hm,Nat.add_sub_cancel]
    rw [val,hm,Int.pow_succ] at hl'
    omega
  have hne:(val 4294967296 (d::r)).toNat≠0:=by omega
  rw [aFp hne]
  have e1:(((val 4294967296 (d::r)).toNat % 4294967296:Nat):Int)=d:=by rw [val];omega
  have e2:(val 4294967296 (d::r)).toNat / 4294967296=(val 4294967296 r).toNat:=by rw [val];omega
  rw [e1,e2,ih']
theorem aPV {n:Nat} (h:n≠0):0 < rd (lb n) (((lb n).length - 1:Nat):Int):=by
 have h0:(lb n).length≠0:=fun e=>h (aJK.1 e)
 obtain ⟨m,hm⟩:∃ m,(lb n).length=m+1:=⟨(lb n).length - 1,by omega⟩
 have h1:¬ n < 4294967296 ^ m:=fun e=>by
  have:=(aCS n m).2 e
  omega
 have h2:=aAS 4294967296 (lb n) m (by omega)
 rw [← hm,List.take_length,aCt] at h2
 have h3:=aBs (B:=4294967296) (by decide) (aAx (aBA n) m)
 rw [List.length_take,Nat.min_eq_left (by omega)] at h3
 have h4:=aAt (aBA n) (i:=m) (by omega)
 rw [hm,Nat.add_sub_cancel]
 rcases Int.lt_or_le 0 (rd (lb n) (m:Int)) with h5 | h5
 ·exact h5
 ·exfalso
  have h6:rd (lb n) (m:Int)=0:=by omega
  rw [h6,Int.mul_zero,Int.add_zero] at h2
  apply h1
  have h7:((4294967296 ^ m:Nat):Int)=(4294967296:Int) ^ m:=by rw [Int.natCast_pow];rfl
  omega
end Go.Proofs.YtkkjlpfomofiaaaGreatDoor.NatB
