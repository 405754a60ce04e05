import Derived.Test.YtkkjlpfomofiaaaGreatDoorNatB
import Derived.Test.YtkkjlpfomofiaaaGreatDoorPxNA
import Derived.Lib.Strings
namespace Go.Proofs.YtkkjlpfomofiaaaGreatDoor.NatC
open Go Go.RowKit YtkkjlpfomofiaaaGreatDoorW.PrintWords P NatA NatB
theorem aPg (a:ByteArray):a.toList=[] ↔ a.size=0:=by
 rw [Lib.toList_data]
 constructor
 ·intro h
  have:a.data.toList.length=0:=by rw [h];rfl
  rw [Array.length_toList] at this
  exact this
 ·intro h
  exact List.eq_nil_of_length_eq_zero (by rw [Array.length_toList];exact h)
theorem aMI (a:ByteArray) (n:Nat) (h:n < a.size):(V (a.extract 0 (n+1)):Int)=V (a.extract 0 n)+256 ^ n*bt a n:=by
 rw [aIK,aIK,aBB,aBB,List.drop_zero,Nat.sub_zero,Nat.sub_zero,aEl]
 exact aAS 256 (bytesOf a) n (by rw [bytesOf_length];exact h)
theorem extract_all (a:ByteArray):a.extract 0 a.size=a:=by
 apply bytes_inj
 rw [aBB,List.drop_zero,Nat.sub_zero,List.take_of_length_le (by rw [bytesOf_length];exact Nat.le_refl _)]
theorem aFn (a:ByteArray) (n:Nat) (h:n≤a.size):(a.extract 0 n).size=n:=by
 rw [← bytesOf_length,aBB,List.drop_zero,Nat.sub_zero,List.length_take,bytesOf_length]
 omega
theorem aMJ (a:ByteArray) (n:Nat) (h:n < a.size) (hb:bt a n≠0):N (V (a.extract 0 (n+1)))=a.extract 0 (n+1):=by
 apply N_V
 right
 rw [aFn a (n+1) h,Nat.add_sub_cancel,aBB,List.drop_zero,Nat.sub_zero]
 have:rd (List.take (n+1) (bytesOf a)) (n:Int)=rd (bytesOf a) n:=by
  rw [aBa,aBa,List.getD_eq_getElem?_getD,List.getD_eq_getElem?_getD,List.getElem?_take_of_lt (Nat.lt_succ_self n)]
 rw [this,← aEl]
 exact hb
theorem trim (n:Nat):∀ (a:ByteArray),a.size=n→n≤1099511627776→∀ k,n+1≤k→strings_trimRightByte.l0 k a 0=some (N (V a)):=by
 induction n with
 | zero =>
  intro a h _ k hk
  obtain ⟨k,rfl⟩:∃ m,k=m+1:=⟨k - 1,by omega⟩
  rw [strings_trimRightByte.l0,if_neg (by omega),N_V (.inl h)]
 | succ n ih =>
  intro a h hn k hk
  obtain ⟨k,rfl⟩:∃ m,k=m+1:=⟨k - 1,by omega⟩
  have hw:wrap64 ((a.size:Int) - 1)=(n:Int):=by rw [w64 (by omega) (by omega)];omega
  rw [strings_trimRightByte.l0,if_pos (by omega),hw,if_pos (by omega),if_pos (by omega)]
  have hx:=aMI a n (by omega)
  have hall:a.extract 0 (n+1)=a:=by rw [← h];exact extract_all a
  rw [hall] at hx
  by_cases hb:bt a (n:Int)=0
  ·rw [if_pos hb,if_pos (by omega),Int.toNat_natCast,ih _ (aFn a n (by omega)) (by omega) k (by omega)]
   rw [hb,Int.mul_zero,Int.add_zero] at hx
   rw [Int.ofNat_inj.1 hx]
  ·rw [if_neg hb]
   have:=aMJ a n (by omega) hb
   rw [hall] at this
   rw [this]
theorem aBu (a:ByteArray) (ha:a.size≤1099511627776) (k:Nat) (hk:a.size+4≤k):nat_Normalize.f k a=some (N (V a)):=by
 unfold nat_Normalize.f strings_TrimRight.f
 by_cases h:a.toList=[]
 ·obtain ⟨k,rfl⟩:∃ m,k=m+1:=⟨k - 1,by omega⟩
  rw [if_pos h,strings_TrimRight.j0,if_pos rfl,N_V (.inl ((aPg a).1 h))]
  rfl
 ·obtain ⟨k,rfl⟩:∃ m,k=m+2:=⟨k - 2,by omega⟩
  have e1:((⟨#[0]⟩:ByteArray).toList == ([]:List UInt8))=false:=by rw [Lib.toList_data];rfl
  have e2:bt (⟨#[0]⟩:ByteArray) 0=0:=by decide
  have e3:((⟨#[0]⟩:ByteArray).size:Int)=1:=rfl
  rw [if_neg h,e1,strings_TrimRight.j0,if_neg (by decide),e3,if_pos rfl,if_pos (by decide),e2,strings_TrimRight.j1,if_pos (by decide),e3,if_pos (by decide),strings_trimRightByte.f,e2,trim a.size a rfl ha k (by omega)]
  rfl
def aD0 (x y:Nat):Int:=if x < y then -1 else if x=y then 0 else 1
theorem aCA {x s:Nat} (h:s < (N x).size):256 ^ s≤x:=by
 rcases Nat.lt_or_ge x (256 ^ s) with h1 | h1
 ·have:=(aCT x s).2 h1
  omega
 ·exact h1
theorem aGW {x y:Nat} (h:(N x).size < (N y).size):x < y:=by
 have h1:=aCA h
 have h2:=(aCT x (N x).size).1 (Nat.le_refl _)
 omega
theorem aIo {B:Int} (hB:0 < B) {l m:List Int} (hl:Dig B l) (hm:Dig B m) (hn:l.length=m.length) (i:Nat) (hi:i < l.length) (hd:l.drop (i+1)=m.drop (i+1)) (h:rd l i < rd m i):val B l < val B m:=by
 rw [aB2 B l i (Nat.le_of_lt hi),aB2 B m i (by omega),aCC B l i hi,aCC B m i (by omega),hd]
 have h1:=aBs hB (aAx hl i)
 rw [List.length_take,Nat.min_eq_left (Nat.le_of_lt hi)] at h1
 have h2:=aAz hB (aAx hm i)
 have h3:=Int.mul_le_mul_of_nonneg_left (show rd l i+1≤rd m i by omega) (Int.le_of_lt (aBP hB i))
 rw [Int.mul_add,Int.mul_one] at h3
 rw [Int.mul_add,Int.mul_add]
 omega
theorem aPh {l m:List Int} (hn:l.length=m.length) {i:Nat} (hi:i < l.length) (hd:l.drop (i+1)=m.drop (i+1)) (h:rd l i=rd m i):l.drop i=m.drop i:=by
 rw [aFq l i hi,aFq m i (by omega),hd,h]
theorem cmp0 (x y:Nat) (hs:(N x).size=(N y).size) (hx:(N x).size≤1099511627776) (r:Nat):∀ i:Nat,i+r=(N x).size→(nb x).drop r=(nb y).drop r→∀ k,r+1≤k→nat_Cmp.l0 k (N x) (N y) ((N x).size:Int) i=some (aD0 x y):=by
 have lx:(nb x).length=(N x).size:=by rw [← bytesOf_length,aAP]
 have ly:(nb y).length=(N x).size:=by rw [hs,← bytesOf_length,aAP]
 induction r with
 | zero =>
  intro i hi hd k hk
  obtain ⟨k,rfl⟩:∃ m,k=m+1:=⟨k - 1,by omega⟩
  rw [List.drop_zero,List.drop_zero] at hd
  have:x=y:=by
   have:=congrArg (val 256) hd
   rw [aBY,aBY] at this
   exact Int.ofNat_inj.1 this
  rw [nat_Cmp.l0,if_neg (by omega)]
  unfold aD0
  rw [if_neg (by omega),if_pos this]
 | succ r ih =>
  intro i hi hd k hk
  obtain ⟨k,rfl⟩:∃ m,k=m+1:=⟨k - 1,by omega⟩
  have hw:wrap64 (wrap64 (((N x).size:Int) - 1) - i)=(r:Int):=by rw [w64 (i:=((N x).size:Int) - 1) (by omega) (by omega),w64 (by omega) (by omega)];omega
  rw [nat_Cmp.l0,if_pos (by omega),hw,if_pos (by omega),if_pos (by omega),if_pos (by omega),aEl,aEl,aAP,aAP]
  by_cases he:rd (nb x) (r:Int)=rd (nb y) (r:Int)
  ·rw [if_pos he,w64 (by omega) (by omega),show (i:Int)+1=((i+1:Nat):Int) by omega]
   exact ih (i+1) (by omega) (aPh (by omega) (by omega) hd he) k (by omega)
  ·rw [if_neg he]
   by_cases hl:rd (nb x) (r:Int) < rd (nb y) (r:Int)
   ·have:=aIo (B:=256) (by decide) (aCv x) (aCv y) (by omega) r (by omega) hd hl
    rw [aBY,aBY] at this
    rw [if_pos hl]
    unfold aD0
    rw [if_pos (by omega)]
   ·have:=aIo (B:=256) (by decide) (aCv y) (aCv x) (by omega) r (by omega) hd.symm (by omega)
    rw [aBY,aBY] at this
    rw [if_neg hl]
    unfold aD0
    rw [if_neg (by omega),if_neg (by omega)]
theorem aDo {a:ByteArray} {s:Nat} (ha:a.size≤s):(N (V a)).size≤s:=Nat.le_trans (aJM (Nat.le_refl _)) ha
theorem aOz (a b:ByteArray) (ha:a.size≤1099511627776) (hb:b.size≤1099511627776) (k:Nat) (hk:a.size+b.size+10≤k):nat_Cmp.f k a b=some (aD0 (V a) (V b)):=by
 have sa:=aDo ha
 have sa':=aDo (Nat.le_refl a.size)
 unfold nat_Cmp.f
 rw [aBu a ha k (by omega),Option.bind_some,aBu b hb k (by omega),Option.bind_some]
 by_cases hs:(N (V a)).size=(N (V b)).size
 ·rw [if_pos (by omega)]
  have lx:(nb (V a)).length=(N (V a)).size:=by rw [← bytesOf_length,aAP]
  have ly:(nb (V b)).length=(N (V a)).size:=by rw [hs,← bytesOf_length,aAP]
  exact cmp0 _ _ hs sa (N (V a)).size 0 (by omega) (by rw [List.drop_eq_nil_of_le (by omega),List.drop_eq_nil_of_le (by omega)]) k (by omega)
 ·rw [if_neg (by omega)]
  unfold aD0
  by_cases hl:(N (V a)).size < (N (V b)).size
  ·rw [if_pos (by omega),if_pos (aGW hl)]
  ·have:=aGW (x:=V b) (y:=V a) (by omega)
   rw [if_neg (by omega),if_neg (by omega),if_neg (by omega)]
theorem aO0 {l:List Int} (h:Dig 256 l):(V (strOfNums l):Int)=val 256 l:=by rw [aIK,aIq h]
theorem aGp (l:List Int):(strOfNums l).size=l.length:=by
 show ((l.map fun n=>UInt8.ofNat n.toNat).toArray).size=_
 rw [List.size_toArray,List.length_map]
def four (x:Int):List Int:=[x % 256,x / 256 % 256,x / 65536 % 256,x / 16777216 % 256]
theorem aJF (x:Int):Dig 256 (four x):=by
 unfold four
 rw [aAB,aAB,aAB,aAB]
 exact ⟨by omega,by omega,by omega,by omega,aCB _⟩
theorem aJG {x:Int} (h:0≤x∧x < 4294967296):val 256 (four x)=x:=by
 unfold four
 simp only [val]
 omega
theorem aGX (x:Int) (j:Nat) (h:j≤32):shr .u32 x (j:Int)=x / 2 ^ j:=by
 unfold shr
 rw [Int.toNat_natCast,show IntKind.u32.bits=32 from rfl,Nat.min_eq_left h]
theorem aII (x:Int) (j:Nat) (h:j≤64):shr .u64 x (j:Int)=x / 2 ^ j:=by
 unfold shr
 rw [Int.toNat_natCast,show IntKind.u64.bits=64 from rfl,Nat.min_eq_left h]
theorem aO1 (x:Int) (j:Nat) (h:j≤64):shl .u64 x (j:Int)=IntKind.u64.wrap (x*2 ^ j):=by
 unfold shl
 rw [Int.toNat_natCast,show IntKind.u64.bits=64 from rfl,Nat.min_eq_left h]
theorem aQ7 (x:Int) (j:Nat) (h:j≤32):shl .u32 x (j:Int)=x*2 ^ j % 4294967296:=by
 unfold shl
 rw [Int.toNat_natCast,show IntKind.u32.bits=32 from rfl,Nat.min_eq_left h,wrap_u32]
theorem mag4 (x3:List Int) (x5:Int) (x11:List Int) (x12 x13:Int) (m:Nat) (h:x3.length < 1099511627776):nat_mag.l1 (m+5) x3 x5 x11 x12 x13 0=nat_mag.l0 m (x3++four x5) x11 x12 (wrap64 (x13+1)):=by
 have s0:shr .u32 x5 (wrap64 (8*0))=x5:=by rw [show wrap64 (8*0)=((0:Nat):Int) by unfold wrap64;omega,aGX _ _ (by omega),Int.pow_zero,Int.ediv_one]
 have s1:shr .u32 x5 (wrap64 (8*wrap64 (0+1)))=x5 / 256:=by rw [show wrap64 (8*wrap64 (0+1))=((8:Nat):Int) by unfold wrap64;omega,aGX _ _ (by omega),show (2:Int) ^ 8=256 from rfl]
 have s2:shr .u32 x5 (wrap64 (8*wrap64 (wrap64 (0+1)+1)))=x5 / 65536:=by rw [show wrap64 (8*wrap64 (wrap64 (0+1)+1))=((16:Nat):Int) by unfold wrap64;omega,aGX _ _ (by omega),show (2:Int) ^ 16=65536 from rfl]
 have s3:shr .u32 x5 (wrap64 (8*wrap64 (wrap64 (wrap64 (0+1)+1)+1)))=x5 / 16777216:=by rw [show wrap64 (8*wrap64 (wrap64 (wrap64 (0+1)+1)+1))=((24:Nat):Int) by unfold wrap64;omega,aGX _ _ (by omega),show (2:Int) ^ 24=16777216 from rfl]
 rw [nat_mag.l1,if_pos (by omega),if_pos (by unfold wrap64;omega),if_pos (by omega),s0]
 rw [nat_mag.l1,if_pos (by unfold wrap64;omega),if_pos (by unfold wrap64;omega),if_pos (by simp only [List.length_append,List.length_cons,List.length_nil];omega),s1]
 rw [nat_mag.l1,if_pos (by unfold wrap64;omega),if_pos (by unfold wrap64;omega),if_pos (by simp only [List.length_append,List.length_cons,List.length_nil];omega),s2]
 rw [nat_mag.l1,if_pos (by unfold wrap64;omega),if_pos (by unfold wrap64;omega),if_pos (by simp only [List.length_append,List.length_cons,List.length_nil];omega),s3]
 rw [nat_mag.l1,if_neg (by unfold wrap64;omega)]
 simp only [List.append_assoc,List.cons_append,List.nil_append]
 rfl
theorem aD1 (i:Nat):(256:Int) ^ (4*i)=4294967296 ^ i:=by rw [Int.pow_mul];rfl
theorem mag0 (l:List Int) (hl:Dig 4294967296 l) (hs:l.length≤1073741824) (r:Nat):∀ (i:Nat) (x3:List Int),i+r=l.length→x3.length=4*i→Dig 256 x3→val 256 x3=val 4294967296 (l.take i)→∀ k,4*l.length+6*r+5≤k →
  nat_mag.l0 k x3 l (l.length:Int) i=some (N (val 4294967296 l).toNat):=by
 induction r with
 | zero =>
  intro i x3 hi h3 hd hv k hk
  obtain ⟨k,rfl⟩:∃ m,k=m+1:=⟨k - 1,by omega⟩
  rw [nat_mag.l0,if_neg (by omega),aBu _ (by rw [aGp];omega) k (by rw [aGp];omega),Option.bind_some]
  rw [List.take_of_length_le (by omega),← aO0 hd] at hv
  rw [← hv,Int.toNat_natCast]
 | succ r ih =>
  intro i x3 hi h3 hd hv k hk
  obtain ⟨k,rfl⟩:∃ m,k=m+6:=⟨k - 6,by omega⟩
  rw [nat_mag.l0,if_pos (by omega),if_pos (by omega),if_pos (by omega),mag4 _ _ _ _ _ _ (by omega),w64 (by omega) (by omega),show (i:Int)+1=((i+1:Nat):Int) by omega]
  refine ih (i+1) _ (by omega) (by rw [List.length_append,h3];rfl) (aDf.2 ⟨hd,aJF _⟩) ?_ k (by omega)
  rw [val_append,aJG (aAt hl (by omega)),aAS _ _ _ (by omega),hv,h3,aD1]
theorem aIJ (l:List Int) (hl:Dig 4294967296 l) (hs:l.length≤1073741824) (k:Nat) (hk:10*l.length+5≤k):nat_mag.f k l=some (N (val 4294967296 l).toNat):=by
 unfold nat_mag.f
 rw [w64 (by omega) (by omega),if_pos (by omega),if_pos (by omega)]
 exact mag0 l hl hs l.length 0 [] (by omega) rfl (aCB _) rfl k (by omega)
theorem aFo (n:Nat) (h:n < 18446744073709551616) (k:Nat) (hk:25≤k):nat_FromUint64.f k n=some (N n):=by
 unfold nat_FromUint64.f
 rw [aIJ _ (aPj _ _ (by omega) (by omega)) (by simp) k (by simp only [List.length_cons,List.length_nil];omega),Option.bind_some]
 congr 2
 simp only [val]
 omega
theorem aO2 {B:Int} (hB:0 < B) {l:List Int} (h:Dig B l) {i:Nat} (hi:i < l.length):B ^ i*rd l i≤val B l:=by
 rw [aB2 B l i (Nat.le_of_lt hi),aCC B l i hi,Int.mul_add]
 have h1:=aAz hB (aAx h i)
 have h2:=Int.mul_nonneg (Int.le_of_lt (aBP hB i)) (Int.mul_nonneg (Int.le_of_lt hB) (aAz hB (aBO h (i+1))))
 omega
theorem aGq (q r:Nat):(256:Int) ^ (4*q+r)=4294967296 ^ q*256 ^ r:=by rw [Int.pow_add,aD1]
theorem aJH {l:List Int} (h:Dig 4294967296 l) {q r:Nat} (hi:q < l.length) (hv:val 4294967296 l < 256 ^ (4*q+r)):rd l q < 256 ^ r:=by
 have h1:=aO2 (by decide) h hi
 rw [aGq] at hv
 exact Int.lt_of_mul_lt_mul_left (Int.lt_of_le_of_lt h1 hv) (Int.le_of_lt (aBP (by decide) q))
theorem aKO (x y:Int) (r:Nat) (hr:r < 4) (hx:0≤x) (hx1:x < 256 ^ r) (hy:0≤y∧y < 256):bits .or .u32 x (shl .u32 (y % 4294967296) ((8*r:Nat):Int))=x+y*256 ^ r:=by
 have e:(2:Int) ^ (8*r)=256 ^ r:=by rw [Int.pow_mul];rfl
 have h4:(256:Int) ^ r≤16777216∧y*256 ^ r < 4294967296:=by
  rcases (by omega:r=0∨r=1∨r=2∨r=3) with rfl | rfl | rfl | rfl
  ·rw [Int.pow_zero];omega
  ·rw [show (256:Int) ^ 1=256 from rfl];omega
  ·rw [show (256:Int) ^ 2=65536 from rfl];omega
  ·rw [show (256:Int) ^ 3=16777216 from rfl];omega
 have h5:0≤y*256 ^ r:=Int.mul_nonneg hy.1 (Int.le_of_lt (aBP (by decide) r))
 rw [aQ7 _ _ (by omega),Int.emod_eq_of_lt hy.1 (by omega),e,Int.emod_eq_of_lt h5 h4.2,← e]
 rw [← e] at hx1 h4
 exact aJI (8*r) hx hx1 (by omega) hy.1 h4.2
theorem aPU (n:Nat) (hs:(N n).size≤1073741824) (L:Nat) (hL:L=((N n).size+3) / 4) (r:Nat):∀ (i:Nat) (x3:List Int),i+r=(N n).size→x3.length=L→Dig 4294967296 x3→val 4294967296 x3=val 256 ((nb n).take i)→∀ k,r+1≤k →
  nat_limbs.l0 k (N n) x3 ((N n).size:Int) i=some (lb n):=by
 have ln:(nb n).length=(N n).size:=by rw [← bytesOf_length,aAP]
 induction r with
 | zero =>
  intro i x3 hi h3 hd hv k hk
  obtain ⟨k,rfl⟩:∃ m,k=m+1:=⟨k - 1,by omega⟩
  rw [nat_limbs.l0,if_neg (by omega)]
  rw [List.take_of_length_le (by omega),aBY] at hv
  have:=aJL x3 hd (by
   by_cases hz:x3.length=0
   ·exact .inl hz
   ·right
    have h1:=aCA (x:=n) (s:=4*(x3.length - 1)) (by omega)
    have h2:((256 ^ (4*(x3.length - 1)):Nat):Int)=4294967296 ^ (x3.length - 1):=by rw [Int.natCast_pow];exact aD1 _
    omega)
  rw [hv,Int.toNat_natCast] at this
  rw [this]
 | succ r ih =>
  intro i x3 hi h3 hd hv k hk
  obtain ⟨k,rfl⟩:∃ m,k=m+1:=⟨k - 1,by omega⟩
  have e1:wrap64 (Int.tdiv (i:Int) 4)=((i / 4:Nat):Int):=by rw [aD2 (by omega),w64 (by omega) (by omega)];omega
  have e2:wrap64 (8*Int.tmod (i:Int) 4)=((8*(i % 4):Nat):Int):=by rw [aE5 (by omega),w64 (by omega) (by omega)];omega
  rw [nat_limbs.l0,if_pos (by omega),e1,if_pos (by omega),if_pos (by omega),if_pos (by omega),if_pos (by omega),e2,if_pos (by omega),w64 (by omega) (by omega),Int.toNat_natCast]
  have hb:=aMM (N n) (i:Int)
  have h1:=aAt hd (i:=i / 4) (by omega)
  have hlt:val 4294967296 x3 < 256 ^ (4*(i / 4)+i % 4):=by
   rw [hv,show 4*(i / 4)+i % 4=i by omega]
   have:=aBs (B:=256) (by decide) (aAx (aCv n) i)
   rw [List.length_take,Nat.min_eq_left (by omega)] at this
   exact this
  have h2:=aJH hd (q:=i / 4) (r:=i % 4) (by omega) hlt
  rw [aKO _ _ (i % 4) (by omega) h1.1 h2 hb,show (i:Int)+1=((i+1:Nat):Int) by omega]
  have hnew:rd x3 ((i / 4:Nat):Int)+bt (N n) (i:Int)*256 ^ (i % 4) < 4294967296:=by
   rcases (by omega:i % 4=0∨i % 4=1∨i % 4=2∨i % 4=3) with h | h | h | h<;>rw [h] at h2 ⊢
   ·rw [Int.pow_zero] at h2 ⊢;omega
   ·rw [show (256:Int) ^ 1=256 from rfl] at h2 ⊢;omega
   ·rw [show (256:Int) ^ 2=65536 from rfl] at h2 ⊢;omega
   ·rw [show (256:Int) ^ 3=16777216 from rfl] at h2 ⊢;omega
  have h5:0≤bt (N n) (i:Int)*256 ^ (i % 4):=Int.mul_nonneg hb.1 (Int.le_of_lt (aBP (by decide) _))
  refine ih (i+1) _ (by omega) (by rw [List.length_set,h3]) (aAI hd _ (by omega) hnew) ?_ k (by omega)
  rw [aBV _ _ _ _ (by omega),hv,aAS _ _ _ (by omega),← aAP,← aEl]
  have e:=aGq (i / 4) (i % 4)
  rw [show 4*(i / 4)+i % 4=i by omega] at e
  rw [e,show ∀ x y:Int,x+y - x=y from fun x y=>by omega,Int.mul_comm (bt (N n) (i:Int)),← Int.mul_assoc]
theorem aFC (a:ByteArray) (ha:a.size≤1073741824) (k:Nat) (hk:2*a.size+10≤k):nat_limbs.f k a=some (lb (V a)):=by
 have hs:=aDo ha
 have hs1:=aDo (Nat.le_refl a.size)
 unfold nat_limbs.f
 rw [aBu a (by omega) k (by omega),Option.bind_some]
 have e:wrap64 (Int.tdiv (wrap64 (wrap64 (((N (V a)).size:Int)+4) - 1)) 4)=((((N (V a)).size+3) / 4:Nat):Int):=by
  rw [w64 (i:=((N (V a)).size:Int)+4) (by omega) (by omega),w64 (i:=((N (V a)).size:Int)+4 - 1) (by omega) (by omega),aD2 (by omega),w64 (by omega) (by omega)]
  omega
 rw [e,if_pos (by omega),if_pos (by omega),Int.toNat_natCast]
 exact aPU (V a) hs _ rfl (N (V a)).size 0 _ (by omega) (List.length_replicate ..) (aAF (by decide) _) (by rw [aBZ];rfl) k (by omega)
end Go.Proofs.YtkkjlpfomofiaaaGreatDoor.NatC
