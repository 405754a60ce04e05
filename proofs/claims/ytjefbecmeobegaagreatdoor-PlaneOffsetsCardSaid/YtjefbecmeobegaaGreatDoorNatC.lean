import Derived.Test.YtjefbecmeobegaaGreatDoorNatB
import Derived.Test.YtjefbecmeobegaaGreatDoorPxNA
import Derived.Lib.Strings
namespace Go.Proofs.YtjefbecmeobegaaGreatDoor.NatC
open Go Go.RowKit YtjefbecmeobegaaGreatDoorW.PrintWords P NatA NatB
theorem aTg (a:ByteArray):a.toList=[] ↔ a.size=0:=by
 rw [Lib.toList_data]
 constructor
 ·intro h
  have:a.data.toList.length=0:=by rw [h];rfl
  rw [Array.length_toList] at this
  exact this
 ·intro h
  exact List.eq_nil_of_length_eq_zero (by rw [Array.length_toList];exact h)
theorem aKF (a:ByteArray) (n:Nat) (h:n < a.size):(V (a.extract 0 (n+1)):Int)=V (a.extract 0 n)+256 ^ n*bt a n:=by
 rw [aCy,aCy,aCf,aCf,List.drop_zero,Nat.sub_zero,Nat.sub_zero,aED]
 exact aBD 256 (bytesOf a) n (by rw [bytesOf_length];exact h)
theorem extract_all (a:ByteArray):a.extract 0 a.size=a:=by
 apply bytes_inj
 rw [aCf,List.drop_zero,Nat.sub_zero,List.take_of_length_le (by rw [bytesOf_length];exact Nat.le_refl _)]
theorem size_extract (a:ByteArray) (n:Nat) (h:n<=a.size):(a.extract 0 n).size=n:=by
 rw [<- bytesOf_length,aCf,List.drop_zero,Nat.sub_zero,List.length_take,bytesOf_length]
 omega
theorem aKG (a:ByteArray) (n:Nat) (h:n < a.size) (hb:bt a n≠0):N (V (a.extract 0 (n+1)))=a.extract 0 (n+1):=by
 apply N_V
 right
 rw [size_extract a (n+1) h,Nat.add_sub_cancel,aCf,List.drop_zero,Nat.sub_zero]
 have:rd (List.take (n+1) (bytesOf a)) (n:Int)=rd (bytesOf a) n:=by
  rw [aBU,aBU,List.getD_eq_getElem?_getD,List.getD_eq_getElem?_getD,List.getElem?_take_of_lt (Nat.lt_succ_self n)]
 rw [this,<- aED]
 exact hb
theorem trim (n:Nat):∀ (a:ByteArray),a.size=n->n<=1099511627776->∀ k,n+1<=k->strings_trimRightByte.l0 k a 0=some (N (V a)):=by
 induction n with
 | zero =>
  intro a h _ k hk
  obtain ⟨k,rfl⟩:∃ m,k=m+1:=⟨k - 1,by omega⟩
  rw [strings_trimRightByte.l0,if_neg kJ,N_V (.inl h)]
 | succ n ih =>
  intro a h hn k hk
  obtain ⟨k,rfl⟩:∃ m,k=m+1:=⟨k - 1,by omega⟩
  have hw:wrap64 ((a.size:Int) - 1)=(n:Int):=by rw [w64 kJ kJ];omega
  rw [strings_trimRightByte.l0,if_pos kJ,hw,if_pos kJ,if_pos kJ]
  have hx:=aKF a n kJ
  have hall:a.extract 0 (n+1)=a:=by rw [<- h];exact extract_all a
  rw [hall] at hx
  by_cases hb:bt a (n:Int)=0
  ·rw [if_pos hb,if_pos kJ,Int.toNat_natCast,ih _ (size_extract a n kJ) kJ k kJ]
   rw [hb,Int.mul_zero,Int.add_zero] at hx
   rw [Int.ofNat_inj.1 hx]
  ·rw [if_neg hb]
   have:=aKG a n kJ hb
   rw [hall] at this
   rw [this]
theorem aCs (a:ByteArray) (ha:a.size<=1099511627776) (k:Nat) (hk:a.size+4<=k):nat_Normalize.f k a=some (N (V a)):=by
 unfold nat_Normalize.f strings_TrimRight.f
 by_cases h:a.toList=[]
 ·obtain ⟨k,rfl⟩:∃ m,k=m+1:=⟨k - 1,by omega⟩
  rw [if_pos h,strings_TrimRight.j0,if_pos rfl,N_V (.inl ((aTg a).1 h))]
  rfl
 ·obtain ⟨k,rfl⟩:∃ m,k=m+2:=⟨k - 2,by omega⟩
  have e1:((⟨#[0]⟩:ByteArray).toList == ([]:List UInt8))=false:=by rw [Lib.toList_data];rfl
  have e2:bt (⟨#[0]⟩:ByteArray) 0=0:=by decide
  have e3:((⟨#[0]⟩:ByteArray).size:Int)=1:=rfl
  rw [if_neg h,e1,strings_TrimRight.j0,if_neg kQ,e3,if_pos rfl,if_pos kQ,e2,strings_TrimRight.j1,if_pos kQ,e3,if_pos kQ,strings_trimRightByte.f,e2,trim a.size a rfl ha k kJ]
  rfl
def aBu (x y:Nat):Int:=if x < y then -1 else if x=y then 0 else 1
theorem aEs {x s:Nat} (h:s < (N x).size):256 ^ s<=x:=by
 rcases Nat.lt_or_ge x (256 ^ s) with h1 | h1
 ·have:=(aAH x s).2 h1
  omega
 ·exact h1
theorem aEV {x y:Nat} (h:(N x).size < (N y).size):x < y:=by
 have h1:=aEs h
 have h2:=(aAH x (N x).size).1 (Nat.le_refl _)
 omega
theorem aFK {B:Int} (hB:0 < B) {l m:List Int} (hl:Dig B l) (hm:Dig B m) (hn:l.length=m.length) (i:Nat) (hi:i < l.length) (hd:l.drop (i+1)=m.drop (i+1)) (h:rd l i < rd m i):val B l < val B m:=by
 rw [aCm B l i (Nat.le_of_lt hi),aCm B m i kJ,aEu B l i hi,aEu B m i kJ,hd]
 have h1:=aBG hB (aAG hl i)
 rw [List.length_take,Nat.min_eq_left (Nat.le_of_lt hi)] at h1
 have h2:=aA4 hB (aAG hm i)
 have h3:=Int.mul_le_mul_of_nonneg_left (show rd l i+1<=rd m i by omega) (Int.le_of_lt (aDl hB i))
 rw [Int.mul_add,Int.mul_one] at h3
 rw [Int.mul_add,Int.mul_add]
 omega
theorem aN4 {l m:List Int} (hn:l.length=m.length) {i:Nat} (hi:i < l.length) (hd:l.drop (i+1)=m.drop (i+1)) (h:rd l i=rd m i):l.drop i=m.drop i:=by
 rw [aEC l i hi,aEC m i kJ,hd,h]
theorem cmp0 (x y:Nat) (hs:(N x).size=(N y).size) (hx:(N x).size<=1099511627776) (r:Nat):∀ i:Nat,i+r=(N x).size->(nb x).drop r=(nb y).drop r->∀ k,r+1<=k->nat_Cmp.l0 k (N x) (N y) ((N x).size:Int) i=some (aBu x y):=by
 have lx:(nb x).length=(N x).size:=by rw [<- bytesOf_length,aBa]
 have ly:(nb y).length=(N x).size:=by rw [hs,<- bytesOf_length,aBa]
 induction r with
 | zero =>
  intro i hi hd k hk
  obtain ⟨k,rfl⟩:∃ m,k=m+1:=⟨k - 1,by omega⟩
  rw [List.drop_zero,List.drop_zero] at hd
  have:x=y:=by
   have:=congrArg (val 256) hd
   rw [aBO,aBO] at this
   exact Int.ofNat_inj.1 this
  rw [nat_Cmp.l0,if_neg kJ]
  unfold aBu
  rw [if_neg kJ,if_pos this]
 | succ r ih =>
  intro i hi hd k hk
  obtain ⟨k,rfl⟩:∃ m,k=m+1:=⟨k - 1,by omega⟩
  have hw:wrap64 (wrap64 (((N x).size:Int) - 1) - i)=(r:Int):=by rw [w64 (i:=((N x).size:Int) - 1) kJ kJ,w64 kJ kJ];omega
  rw [nat_Cmp.l0,if_pos kJ,hw,if_pos kJ,if_pos kJ,if_pos kJ,aED,aED,aBa,aBa]
  by_cases he:rd (nb x) (r:Int)=rd (nb y) (r:Int)
  ·rw [if_pos he,w64 kJ kJ,show (i:Int)+1=((i+1:Nat):Int) by omega]
   exact ih (i+1) kJ (aN4 kJ kJ hd he) k kJ
  ·rw [if_neg he]
   by_cases hl:rd (nb x) (r:Int) < rd (nb y) (r:Int)
   ·have:=aFK (B:=256) kQ (aC9 x) (aC9 y) kJ r kJ hd hl
    rw [aBO,aBO] at this
    rw [if_pos hl]
    unfold aBu
    rw [if_pos kJ]
   ·have:=aFK (B:=256) kQ (aC9 y) (aC9 x) kJ r kJ hd.symm kJ
    rw [aBO,aBO] at this
    rw [if_neg hl]
    unfold aBu
    rw [if_neg kJ,if_neg kJ]
theorem aC6 {a:ByteArray} {s:Nat} (ha:a.size<=s):(N (V a)).size<=s:=Nat.le_trans (aDC (Nat.le_refl _)) ha
theorem aSf (a b:ByteArray) (ha:a.size<=1099511627776) (hb:b.size<=1099511627776) (k:Nat) (hk:a.size+b.size+10<=k):nat_Cmp.f k a b=some (aBu (V a) (V b)):=by
 have sa:=aC6 ha
 have sa':=aC6 (Nat.le_refl a.size)
 unfold nat_Cmp.f
 rw [aCs a ha k kJ,Option.bind_some,aCs b hb k kJ,Option.bind_some]
 by_cases hs:(N (V a)).size=(N (V b)).size
 ·rw [if_pos kJ]
  have lx:(nb (V a)).length=(N (V a)).size:=by rw [<- bytesOf_length,aBa]
  have ly:(nb (V b)).length=(N (V a)).size:=by rw [hs,<- bytesOf_length,aBa]
  exact cmp0 _ _ hs sa (N (V a)).size 0 kJ (by rw [List.drop_eq_nil_of_le kJ,List.drop_eq_nil_of_le kJ]) k kJ
 ·rw [if_neg kJ]
  unfold aBu
  by_cases hl:(N (V a)).size < (N (V b)).size
  ·rw [if_pos kJ,if_pos (aEV hl)]
  ·have:=aEV (x:=V b) (y:=V a) kJ
   rw [if_neg kJ,if_neg kJ,if_neg kJ]
theorem aLk {l:List Int} (h:Dig 256 l):(V (strOfNums l):Int)=val 256 l:=by rw [aCy,aKJ h]
theorem aFv (l:List Int):(strOfNums l).size=l.length:=by
 show ((l.map λ n=>UInt8.ofNat n.toNat).toArray).size=_
 rw [List.size_toArray,List.length_map]
def four (x:Int):List Int:=[x % 256,x / 256 % 256,x / 65536 % 256,x / 16777216 % 256]
theorem aMk (x:Int):Dig 256 (four x):=by
 unfold four
 rw [aBf,aBf,aBf,aBf]
 exact ⟨by omega,by omega,by omega,by omega,aC8 _⟩
theorem aMl {x:Int} (h:0<=x/\x < 4294967296):val 256 (four x)=x:=by
 unfold four
 simp only [val]
 omega
theorem aId (x:Int) (j:Nat) (h:j<=32):shr .u32 x (j:Int)=x / 2 ^ j:=by
 unfold shr
 rw [Int.toNat_natCast,show IntKind.u32.bits=32 from rfl,Nat.min_eq_left h]
theorem aLl (x:Int) (j:Nat) (h:j<=64):shr .u64 x (j:Int)=x / 2 ^ j:=by
 unfold shr
 rw [Int.toNat_natCast,show IntKind.u64.bits=64 from rfl,Nat.min_eq_left h]
theorem aSg (x:Int) (j:Nat) (h:j<=64):shl .u64 x (j:Int)=IntKind.u64.wrap (x*2 ^ j):=by
 unfold shl
 rw [Int.toNat_natCast,show IntKind.u64.bits=64 from rfl,Nat.min_eq_left h]
theorem aUL (x:Int) (j:Nat) (h:j<=32):shl .u32 x (j:Int)=x*2 ^ j % 4294967296:=by
 unfold shl
 rw [Int.toNat_natCast,show IntKind.u32.bits=32 from rfl,Nat.min_eq_left h,wrap_u32]
theorem mag4 (x3:List Int) (x5:Int) (x11:List Int) (x12 x13:Int) (m:Nat) (h:x3.length < 1099511627776):nat_mag.l1 (m+5) x3 x5 x11 x12 x13 0=nat_mag.l0 m (x3++four x5) x11 x12 (wrap64 (x13+1)):=by
 have s0:shr .u32 x5 (wrap64 (8*0))=x5:=by rw [show wrap64 (8*0)=((0:Nat):Int) by unfold wrap64;omega,aId _ _ kJ,Int.pow_zero,Int.ediv_one]
 have s1:shr .u32 x5 (wrap64 (8*wrap64 (0+1)))=x5 / 256:=by rw [show wrap64 (8*wrap64 (0+1))=((8:Nat):Int) by unfold wrap64;omega,aId _ _ kJ,show (2:Int) ^ 8=256 from rfl]
 have s2:shr .u32 x5 (wrap64 (8*wrap64 (wrap64 (0+1)+1)))=x5 / 65536:=by rw [show wrap64 (8*wrap64 (wrap64 (0+1)+1))=((16:Nat):Int) by unfold wrap64;omega,aId _ _ kJ,show (2:Int) ^ 16=65536 from rfl]
 have s3:shr .u32 x5 (wrap64 (8*wrap64 (wrap64 (wrap64 (0+1)+1)+1)))=x5 / 16777216:=by rw [show wrap64 (8*wrap64 (wrap64 (wrap64 (0+1)+1)+1))=((24:Nat):Int) by unfold wrap64;omega,aId _ _ kJ,show (2:Int) ^ 24=16777216 from rfl]
 rw [nat_mag.l1,if_pos kJ,if_pos (by unfold wrap64;omega),if_pos kJ,s0]
 rw [nat_mag.l1,if_pos (by unfold wrap64;omega),if_pos (by unfold wrap64;omega),if_pos (by simp only [List.length_append,List.length_cons,List.length_nil];omega),s1]
 rw [nat_mag.l1,if_pos (by unfold wrap64;omega),if_pos (by unfold wrap64;omega),if_pos (by simp only [List.length_append,List.length_cons,List.length_nil];omega),s2]
 rw [nat_mag.l1,if_pos (by unfold wrap64;omega),if_pos (by unfold wrap64;omega),if_pos (by simp only [List.length_append,List.length_cons,List.length_nil];omega),s3]
 rw [nat_mag.l1,if_neg (by unfold wrap64;omega)]
 simp only [List.append_assoc,List.cons_append,List.nil_append]
 rfl
theorem aFw (i:Nat):(256:Int) ^ (4*i)=4294967296 ^ i:=by rw [Int.pow_mul];rfl
theorem mag0 (l:List Int) (hl:Dig 4294967296 l) (hs:l.length<=1073741824) (r:Nat):∀ (i:Nat) (x3:List Int),i+r=l.length->x3.length=4*i->Dig 256 x3->val 256 x3=val 4294967296 (l.take i)->∀ k,4*l.length+6*r+5<=k ->
  nat_mag.l0 k x3 l (l.length:Int) i=some (N (val 4294967296 l).toNat):=by
 induction r with
 | zero =>
  intro i x3 hi h3 hd hv k hk
  obtain ⟨k,rfl⟩:∃ m,k=m+1:=⟨k - 1,by omega⟩
  rw [nat_mag.l0,if_neg kJ,aCs _ (by rw [aFv];omega) k (by rw [aFv];omega),Option.bind_some]
  rw [List.take_of_length_le kJ,<- aLk hd] at hv
  rw [<- hv,Int.toNat_natCast]
 | succ r ih =>
  intro i x3 hi h3 hd hv k hk
  obtain ⟨k,rfl⟩:∃ m,k=m+6:=⟨k - 6,by omega⟩
  rw [nat_mag.l0,if_pos kJ,if_pos kJ,if_pos kJ,mag4 _ _ _ _ _ _ kJ,w64 kJ kJ,show (i:Int)+1=((i+1:Nat):Int) by omega]
  refine ih (i+1) _ kJ (by rw [List.length_append,h3];rfl) (aDY.2 ⟨hd,aMk _⟩) ?_ k kJ
  rw [val_append,aMl (aAA hl kJ),aBD _ _ _ kJ,hv,h3,aFw]
theorem aLm (l:List Int) (hl:Dig 4294967296 l) (hs:l.length<=1073741824) (k:Nat) (hk:10*l.length+5<=k):nat_mag.f k l=some (N (val 4294967296 l).toNat):=by
 unfold nat_mag.f
 rw [w64 kJ kJ,if_pos kJ,if_pos kJ]
 exact mag0 l hl hs l.length 0 [] kJ rfl (aC8 _) rfl k kJ
theorem aHD (n:Nat) (h:n < 18446744073709551616) (k:Nat) (hk:25<=k):nat_FromUint64.f k n=some (N n):=by
 unfold nat_FromUint64.f
 rw [aLm _ (aTi _ _ kJ kJ) (by simp) k (by simp only [List.length_cons,List.length_nil];omega),Option.bind_some]
 congr 2
 simp only [val]
 omega
theorem aSh {B:Int} (hB:0 < B) {l:List Int} (h:Dig B l) {i:Nat} (hi:i < l.length):B ^ i*rd l i<=val B l:=by
 rw [aCm B l i (Nat.le_of_lt hi),aEu B l i hi,Int.mul_add]
 have h1:=aA4 hB (aAG h i)
 have h2:=Int.mul_nonneg (Int.le_of_lt (aDl hB i)) (Int.mul_nonneg (Int.le_of_lt hB) (aA4 hB (aCF h (i+1))))
 omega
theorem aIE (q r:Nat):(256:Int) ^ (4*q+r)=4294967296 ^ q*256 ^ r:=by rw [Int.pow_add,aFw]
theorem aMm {l:List Int} (h:Dig 4294967296 l) {q r:Nat} (hi:q < l.length) (hv:val 4294967296 l < 256 ^ (4*q+r)):rd l q < 256 ^ r:=by
 have h1:=aSh kQ h hi
 rw [aIE] at hv
 exact Int.lt_of_mul_lt_mul_left (Int.lt_of_le_of_lt h1 hv) (Int.le_of_lt (aDl kQ q))
theorem aN5 (x y:Int) (r:Nat) (hr:r < 4) (hx:0<=x) (hx1:x < 256 ^ r) (hy:0<=y/\y < 256):bits .or .u32 x (shl .u32 (y % 4294967296) ((8*r:Nat):Int))=x+y*256 ^ r:=by
 have e:(2:Int) ^ (8*r)=256 ^ r:=by rw [Int.pow_mul];rfl
 have h4:(256:Int) ^ r<=16777216/\y*256 ^ r < 4294967296:=by
  rcases (by omega:r=0\/r=1\/r=2\/r=3) with rfl | rfl | rfl | rfl
  ·rw [Int.pow_zero];omega
  ·rw [show (256:Int) ^ 1=256 from rfl];omega
  ·rw [show (256:Int) ^ 2=65536 from rfl];omega
  ·rw [show (256:Int) ^ 3=16777216 from rfl];omega
 have h5:0<=y*256 ^ r:=Int.mul_nonneg hy.1 (Int.le_of_lt (aDl kQ r))
 rw [aUL _ _ kJ,Int.emod_eq_of_lt hy.1 kJ,e,Int.emod_eq_of_lt h5 h4.2,<- e]
 rw [<- e] at hx1 h4
 exact aMn (8*r) hx hx1 kJ hy.1 h4.2
theorem aUc (n:Nat) (hs:(N n).size<=1073741824) (L:Nat) (hL:L=((N n).size+3) / 4) (r:Nat):∀ (i:Nat) (x3:List Int),i+r=(N n).size->x3.length=L->Dig 4294967296 x3->val 4294967296 x3=val 256 ((nb n).take i)->∀ k,r+1<=k ->
  nat_limbs.l0 k (N n) x3 ((N n).size:Int) i=some (lb n):=by
 have ln:(nb n).length=(N n).size:=by rw [<- bytesOf_length,aBa]
 induction r with
 | zero =>
  intro i x3 hi h3 hd hv k hk
  obtain ⟨k,rfl⟩:∃ m,k=m+1:=⟨k - 1,by omega⟩
  rw [nat_limbs.l0,if_neg kJ]
  rw [List.take_of_length_le kJ,aBO] at hv
  have:=aMq x3 hd (by
   by_cases hz:x3.length=0
   ·exact .inl hz
   ·right
    have h1:=aEs (x:=n) (s:=4*(x3.length - 1)) kJ
    have h2:((256 ^ (4*(x3.length - 1)):Nat):Int)=4294967296 ^ (x3.length - 1):=by rw [Int.natCast_pow];exact aFw _
    omega)
  rw [hv,Int.toNat_natCast] at this
  rw [this]
 | succ r ih =>
  intro i x3 hi h3 hd hv k hk
  obtain ⟨k,rfl⟩:∃ m,k=m+1:=⟨k - 1,by omega⟩
  have e1:wrap64 (Int.tdiv (i:Int) 4)=((i / 4:Nat):Int):=by rw [aEt kJ,w64 kJ kJ];omega
  have e2:wrap64 (8*Int.tmod (i:Int) 4)=((8*(i % 4):Nat):Int):=by rw [aGG kJ,w64 kJ kJ];omega
  rw [nat_limbs.l0,if_pos kJ,e1,if_pos kJ,if_pos kJ,if_pos kJ,if_pos kJ,e2,if_pos kJ,w64 kJ kJ,Int.toNat_natCast]
  have hb:=aPH (N n) (i:Int)
  have h1:=aAA hd (i:=i / 4) kJ
  have hlt:val 4294967296 x3 < 256 ^ (4*(i / 4)+i % 4):=by
   rw [hv,show 4*(i / 4)+i % 4=i by omega]
   have:=aBG (B:=256) kQ (aAG (aC9 n) i)
   rw [List.length_take,Nat.min_eq_left kJ] at this
   exact this
  have h2:=aMm hd (q:=i / 4) (r:=i % 4) kJ hlt
  rw [aN5 _ _ (i % 4) kJ h1.1 h2 hb,show (i:Int)+1=((i+1:Nat):Int) by omega]
  have hnew:rd x3 ((i / 4:Nat):Int)+bt (N n) (i:Int)*256 ^ (i % 4) < 4294967296:=by
   rcases (by omega:i % 4=0\/i % 4=1\/i % 4=2\/i % 4=3) with h | h | h | h<;>rw [h] at h2 ⊢
   ·rw [Int.pow_zero] at h2 ⊢;omega
   ·rw [show (256:Int) ^ 1=256 from rfl] at h2 ⊢;omega
   ·rw [show (256:Int) ^ 2=65536 from rfl] at h2 ⊢;omega
   ·rw [show (256:Int) ^ 3=16777216 from rfl] at h2 ⊢;omega
  have h5:0<=bt (N n) (i:Int)*256 ^ (i % 4):=Int.mul_nonneg hb.1 (Int.le_of_lt (aDl kQ _))
  refine ih (i+1) _ kJ (by rw [List.length_set,h3]) (aBk hd _ kJ hnew) ?_ k kJ
  rw [aDy _ _ _ _ kJ,hv,aBD _ _ _ kJ,<- aBa,<- aED]
  have e:=aIE (i / 4) (i % 4)
  rw [show 4*(i / 4)+i % 4=i by omega] at e
  rw [e,show ∀ x y:Int,x+y - x=y from λ x y=>by omega,Int.mul_comm (bt (N n) (i:Int)),<- Int.mul_assoc]
theorem aIe (a:ByteArray) (ha:a.size<=1073741824) (k:Nat) (hk:2*a.size+10<=k):nat_limbs.f k a=some (lb (V a)):=by
 have hs:=aC6 ha
 have hs1:=aC6 (Nat.le_refl a.size)
 unfold nat_limbs.f
 rw [aCs a kJ k kJ,Option.bind_some]
 have e:wrap64 (Int.tdiv (wrap64 (wrap64 (((N (V a)).size:Int)+4) - 1)) 4)=((((N (V a)).size+3) / 4:Nat):Int):=by
  rw [w64 (i:=((N (V a)).size:Int)+4) kJ kJ,w64 (i:=((N (V a)).size:Int)+4 - 1) kJ kJ,aEt kJ,w64 kJ kJ]
  omega
 rw [e,if_pos kJ,if_pos kJ,Int.toNat_natCast]
 exact aUc (V a) hs _ rfl (N (V a)).size 0 _ kJ (List.length_replicate ..) (aAU kQ _) (by rw [aCN];rfl) k kJ
end Go.Proofs.YtjefbecmeobegaaGreatDoor.NatC
