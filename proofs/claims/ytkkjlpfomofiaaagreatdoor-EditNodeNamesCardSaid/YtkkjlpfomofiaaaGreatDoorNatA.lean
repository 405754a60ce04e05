import Derived.Test.YtkkjlpfomofiaaaGreatDoorPx0
namespace Go.Proofs.YtkkjlpfomofiaaaGreatDoor.NatA
open Go Go.RowKit YtkkjlpfomofiaaaGreatDoorW.PrintWords
theorem w64 {i:Int} (h0:-9223372036854775808≤i) (h1:i≤9223372036854775807):wrap64 i=i:=by unfold wrap64;omega
theorem aBa (l:List Int) (i:Nat):rd l (i:Int)=l.getD i 0:=by unfold rd;rw [Int.toNat_natCast]
theorem aPW {l:List Int} {i:Nat} (h:i < l.length):rd l i ∈ l:=by
 rw [aBa,List.getD_eq_getElem?_getD,List.getElem?_eq_getElem h]
 exact List.getElem_mem h
theorem aFq (l:List Int) (i:Nat) (h:i < l.length):l.drop i=rd l i::l.drop (i+1):=by
 rw [List.drop_eq_getElem_cons h,aBa,List.getD_eq_getElem?_getD,List.getElem?_eq_getElem h]
 rfl
theorem aMK (l:List Int) (i:Nat) (h:i < l.length):l.take (i+1)=l.take i++[rd l i]:=by
 rw [List.take_add_one,aBa,List.getD_eq_getElem?_getD,List.getElem?_eq_getElem h]
 rfl
theorem aML (l:List Int) (i:Nat) (x:Int) (h:i < l.length):l.set i x=l.take i++x::l.drop (i+1):=by
 rw [List.set_eq_take_append_cons_drop,if_pos h]
theorem aEk (l:List Int) (i j:Nat) (x:Int) (h:i < l.length):rd (l.set i x) j=if i=j then x else rd l j:=by
 rw [aBa,aBa,List.getD_eq_getElem?_getD,List.getD_eq_getElem?_getD,List.getElem?_set]
 by_cases h1:i=j
 ·subst h1
  rw [if_pos rfl,if_pos rfl,if_pos h]
  rfl
 ·rw [if_neg h1,if_neg h1]
theorem aCu (n i:Nat):rd (List.replicate n 0) i=0:=by
 rw [aBa,List.getD_eq_getElem?_getD,List.getElem?_replicate]
 split<;>rfl
def val (B:Int):List Int→Int
 | []=>0
 | d::r=>d+B*val B r
def Dig (B:Int) (l:List Int):Prop:=∀ x ∈ l,0≤x∧x < B
theorem aCB (B:Int):Dig B []:=fun _ h=>by cases h
theorem aAB {B d:Int} {r:List Int}:Dig B (d::r) ↔ (0≤d∧d < B)∧Dig B r:=by
 unfold Dig
 simp only [List.mem_cons,forall_eq_or_imp]
theorem aDf {B:Int} {a b:List Int}:Dig B (a++b) ↔ Dig B a∧Dig B b:=by
 unfold Dig
 constructor
 ·intro h
  exact ⟨fun x hx=>h x (List.mem_append_left _ hx),fun x hx=>h x (List.mem_append_right _ hx)⟩
 ·rintro ⟨h,k⟩ x hx
  rcases List.mem_append.1 hx with hx | hx
  ·exact h x hx
  ·exact k x hx
theorem aAx {B:Int} {l:List Int} (h:Dig B l) (i:Nat):Dig B (l.take i):=fun x hx=>h x (List.mem_of_mem_take hx)
theorem aBO {B:Int} {l:List Int} (h:Dig B l) (i:Nat):Dig B (l.drop i):=fun x hx=>h x (List.mem_of_mem_drop hx)
theorem aAI {B:Int} {l:List Int} (h:Dig B l) (i:Nat) {x:Int} (h0:0≤x) (h1:x < B):Dig B (l.set i x):=fun y hy=>by
 rcases List.mem_or_eq_of_mem_set hy with hy | rfl
 ·exact h y hy
 ·exact ⟨h0,h1⟩
theorem aAF {B:Int} (hB:0 < B) (n:Nat):Dig B (List.replicate n 0):=fun x hx=>by
 rw [(List.mem_replicate.1 hx).2]
 exact ⟨Int.le_refl _,hB⟩
theorem aAt {B:Int} {l:List Int} (h:Dig B l) {i:Nat} (hi:i < l.length):0≤rd l i∧rd l i < B:=h _ (aPW hi)
theorem aFD {B:Int} (hB:0 < B) {l:List Int} (h:Dig B l) (i:Nat):0≤rd l i∧rd l i < B:=by
 by_cases hi:i < l.length
 ·exact aAt h hi
 ·rw [aBa,List.getD_eq_getElem?_getD,List.getElem?_eq_none (by omega)]
  exact ⟨Int.le_refl _,hB⟩
theorem val_append (B:Int) (a b:List Int):val B (a++b)=val B a+B ^ a.length*val B b:=by
 induction a with
 | nil=>simp [val]
 | cons d r ih =>
  simp only [List.cons_append,val,List.length_cons,ih,Int.pow_succ]
  rw [Int.mul_add,← Int.mul_assoc,Int.mul_comm B (B ^ r.length),Int.add_assoc]
theorem aLO (B d:Int):val B [d]=d:=by simp [val]
theorem aBZ (B:Int) (n:Nat):val B (List.replicate n 0)=0:=by
 induction n with
 | zero=>rfl
 | succ n ih=>rw [List.replicate_succ,val,ih,Int.mul_zero,Int.add_zero]
theorem aAz {B:Int} (hB:0 < B) {l:List Int} (h:Dig B l):0≤val B l:=by
 induction l with
 | nil=>exact Int.le_refl _
 | cons d r ih =>
  rw [aAB] at h
  have:=Int.mul_nonneg (Int.le_of_lt hB) (ih h.2)
  rw [val]
  omega
theorem aBP {B:Int} (hB:0 < B) (n:Nat):0 < B ^ n:=Int.pow_pos hB
theorem aBs {B:Int} (hB:0 < B) {l:List Int} (h:Dig B l):val B l < B ^ l.length:=by
 induction l with
 | nil=>rw [val,List.length_nil,Int.pow_zero];decide
 | cons d r ih =>
  rw [aAB] at h
  have h1:val B r+1≤B ^ r.length:=ih h.2
  have h2:=Int.mul_le_mul_of_nonneg_left h1 (Int.le_of_lt hB)
  rw [Int.mul_add,Int.mul_one] at h2
  rw [val,List.length_cons,Int.pow_succ,Int.mul_comm (B ^ r.length) B]
  omega
theorem aB2 (B:Int) (l:List Int) (i:Nat) (h:i≤l.length):val B l=val B (l.take i)+B ^ i*val B (l.drop i):=by
 have:=val_append B (l.take i) (l.drop i)
 rw [List.take_append_drop,List.length_take,Nat.min_eq_left h] at this
 exact this
theorem aAS (B:Int) (l:List Int) (i:Nat) (h:i < l.length):val B (l.take (i+1))=val B (l.take i)+B ^ i*rd l i:=by
 rw [aMK l i h,val_append,aLO,List.length_take,Nat.min_eq_left (Nat.le_of_lt h)]
theorem aCC (B:Int) (l:List Int) (i:Nat) (h:i < l.length):val B (l.drop i)=rd l i+B*val B (l.drop (i+1)):=by rw [aFq l i h,val]
theorem aBV (B:Int) (l:List Int) (i:Nat) (x:Int) (h:i < l.length):val B (l.set i x)=val B l+B ^ i*(x - rd l i):=by
 rw [aML l i x h,val_append,aB2 B l i (Nat.le_of_lt h),aCC B l i h,val,List.length_take,Nat.min_eq_left (Nat.le_of_lt h)]
 rw [Int.mul_add,Int.mul_add,Int.mul_sub]
 omega
theorem aBy (B:Int) (l:List Int) (i:Nat) (x:Int) (h:i < l.length):val B ((l.set i x).take (i+1))=val B (l.take i)+B ^ i*x:=by
 rw [aAS B _ i (by rw [List.length_set];exact h),aEk l i i x h,if_pos rfl,List.take_set_of_le (Nat.le_refl i)]
theorem aDM (s:ByteArray):Dig 256 (bytesOf s):=by
 intro x hx
 unfold bytesOf at hx
 obtain ⟨b,_,rfl⟩:=List.mem_map.1 hx
 have:=b.toNat_lt
 omega
theorem aEl (s:ByteArray) (i:Nat):bt s (i:Int)=rd (bytesOf s) i:=(aGP s i).symm
theorem aMM (s:ByteArray) (i:Int):0≤bt s i∧bt s i < 256:=by
 unfold bt
 split
 ·have:=(s[i.toNat]'(by assumption)).toNat_lt
  omega
 ·omega
theorem aIp (s:ByteArray):strOfNums (bytesOf s)=s:=by
 unfold strOfNums bytesOf
 rw [List.map_map]
 have:((fun n:Int=>UInt8.ofNat n.toNat) ∘ fun b:UInt8=>(b.toNat:Int))=id:=by
  funext b
  simp
 rw [this,List.map_id]
theorem aIq {l:List Int} (h:Dig 256 l):bytesOf (strOfNums l)=l:=by
 unfold strOfNums bytesOf
 show List.map _ (List.map _ l)=l
 rw [List.map_map]
 induction l with
 | nil=>rfl
 | cons d r ih =>
  rw [aAB] at h
  rw [List.map_cons,ih h.2]
  congr 1
  show ((UInt8.ofNat d.toNat).toNat:Int)=d
  rw [UInt8.toNat_ofNat']
  omega
theorem bytes_inj {a b:ByteArray} (h:bytesOf a=bytesOf b):a=b:=by rw [← aIp a,h,aIp]
theorem aBB (s:ByteArray) (a b:Nat):bytesOf (s.extract a b)=((bytesOf s).drop a).take (b - a):=by
 unfold bytesOf
 rw [ByteArray.data_extract,Array.toList_extract,List.extract_eq_take_drop,← List.map_drop,← List.map_take]
def V (a:ByteArray):Nat:=(val 256 (bytesOf a)).toNat
theorem aIK (a:ByteArray):(V a:Int)=val 256 (bytesOf a):=Int.toNat_of_nonneg (aAz (by decide) (aDM a))
theorem aLP (a:ByteArray):V a < 256 ^ a.size:=by
 have:=aBs (B:=256) (by decide) (aDM a)
 rw [← aIK,bytesOf_length] at this
 exact Int.ofNat_lt.1 (by rw [Int.natCast_pow];exact this)
def nb (n:Nat):List Int:=if h:n=0 then [] else ((n % 256:Nat):Int)::nb (n / 256)
 termination_by n
 decreasing_by omega
theorem aCD:nb 0=[]:=by rw [nb,dif_pos rfl]
theorem aFr {n:Nat} (h:n≠0):nb n=((n % 256:Nat):Int)::nb (n / 256):=by rw [nb,dif_neg h]
theorem aCv (n:Nat):Dig 256 (nb n):=by
 induction n using Nat.strongRecOn with
 | _ n ih =>
  by_cases h:n=0
  ·rw [h,aCD]
   exact aCB _
  ·rw [aFr h,aAB]
   exact ⟨by omega,ih _ (by omega)⟩
theorem aBY (n:Nat):val 256 (nb n)=n:=by
 induction n using Nat.strongRecOn with
 | _ n ih =>
  by_cases h:n=0
  ·rw [h,aCD]
   rfl
  ·rw [aFr h,val,ih _ (by omega)]
   omega
def N (n:Nat):ByteArray:=strOfNums (nb n)
theorem aAP (n:Nat):bytesOf (N n)=nb n:=aIq (aCv n)
theorem V_N (n:Nat):V (N n)=n:=by
 unfold V
 rw [aAP,aBY,Int.toNat_natCast]
theorem aLQ {a b:Nat}:N a=N b ↔ a=b:=⟨fun h=>by rw [← V_N a,h,V_N],fun h=>by rw [h]⟩
theorem aPX (l:List Int) (h:Dig 256 l) (hl:∀ x,l.getLast?=some x→x≠0):nb (val 256 l).toNat=l:=by
 induction l with
 | nil=>exact aCD
 | cons d r ih =>
  rw [aAB] at h
  have hr:=aAz (B:=256) (by decide) h.2
  have ih':nb (val 256 r).toNat=r:=ih h.2 (fun x hx=>hl x (by
   cases r with
   | nil=>cases hx
   | cons e s=>rw [List.getLast?_cons_cons];exact hx))
  have hne:(val 256 (d::r)).toNat≠0:=by
   rw [val]
   intro hz
   have h0:val 256 r=0∧d=0:=by omega
   rw [h0.1,Int.toNat_zero,aCD] at ih'
   subst ih'
   exact hl d rfl h0.2
  rw [aFr hne]
  have e1:(((val 256 (d::r)).toNat % 256:Nat):Int)=d:=by rw [val];omega
  have e2:(val 256 (d::r)).toNat / 256=(val 256 r).toNat:=by rw [val];omega
  rw [e1,e2,ih']
theorem N_V {a:ByteArray} (h:a.size=0∨rd (bytesOf a) ((a.size - 1:Nat):Int)≠0):N (V a)=a:=by
 apply bytes_inj
 rw [aAP]
 unfold V
 refine aPX _ (aDM a) fun x hx=>?_
 rw [List.getLast?_eq_getElem?,bytesOf_length] at hx
 rcases h with h | h
 ·rw [List.getElem?_eq_none (by rw [bytesOf_length];omega)] at hx
  cases hx
 ·rw [aBa,List.getD_eq_getElem?_getD,hx] at h
  exact h
theorem aFs:N 0=(⟨#[]⟩:ByteArray):=by
 unfold N
 rw [aCD]
 rfl
theorem aMN (n s:Nat):(nb n).length≤s ↔ n < 256 ^ s:=by
 induction s generalizing n with
 | zero =>
  by_cases h:n=0
  ·rw [h,aCD];simp
  ·rw [aFr h,List.length_cons,Nat.pow_zero]
   omega
 | succ s ih =>
  by_cases h:n=0
  ·rw [h,aCD]
   simp only [List.length_nil,Nat.zero_le,true_iff]
   exact Nat.pow_pos (by decide)
  ·rw [aFr h,List.length_cons,Nat.pow_succ,Nat.add_le_add_iff_right,ih]
   omega
theorem aCT (n s:Nat):(N n).size≤s ↔ n < 256 ^ s:=by rw [← bytesOf_length,aAP,aMN]
theorem aJM {n:Nat} {a:ByteArray} (h:n≤V a):(N n).size≤a.size:=(aCT _ _).2 (Nat.lt_of_le_of_lt h (aLP a))
end Go.Proofs.YtkkjlpfomofiaaaGreatDoor.NatA
