import Derived.Test.YtkkjlpfomofiaaaGreatDoorNatI
import Derived.Test.YtkkjlpfomofiaaaGreatDoorPxNatFormat
import Derived.Test.YtkkjlpfomofiaaaGreatDoorPx0
import Derived.Test.YtkkjlpfomofiaaaGreatDoorPxNA
import Derived.Test.YtkkjlpfomofiaaaGreatDoorPxNB
import Derived.Test.YtkkjlpfomofiaaaGreatDoorXQ
import Derived.Lib.Repeat
namespace Go.Proofs.YtkkjlpfomofiaaaGreatDoor.NatJ
open Go Go.RowKit YtkkjlpfomofiaaaGreatDoorW.PrintWords P NatA NatB NatC NatD NatE NatI
theorem ev_normalize (a:ByteArray) (ha:a.size≤67108864):Ev (fun k=>nat_Normalize.f k a) (N (V a)):=⟨_,fun k hk=>aBu a (by omega) k hk⟩
theorem aPL (a b:ByteArray) (ha:a.size≤67108864) (hb:b.size≤67108864):Ev (fun k=>nat_Cmp.f k a b) (aD0 (V a) (V b)):=⟨_,fun k hk=>aOz a b (by omega) (by omega) k hk⟩
theorem aPM (a b:ByteArray) (ha:a.size≤67108864) (hb:b.size≤67108864):Ev (fun k=>nat_Div.f k a b) (aC7 (V a) (V b)):=⟨_,fun k hk=>aQ2 a b ha hb k hk⟩
theorem aPN (a:ByteArray) (ha:a.size≤67108864):Ev (fun k=>nat_Uint64.f k a) (aCY (V a)):=⟨_,fun k hk=>aNP a (by omega) k hk⟩
theorem aPa (n:Nat) (h:n < 18446744073709551616):Ev (fun k=>nat_FromUint64.f k n) (N n):=⟨25,fun k hk=>aFo n h k hk⟩
theorem aNN (a:ByteArray) (ha:a.size≤67108864):Ev (fun k=>nat_limbs.f k a) (lb (V a)):=⟨_,fun k hk=>aFC a (by omega) k hk⟩
def text (n:Nat):ByteArray:=⟨(Lib.decDigits n).toArray⟩
theorem aFm (a b:List UInt8):(⟨a.toArray⟩:ByteArray)++⟨b.toArray⟩=⟨(a++b).toArray⟩:=by
 apply ByteArray.ext
 rw [ByteArray.data_append]
 simp
theorem aKI (a:List UInt8):(⟨a.toArray⟩:ByteArray).size=a.length:=by simp [ByteArray.size]
theorem aJC (a b c:ByteArray):a++b++c=a++(b++c):=by
 apply ByteArray.ext
 simp only [ByteArray.data_append]
 exact Array.append_assoc
theorem aB6 (j:Nat):∀ r,r < 10 ^ (j+1)→Lib.nDigits r≤j+1:=by
 induction j with
 | zero =>
  intro r h
  rw [Lib.nDigits_small (by omega)]
  omega
 | succ j ih =>
  intro r h
  by_cases h10:r < 10
  ·rw [Lib.nDigits_small h10]
   omega
  ·rw [Lib.nDigits_big h10]
   have:=ih (r / 10) (by rw [Nat.pow_succ] at h;omega)
   omega
theorem aMF (j:Nat):∀ h r,0 < h→r < 10 ^ (j+1)→Lib.decDigits (h*10 ^ (j+1)+r)=Lib.decDigits h++(List.replicate (j+1 - Lib.nDigits r) 48++Lib.decDigits r):=by
 induction j with
 | zero =>
  intro h r h0 hr
  rw [Lib.decDigits,dif_neg (by omega),Lib.nDigits_small (by omega),Lib.decDigits_one (i:=r) (by omega),show (h*10 ^ (0+1)+r) / 10=h by omega,show (h*10 ^ (0+1)+r) % 10=r by omega]
  rfl
 | succ j ih =>
  intro h r h0 hr
  have hp:h*10 ^ (j+1+1)=10*(h*10 ^ (j+1)):=by rw [Nat.pow_succ 10 (j+1)];grind
  have hp1:0 < h*10 ^ (j+1):=Nat.mul_pos h0 (Nat.pow_pos (by decide))
  have hr':r / 10 < 10 ^ (j+1):=by rw [Nat.pow_succ] at hr;omega
  rw [Lib.decDigits,dif_neg (by omega),hp,show (10*(h*10 ^ (j+1))+r) / 10=h*10 ^ (j+1)+r / 10 by omega,show (10*(h*10 ^ (j+1))+r) % 10=r % 10 by omega,ih h (r / 10) h0 hr']
  by_cases h10:r < 10
  ·have e0:Lib.decDigits 0=[48]:=Lib.decDigits_one (i:=0) (by decide)
   rw [Lib.nDigits_small h10,Lib.decDigits_one h10,show r / 10=0 by omega,Lib.nDigits_small (u:=0) (by decide),e0,show r % 10=r by omega,show j+1+1 - 1=j+1 - 1+1 by omega,List.replicate_succ']
   simp
  ·rw [Lib.nDigits_big h10,show j+1+1 - (Lib.nDigits (r / 10)+1)=j+1 - Lib.nDigits (r / 10) by omega]
   have ed:Lib.decDigits r=Lib.decDigits (r / 10)++[UInt8.ofNat (48+r % 10)]:=by rw [Lib.decDigits,dif_neg h10]
   rw [ed]
   simp
theorem aGV:∀ {x y:List Int},Dig 4294967296 x→Dig 4294967296 y→x.length=y.length→val 4294967296 x=val 4294967296 y→x=y
 | [],[],_,_,_,_=>rfl
 | [],_::_,_,_,h,_=>by cases h
 | _::_,[],_,_,h,_=>by cases h
 | a::x,b::y,hx,hy,h,hv=>by
  rw [aAB] at hx hy
  rw [val,val] at hv
  have h1:a=b∧val 4294967296 x=val 4294967296 y:=by omega
  rw [h1.1,aGV hx.2 hy.2 (by simpa using h) h1.2]
theorem aKJ (x4:ByteArray) (x6:Int) (R:ByteArray) (n:Nat):∀ q:List Int,q.length=n→n≤268435456→Dig 4294967296 q→Ev (fun k=>nat_Format.j2 k x4 (lb (val 4294967296 q).toNat) x6) R→Ev (fun k=>nat_Format.l1 k x4 q x6) R:=by
 induction n with
 | zero =>
  intro q hq hs hd h
  obtain rfl:q=[]:=List.length_eq_zero_iff.1 hq
  refine Ev.step (fun k=>by rw [nat_Format.l1,if_neg (by simp)]) ?_
  rw [show val 4294967296 ([]:List Int)=0 from rfl,Int.toNat_zero,aBU] at h
  exact h
 | succ n ih =>
  intro q hq hs hd h
  have hr:=aAt hd (i:=n) (by omega)
  have hv:=aAg 4294967296 q n
  rw [List.take_of_length_le (l:=q) (by omega)] at hv
  refine Ev.step (fun k=>by rw [nat_Format.l1,if_pos (by omega),hq,w64 (by omega) (by omega),if_pos (by omega),if_pos (by omega),show ((n+1:Nat):Int) - 1=(n:Int) by omega]) ?_
  by_cases h0:rd q (n:Int)=0
  ·refine Ev.congr (fun k=>by rw [if_pos h0,if_pos (by omega),Int.toNat_natCast]) ?_
   rw [h0,Int.mul_zero,Int.add_zero] at hv
   exact ih (q.take n) (by rw [List.length_take];omega) (by omega) (aAx hd n) (by rw [← hv];exact h)
  ·refine Ev.congr (fun k=>if_neg h0) ?_
   rw [aJL q hd (Or.inr (by
    have h1:=aO2 (by decide) hd (i:=n) (by omega)
    have h2:(0:Int) < 4294967296 ^ n:=Int.pow_pos (by decide)
    have h3:=Int.mul_le_mul_of_nonneg_left (show 1≤rd q (n:Int) by omega) (Int.le_of_lt h2)
    rw [hq,Nat.add_sub_cancel]
    omega))] at h
   exact h
theorem aKK (n:Nat) (hl:(lb n).length≤67108864):∃ z,z.length=(lb n).length∧Dig 4294967296 z∧val 4294967296 z=(n:Int) / 1000000000∧Ev (fun k=>nat_short.f k (lb n) 1000000000) (z,((n % 1000000000:Nat):Int)):=by
 obtain ⟨z,z1,z2,z3,_⟩:=aH9 (lb n) (aBA n) 1000000000 (by omega) (by omega) _ (Nat.le_refl _)
 refine ⟨z,z1,z2,by rw [z3,aCt],(lb n).length+1,fun k hk=>?_⟩
 obtain ⟨z',y1,y2,y3,y4⟩:=aH9 (lb n) (aBA n) 1000000000 (by omega) (by omega) k hk
 show nat_short.f k (lb n) 1000000000=_
 rw [y4,aGV y2 z2 (by omega) (by rw [y3,z3]),aCt]
 rfl
theorem aLL (n:Nat) (h:n < 18446744073709551616):X.strconv_FormatUint.f (n:Int) 10=some (text n):=by
 unfold X.strconv_FormatUint.f text
 rw [if_pos (by omega),Int.toNat_natCast]
theorem aAR (n:Nat):(text n).size=Lib.nDigits n:=by unfold text;rw [aKI,Lib.decDigits_length]
theorem aPb (m:Nat):∀ (n:Nat) (out:ByteArray),n < 1000000000 ^ (m+1)→out.size+9*m≤1099511627776→(lb n).length≤67108864→Ev (fun k=>nat_Format.l0 k (lb n) out) (text n++out):=by
 induction m with
 | zero =>
  intro n out hn ho hl
  obtain ⟨z,z1,z2,z3,hz⟩:=aKK n hl
  refine Ev.step (fun k=>by rw [nat_Format.l0]) (Ev.bind hz ?_)
  refine aKJ out _ _ z.length z rfl (by omega) z2 ?_
  rw [z3]
  dsimp only
  have h9:n < 1000000000:=by omega
  rw [show (n:Int) / 1000000000=0 by omega,Int.toNat_zero,aBU,Nat.mod_eq_of_lt h9]
  refine Ev.step (fun k=>by rw [nat_Format.j2,wu (by omega) (by omega),aLL n (by omega),Option.bind_some,if_pos (show (([]:List Int).length:Int)=0 from rfl),if_pos (by rw [aAR];have:=aB6 8 n h9;omega)]) (Ev.now _)
 | succ m ih =>
  intro n out hn ho hl
  obtain ⟨z,z1,z2,z3,hz⟩:=aKK n hl
  refine Ev.step (fun k=>by rw [nat_Format.l0]) (Ev.bind hz ?_)
  refine aKJ out _ _ z.length z rfl (by omega) z2 ?_
  rw [z3]
  dsimp only
  have hr:n % 1000000000 < 1000000000:=Nat.mod_lt _ (by decide)
  have hq:((n:Int) / 1000000000).toNat=n / 1000000000:=aE4 n 1000000000
  have hd:=aB6 8 (n % 1000000000) hr
  rw [hq]
  by_cases h9:n < 1000000000
  ·rw [Nat.div_eq_of_lt h9,aBU,Nat.mod_eq_of_lt h9]
   refine Ev.step (fun k=>by rw [nat_Format.j2,wu (by omega) (by omega),aLL n (by omega),Option.bind_some,if_pos (show (([]:List Int).length:Int)=0 from rfl),if_pos (by rw [aAR];have:=aB6 8 n h9;omega)]) (Ev.now _)
  ·have hne:(lb (n / 1000000000)).length≠0:=fun e=>by have:=aJK.1 e;omega
   have hrep:X.strings_Repeat.f (⟨#[48]⟩:ByteArray) (9 - ((text (n % 1000000000)).size:Int))=some ⟨(List.replicate (9 - Lib.nDigits (n % 1000000000)) 48).toArray⟩:=by
    unfold X.strings_Repeat.f
    have e:(9 - ((text (n % 1000000000)).size:Int)).toNat=9 - Lib.nDigits (n % 1000000000):=by rw [aAR];omega
    rw [e,if_pos ⟨by rw [aAR];omega,by omega,by rw [show (⟨#[48]⟩:ByteArray).size=1 from rfl];omega⟩]
    have:=Lib.repeatL_replicate 48 1 (9 - Lib.nDigits (n % 1000000000))
    rw [Nat.mul_one] at this
    rw [← this]
    rfl
   have hout:text (n / 1000000000)++((⟨(List.replicate (9 - Lib.nDigits (n % 1000000000)) 48).toArray⟩:ByteArray)++text (n % 1000000000)++out)=text n++out:=by
    rw [← aJC,← aJC]
    congr 1
    unfold text
    rw [aFm,aFm,List.append_assoc,← aMF 8 (n / 1000000000) (n % 1000000000) (by omega) hr,show n / 1000000000*10 ^ (8+1)+n % 1000000000=n by omega]
   have hsz:((⟨(List.replicate (9 - Lib.nDigits (n % 1000000000)) 48).toArray⟩:ByteArray)++text (n % 1000000000)).size=9:=by
    unfold text
    rw [aFm,aKI,List.length_append,List.length_replicate,Lib.decDigits_length]
    omega
   have hsz1:((⟨(List.replicate (9 - Lib.nDigits (n % 1000000000)) 48).toArray⟩:ByteArray)).size+(text (n % 1000000000)).size=9:=by rw [← ByteArray.size_append];exact hsz
   have:=ih (n / 1000000000) ((⟨(List.replicate (9 - Lib.nDigits (n % 1000000000)) 48).toArray⟩:ByteArray)++text (n % 1000000000)++out) (by
    rw [Nat.pow_succ] at hn
    exact Nat.div_lt_of_lt_mul (by rw [Nat.mul_comm];exact hn)) (by rw [ByteArray.size_append,hsz];omega) (by have:=aKN (show n / 1000000000≤n by omega);omega)
   rw [hout] at this
   refine Ev.step (fun k=>by rw [nat_Format.j2,wu (by omega) (by omega),aLL _ (by omega),Option.bind_some,if_neg (by omega),w64 (by rw [aAR];omega) (by rw [aAR];omega),hrep,Option.bind_some,if_pos (by omega),if_pos (by rw [hsz];omega)]) this
theorem aMG (a:ByteArray) (ha:a.size≤67108864):Ev (fun k=>nat_Format.f k a) (text (V a)):=by
 refine Ev.bind (aNN a ha) ?_
 have h1:=aLP a
 have h2:256 ^ a.size≤1000000000 ^ (a.size+1):=Nat.le_trans (Nat.pow_le_pow_left (by decide) _) (Nat.pow_le_pow_right (by decide) (by omega))
 have h3:text (V a)++(⟨#[]⟩:ByteArray)=text (V a):=by apply ByteArray.ext;rw [ByteArray.data_append];simp
 have:=aPb a.size (V a) (⟨#[]⟩:ByteArray) (by omega) (by rw [show (⟨#[]⟩:ByteArray).size=0 from rfl];omega) (by have:=aC9 a;omega)
 rw [h3] at this
 exact this
end Go.Proofs.YtkkjlpfomofiaaaGreatDoor.NatJ
