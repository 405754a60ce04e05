import Derived.Test.YtkkjlpfomofiaaaGreatDoorNatH
import Derived.Test.YtkkjlpfomofiaaaGreatDoorPxND
import Derived.Test.YtkkjlpfomofiaaaGreatDoorPxNU
import Derived.Lib.ItoaNum
namespace Go.Proofs.YtkkjlpfomofiaaaGreatDoor.NatI
open Go Go.RowKit YtkkjlpfomofiaaaGreatDoorW.PrintWords P NatA NatB NatC NatD NatE NatF NatG NatH
theorem aPO (x:Nat) (h0:x≠0) (h1:x < 4294967296):1≤Lib.bitLen x∧Lib.bitLen x≤32∧2 ^ (Lib.bitLen x - 1)≤x∧x < 2 ^ Lib.bitLen x:=by
 obtain ⟨a,b,c⟩:=Lib.bitLenAux_bounds 64 x (by omega) h0
 have hL:Lib.bitLen x≤32:=by
  rcases Nat.lt_or_ge 32 (Lib.bitLen x) with h | h
  ·have h2:2 ^ 32≤2 ^ (Lib.bitLenAux 64 x - 1):=Nat.pow_le_pow_right (by decide) (by unfold Lib.bitLen at h;omega)
   omega
  ·exact h
 exact ⟨a,hL,b,c⟩
theorem aPP (u d:List Int) (hu:Dig 4294967296 u) (hd:Dig 4294967296 d) (m:Nat) (hdl:d.length=m+2) (htop:0 < rd d ((m+1:Nat):Int)) (hul:m+2≤u.length) (hs:u.length≤67108864) (k:Nat) (hk:12*u.length+40≤k) :
  ∃ q r,q.length≤u.length∧r.length=m+2∧Dig 4294967296 q∧Dig 4294967296 r∧val 4294967296 q=val 4294967296 u / val 4294967296 d∧val 4294967296 r=val 4294967296 u % val 4294967296 d∧nat_long.f k u d=some (q,r):=by
 have ht:=aAt hd (i:=m+1) (by omega)
 obtain ⟨t,htt⟩:=Int.eq_ofNat_of_zero_le ht.1
 rw [htt] at ht htop
 obtain ⟨b1,b2,b3,b4⟩:=aPO t (by omega) (by omega)
 obtain ⟨s,hbs⟩:∃ s,s=32 - Lib.bitLen t:=⟨_,rfl⟩
 have hs32:s < 32:=by omega
 have p1:2 ^ (Lib.bitLen t - 1)*2 ^ s=2147483648:=by rw [← Nat.pow_add,show Lib.bitLen t - 1+s=31 by omega]
 have p2:2 ^ Lib.bitLen t*2 ^ s=4294967296:=by rw [← Nat.pow_add,show Lib.bitLen t+s=32 by omega]
 have q1:2147483648≤t*2 ^ s:=by rw [← p1];exact Nat.mul_le_mul_right _ b3
 have q2:(t+1)*2 ^ s≤4294967296:=by rw [← p2];exact Nat.mul_le_mul_right _ b4
 have q0:∀ z:Nat,((z*2 ^ s:Nat):Int)=z*2 ^ s:=fun z=>by rw [Int.natCast_mul,Int.natCast_pow];rfl
 have q1':(2147483648:Int)≤t*2 ^ s:=by rw [← q0];exact Int.ofNat_le.2 q1
 have q2':((t:Int)+1)*2 ^ s≤4294967296:=by rw [show (t:Int)+1=((t+1:Nat):Int) by omega,← q0];exact Int.ofNat_le.2 q2
 obtain ⟨t1,t2,t3⟩:=aDn s hs32
 obtain ⟨e,e1,e2,e3,e4⟩:=aKM d hd s hs32 (by omega) k (by omega)
 obtain ⟨f,f1,f2,f3,f4⟩:=aKM u hu s hs32 (by omega) k (by omega)
 have hB1:(0:Int) < 4294967296 ^ (m+1):=Int.pow_pos (by decide)
 have dD:val 4294967296 d=t*4294967296 ^ (m+1)+val 4294967296 (d.take (m+1)):=by
  have g2:=aAg 4294967296 d (m+1)
  rw [List.take_of_length_le (by omega),htt] at g2
  rw [g2,Int.mul_comm]
  omega
 have dl0:=aAz (by decide) (aAx hd (m+1))
 have dl1:=aBs (by decide) (aAx hd (m+1))
 rw [List.length_take,Nat.min_eq_left (by omega)] at dl1
 have hpB:(4294967296:Int) ^ (m+2)=4294967296*4294967296 ^ (m+1):=aC8 (m+1)
 have hDup:val 4294967296 d*2 ^ s < 4294967296 ^ (m+2):=by
  have h1:val 4294967296 d+1≤((t:Int)+1)*4294967296 ^ (m+1):=by rw [Int.add_mul,Int.one_mul];omega
  have h2:=Int.mul_le_mul_of_nonneg_right h1 (show (0:Int)≤2 ^ s by omega)
  have h3:=Int.mul_le_mul_of_nonneg_right q2' (Int.le_of_lt hB1)
  have h4:((t:Int)+1)*4294967296 ^ (m+1)*2 ^ s=((t:Int)+1)*2 ^ s*4294967296 ^ (m+1):=by grind
  rw [Int.add_mul,Int.one_mul] at h2
  omega
 have hDlo:2147483648*4294967296 ^ (m+1)≤val 4294967296 d*2 ^ s:=by
  have h1:(t:Int)*4294967296 ^ (m+1)≤val 4294967296 d:=by omega
  have h2:=Int.mul_le_mul_of_nonneg_right h1 (show (0:Int)≤2 ^ s by omega)
  have h3:=Int.mul_le_mul_of_nonneg_right q1' (Int.le_of_lt hB1)
  have h4:(t:Int)*4294967296 ^ (m+1)*2 ^ s=(t:Int)*2 ^ s*4294967296 ^ (m+1):=by grind
  omega
 have hlow:=aFA e2 (m:=m+2) (by omega) (by rw [e3];exact hDup)
 rw [e3] at hlow
 obtain ⟨y,hy⟩:∃ y,y=e.take (m+2):=⟨_,rfl⟩
 rw [← hy] at hlow
 have hyl:y.length=m+2:=by rw [hy,List.length_take];omega
 have hyd:Dig 4294967296 y:=by rw [hy];exact aAx e2 _
 have hytop:2147483648≤rd y ((m+1:Nat):Int):=by
  have g2:=aAg 4294967296 y (m+1)
  rw [List.take_of_length_le (by omega),hlow.1] at g2
  have g3:=aBs (by decide) (aAx hyd (m+1))
  rw [List.length_take,Nat.min_eq_left (by omega)] at g3
  have g4:(2147483648:Int)*4294967296 ^ (m+1) < (rd y ((m+1:Nat):Int)+1)*4294967296 ^ (m+1):=by
   rw [Int.add_mul,Int.one_mul,Int.mul_comm (rd y _)]
   omega
  have:=Int.lt_of_mul_lt_mul_right g4 (Int.le_of_lt hB1)
  omega
 obtain ⟨ln,hln⟩:∃ ln,ln=u.length+1 - (m+2):=⟨_,rfl⟩
 have hfd:val 4294967296 (f.drop ln) < val 4294967296 y:=by
  have g1:=aB2 4294967296 f ln (by omega)
  have g2:=aAz (by decide) (aAx f2 ln)
  have g3:=aBs (by decide) hu
  have g4:(0:Int) < 4294967296 ^ ln:=Int.pow_pos (by decide)
  have g5:(4294967296:Int) ^ u.length=4294967296 ^ ln*4294967296 ^ (m+1):=by rw [← Int.pow_add];congr 1;omega
  have g6:=Int.mul_lt_mul_of_pos_right g3 (show (0:Int) < 2 ^ s by omega)
  have g7:val 4294967296 (f.drop ln)*4294967296 ^ ln < (4294967296 ^ (m+1)*2 ^ s)*4294967296 ^ ln:=by
   have g5':(4294967296:Int) ^ ln*4294967296 ^ (m+1)*2 ^ s=4294967296 ^ (m+1)*2 ^ s*4294967296 ^ ln:=by rw [Int.mul_assoc,Int.mul_comm]
   rw [g5,g5'] at g6
   rw [f3] at g1
   rw [Int.mul_comm]
   omega
  have g8:=Int.lt_of_mul_lt_mul_right g7 (Int.le_of_lt g4)
  have g9:=Int.mul_le_mul_of_nonneg_left t2 (Int.le_of_lt hB1)
  rw [hlow.1]
  omega
 obtain ⟨q,r,r1,r2,r3,r4,r5,r6,r7⟩:=aQ4 y hyd m hyl hytop s hs32 ln (by omega) (val 4294967296 f) ln 0 f (List.replicate ln 0) (by omega) (by omega) List.length_replicate f2 (aAF (by decide) _) (fun j _=>aCu _ _) hfd (by rw [aBZ,Int.zero_mul,Int.zero_add]) k (by omega)
 rw [hlow.1,f3] at r5 r6
 have hs0:(0:Int) < 2 ^ s:=by omega
 refine ⟨q,r,by omega,r4,r2,r3,by rw [r5,Int.mul_ediv_mul_of_pos_left _ _ hs0],?_,?_⟩
 ·rw [r6,Int.mul_comm (val 4294967296 u),Int.mul_comm (val 4294967296 d),Int.mul_emod_mul_of_pos _ _ hs0,Int.mul_ediv_cancel_left _ (by omega)]
 ·have hmx:(mx (wrap64 (((u.length+1:Nat):Int) - ((m+2:Nat):Int))) 0)=(ln:Int):=by rw [w64 (by omega) (by omega)];unfold mx;split<;>omega
  have hlz:X.bits_LeadingZeros32.f ((t:Nat):Int)=some (s:Int):=by
   unfold X.bits_LeadingZeros32.f
   rw [if_pos (by omega),Int.toNat_natCast]
   congr 1
   omega
  unfold nat_long.f
  rw [hdl,w64 (i:=((m+2:Nat):Int) - 1) (by omega) (by omega),if_pos (by omega),if_pos (by omega),show ((m+2:Nat):Int) - 1=((m+1:Nat):Int) by omega,htt,hlz,Option.bind_some,e4,Option.bind_some,e1,hdl,if_pos (by omega),if_pos (by omega),Int.toNat_natCast,← hy]
  rw [Option.bind_some,f4,Option.bind_some,hyl,f1,w64 (i:=((m+2:Nat):Int) - 1) (by omega) (by omega),if_pos (by omega),if_pos (by omega),hmx,if_pos (by omega),Int.toNat_natCast,if_pos (by omega),Option.bind_some,List.length_replicate,show ((m+2:Nat):Int) - 1=((m+1:Nat):Int) by omega]
  exact r7
def aC7 (x y:Nat):ByteArray × ByteArray × Bool:=if y=0 then ((⟨#[]⟩:ByteArray),(⟨#[]⟩:ByteArray),false) else (N (x / y),N (x % y),true)
theorem aE4 (x y:Nat):((x:Int) / (y:Int)).toNat=x / y:=by rw [← Int.natCast_ediv,Int.toNat_natCast]
theorem aLM (x y:Nat):((x:Int) % (y:Int)).toNat=x % y:=by rw [← Int.natCast_emod,Int.toNat_natCast]
theorem aQ2 (a b:ByteArray) (ha:a.size≤67108864) (hb:b.size≤67108864) (k:Nat) (hk:30*(a.size+b.size)+80≤k):nat_Div.f k a b=some (aC7 (V a) (V b)):=by
 have la:=aC9 a
 have lb':=aC9 b
 have hvb:=aCt (V b)
 have hva:=aCt (V a)
 unfold nat_Div.f
 rw [aFC b (by omega) k (by omega),Option.bind_some]
 by_cases h0:V b=0
 ·rw [if_pos (by rw [h0,aBU];rfl)]
  unfold aC7
  rw [if_pos h0]
 ·have hl0:(lb (V b)).length≠0:=fun e=>h0 (aJK.1 e)
  rw [if_neg (by omega),aOz a b (by omega) (by omega) k (by omega),Option.bind_some]
  unfold aC7
  rw [if_neg h0]
  by_cases hlt:V a < V b
  ·rw [if_pos (aJE.2 hlt),aBu a (by omega) k (by omega),Option.bind_some,Nat.div_eq_of_lt hlt,Nat.mod_eq_of_lt hlt,aFs]
  ·rw [if_neg (fun e=>hlt (aJE.1 e))]
   have hge:V b≤V a:=by omega
   have hlen:=aKN hge
   by_cases h1:(lb (V b)).length=1
   ·have hr0:0≤rd (lb (V b)) 0∧rd (lb (V b)) 0 < 4294967296:=aAt (aBA (V b)) (i:=0) (by omega)
    have hv1:val 4294967296 (lb (V b))=rd (lb (V b)) 0:=by
     have:=aAg 4294967296 (lb (V b)) 0
     rw [List.take_of_length_le (by omega)] at this
     rw [this]
     simp [val]
    rw [hvb] at hv1
    obtain ⟨z,z1,z2,z3,z4⟩:=aH9 (lb (V a)) (aBA _) (rd (lb (V b)) 0) (by rw [← hv1];constructor<;>omega) (by omega) k (by omega)
    have hm0:V a % V b < V b:=Nat.mod_lt _ (by omega)
    rw [if_pos (by omega),aFC a (by omega) k (by omega),Option.bind_some,if_pos (by omega),z4,Option.bind_some]
    dsimp only
    rw [aIJ z z2 (by omega) k (by omega),Option.bind_some,z3,hva,← hv1,← Int.natCast_emod,wu (by omega) (by omega),aFo (V a % V b) (by omega) k (by omega),Option.bind_some,aE4]
   ·obtain ⟨m,hm⟩:∃ m,(lb (V b)).length=m+2:=⟨(lb (V b)).length - 2,by omega⟩
    have htop:=aPV h0
    rw [show (lb (V b)).length - 1=m+1 by omega] at htop
    obtain ⟨q,r,q1,q2,q3,q4,q5,q6,q7⟩:=aPP (lb (V a)) (lb (V b)) (aBA _) (aBA _) m hm htop (by omega) (by omega) k (by omega)
    rw [if_neg (by omega),aFC a (by omega) k (by omega),Option.bind_some,q7,Option.bind_some]
    dsimp only
    rw [aIJ q q3 (by omega) k (by omega),Option.bind_some,aIJ r q4 (by omega) k (by omega),Option.bind_some,q5,q6,hva,hvb,aE4,aLM]
def aCY (x:Nat):Int × Bool:=if x < 18446744073709551616 then ((x:Int),true) else (0,false)
theorem aNO (n:Nat) (hs:(N n).size≤8) (r:Nat):∀ (i:Nat) (x:Int),i+r=(N n).size→x=val 256 ((nb n).take i)→∀ k,r+1≤k→nat_Uint64.l0 k (N n) x ((N n).size:Int) i=some ((n:Int),true):=by
 have hbl:(nb n).length=(N n).size:=by rw [← aAP,bytesOf_length]
 induction r with
 | zero =>
  intro i x hi hx k hk
  obtain ⟨k,rfl⟩:∃ m,k=m+1:=⟨k - 1,by omega⟩
  rw [nat_Uint64.l0,if_neg (by omega),hx,List.take_of_length_le (by omega),aBY]
 | succ r ih =>
  intro i x hi hx k hk
  obtain ⟨k,rfl⟩:∃ m,k=m+1:=⟨k - 1,by omega⟩
  have hb:=aMM (N n) (i:Int)
  have h0:=aAz (B:=256) (by decide) (aAx (aCv n) i)
  have h1:=aBs (B:=256) (by decide) (aAx (aCv n) i)
  rw [List.length_take,Nat.min_eq_left (by omega)] at h1
  have hp:(256:Int) ^ i=2 ^ (8*i):=by rw [Int.pow_mul];rfl
  have hp1:(2:Int) ^ (8*i)*256≤18446744073709551616:=by
   have:(2:Int) ^ (8*i)*2 ^ 8*2 ^ (56 - 8*i)=18446744073709551616:=by
    rw [← Int.pow_add,← Int.pow_add,show 8*i+8+(56 - 8*i)=64 by omega];rfl
   have h2:(1:Int)≤2 ^ (56 - 8*i):=Int.pow_pos (by decide)
   have h3:(0:Int)≤2 ^ (8*i)*2 ^ 8:=Int.le_of_lt (Int.mul_pos (Int.pow_pos (by decide)) (by decide))
   have:=Int.mul_le_mul_of_nonneg_left h2 h3
   omega
  have hp0:(0:Int) < 2 ^ (8*i):=Int.pow_pos (by decide)
  have hbm:0≤bt (N n) (i:Int)*2 ^ (8*i):=Int.mul_nonneg hb.1 (Int.le_of_lt hp0)
  have hbm2:(bt (N n) (i:Int)+1)*2 ^ (8*i)≤256*2 ^ (8*i):=Int.mul_le_mul_of_nonneg_right (by omega) (Int.le_of_lt hp0)
  rw [Int.add_mul,Int.one_mul] at hbm2
  have hn:val 256 ((nb n).take (i+1))=x+bt (N n) (i:Int)*2 ^ (8*i):=by
   rw [aAg,hx,hp,aEl,aAP,Int.mul_comm (rd _ _)]
  rw [nat_Uint64.l0,if_pos (by omega),if_pos (by omega),if_pos (by omega),w64 (i:=8*(i:Int)) (by omega) (by omega),if_pos (by omega),show 8*(i:Int)=((8*i:Nat):Int) by omega,wu hb.1 (by omega),aO1 _ _ (by omega),wu hbm (by omega),aJJ (8*i) (by omega) (by rw [hx,← hp];exact h1) (by rw [hx];rw [hp] at h1;omega) hb.1 (by omega),← hn,w64 (by omega) (by omega),show (i:Int)+1=((i+1:Nat):Int) by omega]
  exact ih (i+1) _ (by omega) rfl k (by omega)
theorem aNP (a:ByteArray) (ha:a.size≤268435456) (k:Nat) (hk:a.size+20≤k):nat_Uint64.f k a=some (aCY (V a)):=by
 unfold nat_Uint64.f aCY
 have h8:=aCT (V a) 8
 rw [aBu a (by omega) k (by omega),Option.bind_some]
 by_cases h:V a < 18446744073709551616
 ·rw [if_pos h,if_neg (by have:=h8.2 (by omega);omega)]
  exact aNO (V a) (h8.2 (by omega)) (N (V a)).size 0 0 (by omega) (by simp [val]) k (by have:=h8.2 (by omega);omega)
 ·rw [if_neg h,if_pos (by
   rcases Nat.lt_or_ge 8 (N (V a)).size with h' | h'
   ·omega
   ·exact absurd (h8.1 h') (by omega))]
end Go.Proofs.YtkkjlpfomofiaaaGreatDoor.NatI
