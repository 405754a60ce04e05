import Derived.Test.YtjefbecmeobegaaGreatDoorNatH
import Derived.Test.YtjefbecmeobegaaGreatDoorPxND
import Derived.Test.YtjefbecmeobegaaGreatDoorPxNU
import Derived.Lib.ItoaNum
namespace Go.Proofs.YtjefbecmeobegaaGreatDoor.NatI
open Go Go.RowKit YtjefbecmeobegaaGreatDoorW.PrintWords P NatA NatB NatC NatD NatE NatF NatG NatH
theorem aTW (x:Nat) (h0:x≠0) (h1:x < 4294967296):1<=Lib.bitLen x/\Lib.bitLen x<=32/\2 ^ (Lib.bitLen x - 1)<=x/\x < 2 ^ Lib.bitLen x:=by
 obtain ⟨a,b,c⟩:=Lib.bitLenAux_bounds 64 x kJ h0
 have hL:Lib.bitLen x<=32:=by
  rcases Nat.lt_or_ge 32 (Lib.bitLen x) with h | h
  ·have h2:2 ^ 32<=2 ^ (Lib.bitLenAux 64 x - 1):=Nat.pow_le_pow_right kQ (by unfold Lib.bitLen at h;omega)
   omega
  ·exact h
 exact ⟨a,hL,b,c⟩
theorem aTX (u d:List Int) (hu:Dig 4294967296 u) (hd:Dig 4294967296 d) (m:Nat) (hdl:d.length=m+2) (htop:0 < rd d ((m+1:Nat):Int)) (hul:m+2<=u.length) (hs:u.length<=67108864) (k:Nat) (hk:12*u.length+40<=k) :
  ∃ q r,q.length<=u.length/\r.length=m+2/\Dig 4294967296 q/\Dig 4294967296 r/\val 4294967296 q=val 4294967296 u / val 4294967296 d/\val 4294967296 r=val 4294967296 u % val 4294967296 d/\nat_long.f k u d=some (q,r):=by
 have ht:=aAA hd (i:=m+1) kJ
 obtain ⟨t,htt⟩:=Int.eq_ofNat_of_zero_le ht.1
 rw [htt] at ht htop
 obtain ⟨b1,b2,b3,b4⟩:=aTW t kJ kJ
 obtain ⟨s,hbs⟩:∃ s,s=32 - Lib.bitLen t:=⟨_,rfl⟩
 have hs32:s < 32:=by omega
 have p1:2 ^ (Lib.bitLen t - 1)*2 ^ s=2147483648:=by rw [<- Nat.pow_add,show Lib.bitLen t - 1+s=31 by omega]
 have p2:2 ^ Lib.bitLen t*2 ^ s=4294967296:=by rw [<- Nat.pow_add,show Lib.bitLen t+s=32 by omega]
 have q1:2147483648<=t*2 ^ s:=by rw [<- p1];exact Nat.mul_le_mul_right _ b3
 have q2:(t+1)*2 ^ s<=4294967296:=by rw [<- p2];exact Nat.mul_le_mul_right _ b4
 have q0:∀ z:Nat,((z*2 ^ s:Nat):Int)=z*2 ^ s:=λ z=>by rw [Int.natCast_mul,Int.natCast_pow];rfl
 have q1':(2147483648:Int)<=t*2 ^ s:=by rw [<- q0];exact Int.ofNat_le.2 q1
 have q2':((t:Int)+1)*2 ^ s<=4294967296:=by rw [show (t:Int)+1=((t+1:Nat):Int) by omega,<- q0];exact Int.ofNat_le.2 q2
 obtain ⟨t1,t2,t3⟩:=aFg s hs32
 obtain ⟨e,e1,e2,e3,e4⟩:=aN3 d hd s hs32 kJ k kJ
 obtain ⟨f,f1,f2,f3,f4⟩:=aN3 u hu s hs32 kJ k kJ
 have hB1:(0:Int) < 4294967296 ^ (m+1):=Int.pow_pos kQ
 have dD:val 4294967296 d=t*4294967296 ^ (m+1)+val 4294967296 (d.take (m+1)):=by
  have g2:=aAk 4294967296 d (m+1)
  rw [List.take_of_length_le kJ,htt] at g2
  rw [g2,Int.mul_comm]
  omega
 have dl0:=aA4 kQ (aAG hd (m+1))
 have dl1:=aBG kQ (aAG hd (m+1))
 rw [List.length_take,Nat.min_eq_left kJ] at dl1
 have hpB:(4294967296:Int) ^ (m+2)=4294967296*4294967296 ^ (m+1):=aEp (m+1)
 have hDup:val 4294967296 d*2 ^ s < 4294967296 ^ (m+2):=by
  have h1:val 4294967296 d+1<=((t:Int)+1)*4294967296 ^ (m+1):=by rw [Int.add_mul,Int.one_mul];omega
  have h2:=Int.mul_le_mul_of_nonneg_right h1 (show (0:Int)<=2 ^ s by omega)
  have h3:=Int.mul_le_mul_of_nonneg_right q2' (Int.le_of_lt hB1)
  have h4:((t:Int)+1)*4294967296 ^ (m+1)*2 ^ s=((t:Int)+1)*2 ^ s*4294967296 ^ (m+1):=by grind
  rw [Int.add_mul,Int.one_mul] at h2
  omega
 have hDlo:2147483648*4294967296 ^ (m+1)<=val 4294967296 d*2 ^ s:=by
  have h1:(t:Int)*4294967296 ^ (m+1)<=val 4294967296 d:=by omega
  have h2:=Int.mul_le_mul_of_nonneg_right h1 (show (0:Int)<=2 ^ s by omega)
  have h3:=Int.mul_le_mul_of_nonneg_right q1' (Int.le_of_lt hB1)
  have h4:(t:Int)*4294967296 ^ (m+1)*2 ^ s=(t:Int)*2 ^ s*4294967296 ^ (m+1):=by grind
  omega
 have hlow:=aIb e2 (m:=m+2) kJ (by rw [e3];exact hDup)
 rw [e3] at hlow
 obtain ⟨y,hy⟩:∃ y,y=e.take (m+2):=⟨_,rfl⟩
 rw [<- hy] at hlow
 have hyl:y.length=m+2:=by rw [hy,List.length_take];omega
 have hyd:Dig 4294967296 y:=by rw [hy];exact aAG e2 _
 have hytop:2147483648<=rd y ((m+1:Nat):Int):=by
  have g2:=aAk 4294967296 y (m+1)
  rw [List.take_of_length_le kJ,hlow.1] at g2
  have g3:=aBG kQ (aAG hyd (m+1))
  rw [List.length_take,Nat.min_eq_left kJ] at g3
  have g4:(2147483648:Int)*4294967296 ^ (m+1) < (rd y ((m+1:Nat):Int)+1)*4294967296 ^ (m+1):=by
   rw [Int.add_mul,Int.one_mul,Int.mul_comm (rd y _)]
   omega
  have:=Int.lt_of_mul_lt_mul_right g4 (Int.le_of_lt hB1)
  omega
 obtain ⟨ln,hln⟩:∃ ln,ln=u.length+1 - (m+2):=⟨_,rfl⟩
 have hfd:val 4294967296 (f.drop ln) < val 4294967296 y:=by
  have g1:=aCm 4294967296 f ln kJ
  have g2:=aA4 kQ (aAG f2 ln)
  have g3:=aBG kQ hu
  have g4:(0:Int) < 4294967296 ^ ln:=Int.pow_pos kQ
  have g5:(4294967296:Int) ^ u.length=4294967296 ^ ln*4294967296 ^ (m+1):=by rw [<- Int.pow_add];congr 1;omega
  have g6:=Int.mul_lt_mul_of_pos_right g3 (show (0:Int) < 2 ^ s by omega)
  have g7:val 4294967296 (f.drop ln)*4294967296 ^ ln < (4294967296 ^ (m+1)*2 ^ s)*4294967296 ^ ln:=by
   have g5':(4294967296:Int) ^ ln*4294967296 ^ (m+1)*2 ^ s=4294967296 ^ (m+1)*2 ^ s*4294967296 ^ ln:=by rw [Int.mul_assoc,Int.mul_comm]
   rw [g5,g5'] at g6
   rw [f3] at g1
   rw [Int.mul_comm]
   omega
  have g8:=Int.lt_of_mul_lt_mul_right g7 (Int.le_of_lt g4)
  have g9:=Int.mul_le_mul_of_nonneg_left t2 (Int.le_of_lt hB1)
  rw [hlow.1]
  omega
 obtain ⟨q,r,r1,r2,r3,r4,r5,r6,r7⟩:=aUI y hyd m hyl hytop s hs32 ln kJ (val 4294967296 f) ln 0 f (List.replicate ln 0) kJ kJ List.length_replicate f2 (aAU kQ _) (λ j _=>aDX _ _) hfd (by rw [aCN,Int.zero_mul,Int.zero_add]) k kJ
 rw [hlow.1,f3] at r5 r6
 have hs0:(0:Int) < 2 ^ s:=by omega
 refine ⟨q,r,by omega,r4,r2,r3,by rw [r5,Int.mul_ediv_mul_of_pos_left _ _ hs0],?_,?_⟩
 ·rw [r6,Int.mul_comm (val 4294967296 u),Int.mul_comm (val 4294967296 d),Int.mul_emod_mul_of_pos _ _ hs0,Int.mul_ediv_cancel_left _ kJ]
 ·have hmx:(mx (wrap64 (((u.length+1:Nat):Int) - ((m+2:Nat):Int))) 0)=(ln:Int):=by rw [w64 kJ kJ];unfold mx;split<;>omega
  have hlz:X.bits_LeadingZeros32.f ((t:Nat):Int)=some (s:Int):=by
   unfold X.bits_LeadingZeros32.f
   rw [if_pos kJ,Int.toNat_natCast]
   congr 1
   omega
  unfold nat_long.f
  rw [hdl,w64 (i:=((m+2:Nat):Int) - 1) kJ kJ,if_pos kJ,if_pos kJ,show ((m+2:Nat):Int) - 1=((m+1:Nat):Int) by omega,htt,hlz,Option.bind_some,e4,Option.bind_some,e1,hdl,if_pos kJ,if_pos kJ,Int.toNat_natCast,<- hy]
  rw [Option.bind_some,f4,Option.bind_some,hyl,f1,w64 (i:=((m+2:Nat):Int) - 1) kJ kJ,if_pos kJ,if_pos kJ,hmx,if_pos kJ,Int.toNat_natCast,if_pos kJ,Option.bind_some,List.length_replicate,show ((m+2:Nat):Int) - 1=((m+1:Nat):Int) by omega]
  exact r7
def aC5 (x y:Nat):ByteArray × ByteArray × Bool:=if y=0 then ((⟨#[]⟩:ByteArray),(⟨#[]⟩:ByteArray),false) else (N (x / y),N (x % y),true)
theorem aGF (x y:Nat):((x:Int) / (y:Int)).toNat=x / y:=by rw [<- Int.natCast_ediv,Int.toNat_natCast]
theorem aO4 (x y:Nat):((x:Int) % (y:Int)).toNat=x % y:=by rw [<- Int.natCast_emod,Int.toNat_natCast]
theorem aUG (a b:ByteArray) (ha:a.size<=67108864) (hb:b.size<=67108864) (k:Nat) (hk:30*(a.size+b.size)+80<=k):nat_Div.f k a b=some (aC5 (V a) (V b)):=by
 have la:=aDM a
 have lb':=aDM b
 have hvb:=aC7 (V b)
 have hva:=aC7 (V a)
 unfold nat_Div.f
 rw [aIe b kJ k kJ,Option.bind_some]
 by_cases h0:V b=0
 ·rw [if_pos (by rw [h0,aDx];rfl)]
  unfold aC5
  rw [if_pos h0]
 ·have hl0:(lb (V b)).length≠0:=λ e=>h0 (aMp.1 e)
  rw [if_neg kJ,aSf a b kJ kJ k kJ,Option.bind_some]
  unfold aC5
  rw [if_neg h0]
  by_cases hlt:V a < V b
  ·rw [if_pos (aEr.2 hlt),aCs a kJ k kJ,Option.bind_some,Nat.div_eq_of_lt hlt,Nat.mod_eq_of_lt hlt,aCn]
  ·rw [if_neg (λ e=>hlt (aEr.1 e))]
   have hge:V b<=V a:=by omega
   have hlen:=aJZ hge
   by_cases h1:(lb (V b)).length=1
   ·have hr0:0<=rd (lb (V b)) 0/\rd (lb (V b)) 0 < 4294967296:=aAA (aCl (V b)) (i:=0) kJ
    have hv1:val 4294967296 (lb (V b))=rd (lb (V b)) 0:=by
     have:=aAk 4294967296 (lb (V b)) 0
     rw [List.take_of_length_le kJ] at this
     rw [this]
     simp [val]
    rw [hvb] at hv1
    obtain ⟨z,z1,z2,z3,z4⟩:=aJY (lb (V a)) (aCl _) (rd (lb (V b)) 0) (by rw [<- hv1];constructor<;>omega) kJ k kJ
    have hm0:V a % V b < V b:=Nat.mod_lt _ kJ
    rw [if_pos kJ,aIe a kJ k kJ,Option.bind_some,if_pos kJ,z4,Option.bind_some]
    dsimp only
    rw [aLm z z2 kJ k kJ,Option.bind_some,z3,hva,<- hv1,<- Int.natCast_emod,wu kJ kJ,aHD (V a % V b) kJ k kJ,Option.bind_some,aGF]
   ·obtain ⟨m,hm⟩:∃ m,(lb (V b)).length=m+2:=⟨(lb (V b)).length - 2,by omega⟩
    have htop:=aUd h0
    rw [show (lb (V b)).length - 1=m+1 by omega] at htop
    obtain ⟨q,r,q1,q2,q3,q4,q5,q6,q7⟩:=aTX (lb (V a)) (lb (V b)) (aCl _) (aCl _) m hm htop kJ kJ k kJ
    rw [if_neg kJ,aIe a kJ k kJ,Option.bind_some,q7,Option.bind_some]
    dsimp only
    rw [aLm q q3 kJ k kJ,Option.bind_some,aLm r q4 kJ k kJ,Option.bind_some,q5,q6,hva,hvb,aGF,aO4]
def aEN (x:Nat):Int × Bool:=if x < 18446744073709551616 then ((x:Int),true) else (0,false)
theorem aQW (n:Nat) (hs:(N n).size<=8) (r:Nat):∀ (i:Nat) (x:Int),i+r=(N n).size->x=val 256 ((nb n).take i)->∀ k,r+1<=k->nat_Uint64.l0 k (N n) x ((N n).size:Int) i=some ((n:Int),true):=by
 have hbl:(nb n).length=(N n).size:=by rw [<- aBa,bytesOf_length]
 induction r with
 | zero =>
  intro i x hi hx k hk
  obtain ⟨k,rfl⟩:∃ m,k=m+1:=⟨k - 1,by omega⟩
  rw [nat_Uint64.l0,if_neg kJ,hx,List.take_of_length_le kJ,aBO]
 | succ r ih =>
  intro i x hi hx k hk
  obtain ⟨k,rfl⟩:∃ m,k=m+1:=⟨k - 1,by omega⟩
  have hb:=aPH (N n) (i:Int)
  have h0:=aA4 (B:=256) kQ (aAG (aC9 n) i)
  have h1:=aBG (B:=256) kQ (aAG (aC9 n) i)
  rw [List.length_take,Nat.min_eq_left kJ] at h1
  have hp:(256:Int) ^ i=2 ^ (8*i):=by rw [Int.pow_mul];rfl
  have hp1:(2:Int) ^ (8*i)*256<=18446744073709551616:=by
   have:(2:Int) ^ (8*i)*2 ^ 8*2 ^ (56 - 8*i)=18446744073709551616:=by
    rw [<- Int.pow_add,<- Int.pow_add,show 8*i+8+(56 - 8*i)=64 by omega];rfl
   have h2:(1:Int)<=2 ^ (56 - 8*i):=Int.pow_pos kQ
   have h3:(0:Int)<=2 ^ (8*i)*2 ^ 8:=Int.le_of_lt (Int.mul_pos (Int.pow_pos kQ) kQ)
   have:=Int.mul_le_mul_of_nonneg_left h2 h3
   omega
  have hp0:(0:Int) < 2 ^ (8*i):=Int.pow_pos kQ
  have hbm:0<=bt (N n) (i:Int)*2 ^ (8*i):=Int.mul_nonneg hb.1 (Int.le_of_lt hp0)
  have hbm2:(bt (N n) (i:Int)+1)*2 ^ (8*i)<=256*2 ^ (8*i):=Int.mul_le_mul_of_nonneg_right kJ (Int.le_of_lt hp0)
  rw [Int.add_mul,Int.one_mul] at hbm2
  have hn:val 256 ((nb n).take (i+1))=x+bt (N n) (i:Int)*2 ^ (8*i):=by
   rw [aAk,hx,hp,aED,aBa,Int.mul_comm (rd _ _)]
  rw [nat_Uint64.l0,if_pos kJ,if_pos kJ,if_pos kJ,w64 (i:=8*(i:Int)) kJ kJ,if_pos kJ,show 8*(i:Int)=((8*i:Nat):Int) by omega,wu hb.1 kJ,aSg _ _ kJ,wu hbm kJ,aMo (8*i) kJ (by rw [hx,<- hp];exact h1) (by rw [hx];rw [hp] at h1;omega) hb.1 kJ,<- hn,w64 kJ kJ,show (i:Int)+1=((i+1:Nat):Int) by omega]
  exact ih (i+1) _ kJ rfl k kJ
theorem aQX (a:ByteArray) (ha:a.size<=268435456) (k:Nat) (hk:a.size+20<=k):nat_Uint64.f k a=some (aEN (V a)):=by
 unfold nat_Uint64.f aEN
 have h8:=aAH (V a) 8
 rw [aCs a kJ k kJ,Option.bind_some]
 by_cases h:V a < 18446744073709551616
 ·rw [if_pos h,if_neg (by have:=h8.2 kJ;omega)]
  exact aQW (V a) (h8.2 kJ) (N (V a)).size 0 0 kJ (by simp [val]) k (by have:=h8.2 kJ;omega)
 ·rw [if_neg h,if_pos (by
   rcases Nat.lt_or_ge 8 (N (V a)).size with h' | h'
   ·omega
   ·exact absurd (h8.1 h') kJ)]
end Go.Proofs.YtjefbecmeobegaaGreatDoor.NatI
