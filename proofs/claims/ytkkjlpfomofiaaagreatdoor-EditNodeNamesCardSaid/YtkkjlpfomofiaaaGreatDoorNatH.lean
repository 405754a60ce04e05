import Derived.Test.YtkkjlpfomofiaaaGreatDoorNatG
import Derived.Test.YtkkjlpfomofiaaaGreatDoorPxNatLong
namespace Go.Proofs.YtkkjlpfomofiaaaGreatDoor.NatH
open Go Go.RowKit YtkkjlpfomofiaaaGreatDoorW.PrintWords P NatA NatB NatC NatD NatE NatF NatG
theorem aPc {B E top d2 dl front u2 ul q r U D:Int} (hE:0 < E) (hD:D=(top*B+d2)*E+dl) (hU:U=(front*B+u2)*E+ul) (hdl:0≤dl) (hul:ul < E)
  (hf:q*top+r=front) (hq:0≤q) (h:q*d2 > r*B+u2):U < q*D:=by
 have h1:front*B+u2+1≤q*(top*B+d2):=by
  have:q*(top*B+d2)=front*B - r*B+q*d2:=by grind
  omega
 have h2:=Int.mul_le_mul_of_nonneg_right h1 (Int.le_of_lt hE)
 have h3:q*D=q*(top*B+d2)*E+q*dl:=by grind
 have h4:=Int.mul_nonneg hq hdl
 have h5:(front*B+u2+1)*E=(front*B+u2)*E+E:=by grind
 omega
theorem aJD {B E top d2 dl front u2 ul q r U D:Int} (hE:0 < E) (hB:0 < B) (hD:D=(top*B+d2)*E+dl) (hU:U=(front*B+u2)*E+ul) (hdl:0≤dl∧dl < E) (hul:0≤ul)
  (hf:q*top+r=front) (hq:0≤q∧q≤B) (ht:1≤top) (hd2:0≤d2) (h:q*d2≤r*B+u2):(q - 1)*D≤U:=by
 have h1:q*(top*B+d2)≤front*B+u2:=by
  have:q*(top*B+d2)=front*B - r*B+q*d2:=by grind
  omega
 have h2:=Int.mul_le_mul_of_nonneg_right h1 (Int.le_of_lt hE)
 have h3:q*D=q*(top*B+d2)*E+q*dl:=by grind
 have h4:q*dl≤q*E:=Int.mul_le_mul_of_nonneg_left (by omega) hq.1
 have h5:(q - 1)*D=q*D - D:=by grind
 have h6:q*E≤B*E:=Int.mul_le_mul_of_nonneg_right hq.2 (Int.le_of_lt hE)
 have h7:(top - 1)*(B*E) ≥ 0:=Int.mul_nonneg (by omega) (Int.mul_nonneg (by omega) (by omega))
 have h8:D=B*E+(top - 1)*(B*E)+d2*E+dl:=by grind
 have h9:0≤d2*E:=Int.mul_nonneg hd2 (by omega)
 omega
theorem aNQ {B E top d2 dl front u2 ul U D:Int} (hE:0 < E) (hB:0 < B) (hD:D=(top*B+d2)*E+dl) (hU:U=(front*B+u2)*E+ul) (hdl:0≤dl) (hul:ul < E)
  (ht:1≤top) (hd2:0≤d2) (hu2:u2 < B) (hf:0≤front):U < (front / top+1)*D:=by
 have h0:=Int.mul_ediv_add_emod front top
 have h00:=Int.emod_lt_of_pos front (show 0 < top by omega)
 have hq:0≤front / top:=Int.ediv_nonneg hf (by omega)
 have h1:(front / top+1)*top=front - front % top+top:=by grind
 have h2:(front+1)*(B*E)≤(front / top+1)*top*(B*E):=Int.mul_le_mul_of_nonneg_right (by omega) (Int.mul_nonneg (by omega) (by omega))
 have h3:(front / top+1)*D=(front / top+1)*top*(B*E)+(front / top+1)*(d2*E+dl):=by grind
 have h4:0≤(front / top+1)*(d2*E+dl):=Int.mul_nonneg (by omega) (Int.add_nonneg (Int.mul_nonneg hd2 (by omega)) hdl)
 have h5:(u2+1)*E≤B*E:=Int.mul_le_mul_of_nonneg_right (by omega) (Int.le_of_lt hE)
 have h6:U=front*(B*E)+u2*E+ul:=by grind
 have h7:(front+1)*(B*E)=front*(B*E)+B*E:=by grind
 have h8:(u2+1)*E=u2*E+E:=by grind
 omega
def tail (k:Nat) (u d:List Int) (s n top:Int) (out:List Int) (kk q L i:Int):Option (List Int × List Int):=
 (nat_take_win.f k u kk (wrap64 ((wrap64 (kk+n))+1)) d (q % 4294967296)).bind fun bt =>
  if bt.1=true then (if 0≤kk then (if kk < (out.length:Int) then nat_long.l0 k bt.2 d s n top (out.set (kk:Int).toNat ((IntKind.u64.wrap (q - 1)) % 4294967296)) L (wrap64 (i+1)) else none) else none)
  else (if 0≤kk then (if kk < (out.length:Int) then nat_long.l0 k bt.2 d s n top (out.set (kk:Int).toNat (q % 4294967296)) L (wrap64 (i+1)) else none) else none)
theorem aNR (k:Nat) (u d:List Int) (s n top:Int) (out:List Int) (kk q r L i:Int):nat_long.j2 (k+1) u d s n top out kk q r L i false=tail k u d s n top out kk q L i:=by
 rw [nat_long.j2,if_neg (by decide)]
 rfl
theorem aNS (k:Nat) (u d:List Int) (s n top:Int) (out:List Int) (kk q r L i:Int) (hq:1≤q∧q≤4294967297) (hr:0≤r∧r < 4294967296) (ht:0≤top∧top < 4294967296) (h:4294967296≤r+top) :
  nat_long.j2 (k+1) u d s n top out kk q r L i true=tail k u d s n top out kk (q - 1) L i:=by
 rw [nat_long.j2,if_pos rfl,wu ht.1 (by omega),wu (n:=r+top) (by omega) (by omega),if_pos (by omega),wu (n:=q - 1) (by omega) (by omega)]
 rfl
theorem aQ3 (k:Nat) (u d:List Int) (s n top:Int) (out:List Int) (kk q r L i:Int) (hq:1≤q∧q≤4294967297) (hr:0≤r∧r < 4294967296) (ht:0≤top∧top < 4294967296) (h:r+top < 4294967296) :
  nat_long.j2 (k+1) u d s n top out kk q r L i true=nat_long.l1 k u d s n top out kk (q - 1) (r+top) L i:=by
 rw [nat_long.j2,if_pos rfl,wu ht.1 (by omega),wu (n:=r+top) (by omega) (by omega),if_neg (by omega),wu (n:=q - 1) (by omega) (by omega)]
theorem qhat (u d out:List Int) (s L i:Int) (m kk:Nat) (hu:Dig 4294967296 u) (hd:Dig 4294967296 d) (hdl:d.length=m+2) (hul:kk+(m+2) < u.length) (hs:u.length≤536870912) (top E dl ul front U D:Int)
  (ht:2147483648≤top∧top < 4294967296) (hE:0 < E) (hD:D=(top*4294967296+rd d (m:Int))*E+dl) (hU:U=(front*4294967296+rd u ((kk+m:Nat):Int))*E+ul) (hdl':0≤dl∧dl < E) (hul':0≤ul∧ul < E)
  (hf:0≤front∧front≤top*4294967296+4294967295) (hUB:U < 4294967296*D) (hD0:0≤D) (w:Nat) :
  ∀ (q r:Int) (k:Nat),(0≤q∧q≤4294967297)→(0≤r∧r < 4294967296)→q*top+r=front→U < (q+1)*D→4294967296≤r+w*2147483648→2*w+2≤k →
  ∃ q' k',(0≤q'∧q' < 4294967296)∧(q' - 1)*D≤U∧U < (q'+1)*D∧k≤k'+2*w∧nat_long.l1 k u d s ((m+2:Nat):Int) top out kk q r L i=tail k' u d s ((m+2:Nat):Int) top out kk q' L i:=by
 have hd2:=aAt hd (i:=m) (by omega)
 have hu2:=aAt hu (i:=kk+m) (by omega)
 induction w with
 | zero =>
  intro q r k hq hr hqr hUq hw hk
  omega
 | succ w ih =>
  intro q r k hq hr hqr hUq hw hk
  obtain ⟨k,rfl⟩:∃ m,k=m+2:=⟨k - 2,by omega⟩
  have big:1≤q→U < q*D→∃ q' k',(0≤q'∧q' < 4294967296)∧(q' - 1)*D≤U∧U < (q'+1)*D∧k+2≤k'+2*(w+1)∧nat_long.j2 (k+1) u d s ((m+2:Nat):Int) top out kk q r L i true=tail k' u d s ((m+2:Nat):Int) top out kk q' L i:=by
   intro h1 hb
   have e1:(q - 1)*top+(r+top)=front:=by grind
   by_cases hbr:r+top < 4294967296
   ·obtain ⟨q',k',f1,f2,f3,f4,f5⟩:=ih (q - 1) (r+top) k (by omega) (by omega) e1 (by rw [Int.sub_add_cancel];exact hb) (by omega) (by omega)
    exact ⟨q',k',f1,f2,f3,by omega,by rw [aQ3 _ _ _ _ _ _ _ _ _ _ _ _ ⟨h1,hq.2⟩ hr ⟨by omega,ht.2⟩ hbr];exact f5⟩
   ·have hlt:q - 1 < 4294967296:=by
     have h2:(q - 1)*top < 4294967296*top:=by
      have:=Int.mul_comm top 4294967296
      omega
     exact Int.lt_of_mul_lt_mul_right h2 (by omega)
    have h3:(q - 1)*rd d (m:Int)≤4294967296*4294967295:=Int.mul_le_mul (by omega) (by omega) hd2.1 (by omega)
    refine ⟨q - 1,k,by omega,aJD (q:=q - 1) (r:=r+top) hE (by decide) hD hU hdl' hul'.1 e1 (by omega) (by omega) hd2.1 (by omega),by rw [Int.sub_add_cancel];exact hb,by omega,?_⟩
    rw [aNS _ _ _ _ _ _ _ _ _ _ _ _ ⟨h1,hq.2⟩ hr ⟨by omega,ht.2⟩ (by omega)]
  by_cases hgt:q > 4294967295
  ·have hb:U < q*D:=Int.lt_of_lt_of_le hUB (Int.mul_le_mul_of_nonneg_right (by omega) hD0)
   obtain ⟨q',k',f1,f2,f3,f4,f5⟩:=big (by omega) hb
   refine ⟨q',k',f1,f2,f3,f4,?_⟩
   rw [nat_long.l1,if_pos hgt]
   exact f5
  ·have h3:0≤q*rd d (m:Int):=Int.mul_nonneg hq.1 hd2.1
   have h4:q*rd d (m:Int)≤4294967295*4294967295:=Int.mul_le_mul (by omega) (by omega) hd2.1 (by omega)
   have hst:nat_long.l1 (k+2) u d s ((m+2:Nat):Int) top out kk q r L i=nat_long.j2 (k+1) u d s ((m+2:Nat):Int) top out kk q r L i (decide (q*rd d (m:Int) > r*4294967296+rd u ((kk+m:Nat):Int))):=by
    rw [nat_long.l1,if_neg hgt,w64 (i:=((m+2:Nat):Int) - 2) (by omega) (by omega),if_pos (by omega),if_pos (by omega),w64 (i:=(kk:Int)+((m+2:Nat):Int)) (by omega) (by omega),w64 (i:=(kk:Int)+((m+2:Nat):Int) - 2) (by omega) (by omega),if_pos (by omega),if_pos (by omega)]
    rw [show ((m+2:Nat):Int) - 2=(m:Int) by omega,show (kk:Int)+((m+2:Nat):Int) - 2=((kk+m:Nat):Int) by omega,wu hd2.1 (by omega),wu h3 (by omega),wu (n:=r*4294967296) (by omega) (by omega),wu hu2.1 (by omega),or_hi hu2.1 hu2.2 hr.1 hr.2]
   rw [hst]
   by_cases hc:q*rd d (m:Int) > r*4294967296+rd u ((kk+m:Nat):Int)
   ·have h1:1≤q:=by
     rcases (show q=0∨1≤q by omega) with rfl | h
     ·rw [Int.zero_mul] at hc
      omega
     ·exact h
    obtain ⟨q',k',f1,f2,f3,f4,f5⟩:=big h1 (aPc hE hD hU hdl'.1 hul'.2 hqr hq.1 hc)
    exact ⟨q',k',f1,f2,f3,f4,by rw [decide_eq_true hc];exact f5⟩
   ·refine ⟨q,k,by omega,aJD hE (by decide) hD hU hdl' hul'.1 hqr (by omega) (by omega) hd2.1 (by omega),hUq,by omega,?_⟩
    rw [decide_eq_false hc,aNR]
theorem aFA {l:List Int} (hl:Dig 4294967296 l) {m:Nat} (hm:m≤l.length) (h:val 4294967296 l < 4294967296 ^ m):val 4294967296 (l.take m)=val 4294967296 l∧val 4294967296 (l.drop m)=0:=by
 have h1:=aB2 4294967296 l m hm
 have h2:=aAz (by decide) (aAx hl m)
 have h3:=aAz (by decide) (aBO hl m)
 have h4:(0:Int) < 4294967296 ^ m:=Int.pow_pos (by decide)
 have h5:val 4294967296 (l.drop m)=0:=by
  rcases (show val 4294967296 (l.drop m)=0∨1≤val 4294967296 (l.drop m) by omega) with h | h'
  ·exact h
  ·have:=Int.mul_le_mul_of_nonneg_left h' (Int.le_of_lt h4)
   rw [Int.mul_one] at this
   omega
 rw [h5,Int.mul_zero] at h1
 exact ⟨by omega,h5⟩
theorem aKL (l:List Int) (p j:Nat):rd (l.drop p) (j:Int)=rd l ((p+j:Nat):Int):=by
 rw [aBa,aBa,List.getD_eq_getElem?_getD,List.getD_eq_getElem?_getD,List.getElem?_drop]
theorem aPd (l:List Int) (m j:Nat) (h:j < m):rd (l.take m) (j:Int)=rd l (j:Int):=by
 rw [aBa,aBa,List.getD_eq_getElem?_getD,List.getD_eq_getElem?_getD,List.getElem?_take,if_pos h]
theorem aC8 (m:Nat):(4294967296:Int) ^ (m+1)=4294967296*4294967296 ^ m:=by rw [Int.pow_succ,Int.mul_comm]
theorem aPe {U q D:Int} (h:U < q*D):U - (q - 1)*D < D:=by
 rw [Int.sub_mul,Int.one_mul]
 omega
theorem aPf {U q D:Int} (h:U < (q+1)*D):U - q*D < D:=by
 rw [Int.add_mul,Int.one_mul] at h
 omega
theorem aQ4 (d:List Int) (hd:Dig 4294967296 d) (m:Nat) (hdl:d.length=m+2) (ht:2147483648≤rd d ((m+1:Nat):Int)) (s:Nat) (hsh:s < 32) (ln:Nat) (hs:ln+m≤134217728) (W:Int) (p:Nat) :
  ∀ (i:Nat) (u out:List Int),i+p=ln→u.length=ln+(m+2)→out.length=ln→Dig 4294967296 u→Dig 4294967296 out→(∀ j:Nat,j < p→rd out j=0)→val 4294967296 (u.drop p) < val 4294967296 d →
  W=val 4294967296 out*val 4294967296 d+val 4294967296 u→∀ k,10*p+2*m+20≤k →
  ∃ q r,q.length=ln∧Dig 4294967296 q∧Dig 4294967296 r∧r.length=m+2∧val 4294967296 q=W / val 4294967296 d∧val 4294967296 r=W % val 4294967296 d / 2 ^ s ∧
   nat_long.l0 k u d s ((m+2:Nat):Int) (rd d ((m+1:Nat):Int)) out (ln:Int) i=some (q,r):=by
 have htop:=aAt hd (i:=m+1) (by omega)
 have hDlt:=aBs (by decide) hd
 have hD0:=aAz (by decide) hd
 rw [hdl] at hDlt
 induction p with
 | zero =>
  intro i u out hi hul hol hu ho h0 hlt hW k hk
  obtain ⟨k,rfl⟩:∃ m,k=m+1:=⟨k - 1,by omega⟩
  rw [List.drop_zero] at hlt
  have hv:=aFA hu (m:=m+2) (by omega) (by omega)
  obtain ⟨z,e1,e2,e3,e4⟩:=aMH (u.take (m+2)) (aAx hu _) s hsh (by rw [List.length_take];omega) k (by rw [List.length_take];omega)
  have hu0:=aAz (by decide) hu
  rw [Int.mul_comm] at hW
  have hq:=aFB (X:=val 4294967296 out) hu0 hlt
  refine ⟨out,z,hol,ho,e2,by rw [e1,List.length_take];omega,by rw [hW,hq.1],by rw [e3,hv.1,hW,hq.2],?_⟩
  rw [nat_long.l0,if_neg (by omega),if_pos (by omega),if_pos (by omega),Int.toNat_natCast,e4]
  rfl
 | succ p ih =>
  intro i u out hi hul hol hu ho h0 hlt hW k hk
  obtain ⟨k,rfl⟩:∃ m,k=m+1:=⟨k - 1,by omega⟩
  obtain ⟨v,hv⟩:∃ v,v=(u.drop p).take (m+3):=⟨_,rfl⟩
  have hvl:v.length=m+3:=by rw [hv,List.length_take,List.length_drop];omega
  have hvd:Dig 4294967296 v:=by rw [hv];exact aAx (aBO hu _) _
  have hdp:=aCC 4294967296 u p (by omega)
  have hrp:=aAt hu (i:=p) (by omega)
  have hUB:val 4294967296 (u.drop p) < 4294967296*val 4294967296 d:=by omega
  have hpw:(4294967296:Int) ^ (m+3)=4294967296*4294967296 ^ (m+2):=aC8 (m+2)
  have hlow:=aFA (aBO hu p) (m:=m+3) (by rw [List.length_drop];omega) (by rw [hpw];omega)
  rw [← hv,List.drop_drop] at hlow
  obtain ⟨U,hU⟩:∃ U,U=val 4294967296 (u.drop p):=⟨_,rfl⟩
  rw [← hU] at hlow hUB
  have hU0:0≤U:=by rw [hU];exact aAz (by decide) (aBO hu p)
  have rv:∀ j:Nat,j < m+3→rd v (j:Int)=rd u ((p+j:Nat):Int):=fun j hj=>by rw [hv,aPd _ _ _ hj,aKL]
  have hE:(0:Int) < 4294967296 ^ m:=Int.pow_pos (by decide)
  have dU:U=((rd u ((p+(m+2):Nat):Int)*4294967296+rd u ((p+(m+1):Nat):Int))*4294967296+rd u ((p+m:Nat):Int))*4294967296 ^ m+val 4294967296 (v.take m):=by
   have a1:=aAg 4294967296 v (m+2)
   have a2:=aAg 4294967296 v (m+1)
   have a3:=aAg 4294967296 v m
   rw [List.take_of_length_le (by omega),rv _ (by omega)] at a1
   rw [rv _ (by omega)] at a2 a3
   rw [aC8 (m+1),aC8 m] at a1
   rw [aC8 m] at a2
   rw [← hlow.1,a1,a2,a3]
   grind
  have dD:val 4294967296 d=(rd d ((m+1:Nat):Int)*4294967296+rd d (m:Int))*4294967296 ^ m+val 4294967296 (d.take m):=by
   have a2:=aAg 4294967296 d (m+1)
   have a3:=aAg 4294967296 d m
   rw [List.take_of_length_le (by omega),aC8 m] at a2
   rw [a2,a3]
   grind
  have tl:∀ {l:List Int},Dig 4294967296 l→m≤l.length→0≤val 4294967296 (l.take m)∧val 4294967296 (l.take m) < 4294967296 ^ m:=fun {l} hl hm=>by
   have:=aBs (by decide) (aAx hl m)
   rw [List.length_take,Nat.min_eq_left hm] at this
   exact ⟨aAz (by decide) (aAx hl m),this⟩
  have tv:=tl hvd (by omega)
  have td:=tl hd (by omega)
  have c0:=aAt hu (i:=p+(m+2)) (by omega)
  have c1:=aAt hu (i:=p+(m+1)) (by omega)
  have c2:=aAt hu (i:=p+m) (by omega)
  have c3:=aAt hd (i:=m) (by omega)
  obtain ⟨front,hfr⟩:∃ f,f=rd u ((p+(m+2):Nat):Int)*4294967296+rd u ((p+(m+1):Nat):Int):=⟨_,rfl⟩
  rw [← hfr] at dU
  have hft:rd u ((p+(m+2):Nat):Int)≤rd d ((m+1:Nat):Int):=by
   have b1:val 4294967296 (u.drop (p+1))=rd u ((p+(m+2):Nat):Int)*4294967296 ^ (m+1)+val 4294967296 ((u.drop (p+1)).take (m+1)):=by
    have g:=aFA (aBO hu (p+1)) (m:=m+2) (by rw [List.length_drop];omega) (by omega)
    have g2:=aAg 4294967296 (u.drop (p+1)) (m+1)
    rw [g.1,aKL,show p+1+(m+1)=p+(m+2) by omega] at g2
    rw [g2,Int.mul_comm]
    omega
   have b2:val 4294967296 d=rd d ((m+1:Nat):Int)*4294967296 ^ (m+1)+val 4294967296 (d.take (m+1)):=by
    have g2:=aAg 4294967296 d (m+1)
    rw [List.take_of_length_le (by omega)] at g2
    rw [g2,Int.mul_comm]
    omega
   have b3:=aBs (by decide) (aAx hd (m+1))
   rw [List.length_take,Nat.min_eq_left (by omega)] at b3
   have b4:=aAz (by decide) (aAx (aBO hu (p+1)) (m+1))
   have b5:(0:Int) < 4294967296 ^ (m+1):=Int.pow_pos (by decide)
   have b6:rd u ((p+(m+2):Nat):Int)*4294967296 ^ (m+1) < (rd d ((m+1:Nat):Int)+1)*4294967296 ^ (m+1):=by
    rw [Int.add_mul,Int.one_mul]
    omega
   have:=Int.lt_of_mul_lt_mul_right b6 (Int.le_of_lt b5)
   omega
  have hfb:0≤front∧front≤rd d ((m+1:Nat):Int)*4294967296+4294967295:=by omega
  have hdm:=Int.mul_ediv_add_emod front (rd d ((m+1:Nat):Int))
  have hr0:=Int.emod_nonneg front (show rd d ((m+1:Nat):Int)≠0 by omega)
  have hr1:=Int.emod_lt_of_pos front (show 0 < rd d ((m+1:Nat):Int) by omega)
  have hq0:0≤front / rd d ((m+1:Nat):Int):=Int.ediv_nonneg hfb.1 (by omega)
  have hq1:front / rd d ((m+1:Nat):Int) < 4294967298:=Int.ediv_lt_of_lt_mul (by omega) (by omega)
  have hUq:=aNQ hE (by decide) dD dU td.1 tv.2 (by omega) c3.1 c2.2 hfb.1
  obtain ⟨q',k',f1,f2,f3,f4,f5⟩:=qhat u d out (s:Int) (ln:Int) (i:Int) m p hu hd hdl (by omega) (by omega) (rd d ((m+1:Nat):Int)) (4294967296 ^ m) (val 4294967296 (d.take m)) (val 4294967296 (v.take m)) front U (val 4294967296 d) ⟨ht,htop.2⟩ hE dD dU td tv hfb hUB hD0 2
   (front / rd d ((m+1:Nat):Int)) (front % rd d ((m+1:Nat):Int)) k ⟨hq0,by omega⟩ ⟨hr0,by omega⟩ (by rw [Int.mul_comm];exact hdm) hUq (by omega) (by omega)
  obtain ⟨z,g1,g2,g3⟩:=aPQ v d hvd hd (by omega) q' f1 (by omega) (by rw [hlow.1];exact f2) k' (by omega)
  rw [hlow.1] at g3
  have hcut:(u.take (p+(m+3))).drop p=v:=by rw [List.drop_take,hv];congr 1;omega
  obtain ⟨u',hu'⟩:∃ u',u'=u.take p++z++u.drop (p+(m+3)):=⟨_,rfl⟩
  have hu'l:u'.length=ln+(m+2):=by rw [hu',List.length_append,List.length_append,List.length_take,List.length_drop];omega
  have hu'd:Dig 4294967296 u':=by rw [hu',aDf,aDf];exact ⟨⟨aAx hu _,g2⟩,aBO hu _⟩
  have hu'p:val 4294967296 (u'.drop p)=val 4294967296 z:=by
   rw [hu',List.append_assoc,List.drop_left' (by rw [List.length_take];omega),val_append,hlow.2,Int.mul_zero,Int.add_zero]
  have hu'v:val 4294967296 u'=val 4294967296 u+4294967296 ^ p*(val 4294967296 z - U):=by
   have a1:=aB2 4294967296 u p (by omega)
   have a2:=aB2 4294967296 u' p (by omega)
   rw [hu'p] at a2
   rw [← hU] at a1
   have a3:u'.take p=u.take p:=by rw [hu',List.append_assoc,List.take_left' (by rw [List.length_take];omega)]
   rw [a3] at a2
   rw [a1,a2]
   grind
  have hw:∀ b,nat_take.f k' v d q'=some (b,z)→nat_take_win.f k' u (p:Int) (wrap64 ((wrap64 ((p:Int)+((m+2:Nat):Int)))+1)) d (q' % 4294967296)=some (b,u'):=fun b hb=>by
   unfold nat_take_win.f
   rw [w64 (i:=(p:Int)+((m+2:Nat):Int)) (by omega) (by omega),w64 (by omega) (by omega),if_pos (by omega),Int.emod_eq_of_lt f1.1 f1.2,show ((p:Int)+((m+2:Nat):Int)+1).toNat=p+(m+3) by omega,Int.toNat_natCast,hcut,hb,hu']
   rfl
  have fin:∀ Q:Int,(0≤Q∧Q < 4294967296)→val 4294967296 z=U - Q*val 4294967296 d→val 4294967296 z < val 4294967296 d →
    ∃ q r,q.length=ln∧Dig 4294967296 q∧Dig 4294967296 r∧r.length=m+2∧val 4294967296 q=W / val 4294967296 d∧val 4294967296 r=W % val 4294967296 d / 2 ^ s ∧
     nat_long.l0 k' u' d s ((m+2:Nat):Int) (rd d ((m+1:Nat):Int)) (out.set p Q) (ln:Int) ((i+1:Nat):Int)=some (q,r):=fun Q hQ hz hzl=>by
   refine ih (i+1) u' (out.set p Q) (by omega) hu'l (by rw [List.length_set];exact hol) hu'd (aAI ho _ hQ.1 hQ.2) (fun j hj=>by rw [aEk _ _ _ _ (by omega),if_neg (by omega)];exact h0 j (by omega)) (by rw [hu'p];exact hzl) ?_ k' (by omega)
   rw [aBV _ _ _ _ (by omega),h0 p (by omega),hu'v,hz,hW]
   grind
  have hkk:wrap64 ((wrap64 ((out.length:Int) - 1)) - (i:Int))=(p:Int):=by rw [w64 (i:=(out.length:Int) - 1) (by omega) (by omega),w64 (by omega) (by omega)];omega
  have hstep:nat_long.l0 (k+1) u d s ((m+2:Nat):Int) (rd d ((m+1:Nat):Int)) out (ln:Int) i=tail k' u d s ((m+2:Nat):Int) (rd d ((m+1:Nat):Int)) out (p:Int) q' (ln:Int) i:=by
   rw [nat_long.l0,if_pos (by omega),hkk,w64 (i:=(p:Int)+((m+2:Nat):Int)) (by omega) (by omega),w64 (i:=(p:Int)+((m+2:Nat):Int) - 1) (by omega) (by omega),if_pos (by omega),if_pos (by omega),if_pos (by omega),if_pos (by omega),wu (n:=rd d ((m+1:Nat):Int)) (by omega) (by omega),if_neg (by omega)]
   rw [show (p:Int)+((m+2:Nat):Int) - 1=((p+(m+1):Nat):Int) by omega,show (p:Int)+((m+2:Nat):Int)=((p+(m+2):Nat):Int) by omega]
   rw [wu (n:=rd u ((p+(m+2):Nat):Int)) c0.1 (by omega),wu (n:=rd u ((p+(m+1):Nat):Int)) c1.1 (by omega),wu (n:=rd u ((p+(m+2):Nat):Int)*4294967296) (by omega) (by omega),or_hi c1.1 c1.2 c0.1 c0.2,← hfr,aD2 hfb.1,aE5 hfb.1,wu hq0 (by omega)]
   exact f5
  rw [hstep]
  unfold tail
  rcases g3 with ⟨g3,g4⟩ | ⟨g3,g4,g5⟩
  ·obtain ⟨q,r,r1,r2,r3,r4,r5,r6,r7⟩:=fin q' f1 g3 (by rw [g3];exact aPf f3)
   refine ⟨q,r,r1,r2,r3,r4,r5,r6,?_⟩
   rw [hw _ g4,Option.bind_some]
   dsimp only
   rw [if_neg (by decide),if_pos (by omega),if_pos (by omega),Int.emod_eq_of_lt f1.1 f1.2,w64 (by omega) (by omega),Int.toNat_natCast,show (i:Int)+1=((i+1:Nat):Int) by omega]
   exact r7
  ·have hq1:1≤q':=by
    rcases (show q'=0∨1≤q' by omega) with rfl | h
    ·rw [Int.zero_mul] at g3
     omega
    ·exact h
   obtain ⟨q,r,r1,r2,r3,r4,r5,r6,r7⟩:=fin (q' - 1) (by omega) g4 (by rw [g4];exact aPe g3)
   refine ⟨q,r,r1,r2,r3,r4,r5,r6,?_⟩
   rw [hw _ g5,Option.bind_some]
   dsimp only
   rw [if_pos rfl,if_pos (by omega),if_pos (by omega),wu (n:=q' - 1) (by omega) (by omega),Int.emod_eq_of_lt (a:=q' - 1) (by omega) (by omega),w64 (by omega) (by omega),Int.toNat_natCast,show (i:Int)+1=((i+1:Nat):Int) by omega]
   exact r7
end Go.Proofs.YtkkjlpfomofiaaaGreatDoor.NatH
