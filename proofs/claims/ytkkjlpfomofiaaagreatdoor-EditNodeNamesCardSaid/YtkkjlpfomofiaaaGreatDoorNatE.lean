import Derived.Test.YtkkjlpfomofiaaaGreatDoorNatD
import Derived.Test.YtkkjlpfomofiaaaGreatDoorPx0
import Derived.Test.YtkkjlpfomofiaaaGreatDoorPxNA
import Derived.Test.YtkkjlpfomofiaaaGreatDoorXQ
namespace Go.Proofs.YtkkjlpfomofiaaaGreatDoor.NatE
open Go Go.RowKit YtkkjlpfomofiaaaGreatDoorW.PrintWords P NatA NatB NatC NatD
theorem val_put (B:Int) (z:List Int) (i:Nat) (d:Int) (h:i < z.length):val B (z.set i d)=val B z - B ^ i*rd z i+B ^ i*d:=by
 rw [aBV B z i d h,Int.mul_sub]
 omega
theorem aQ6 {h l y:Int} (hh:0≤h∧h < y) (hl:0≤l∧l < 4294967296) (hy:y < 4294967296):bits_Div32.f h l y=some ((h*4294967296+l) / y,(h*4294967296+l) % y):=by
 unfold bits_Div32.f
 have h0:0≤h*4294967296+l:=by omega
 have h1:0≤(h*4294967296+l) / y:=Int.ediv_nonneg h0 (by omega)
 have h2:(h*4294967296+l) / y < 4294967296:=by
  apply Int.ediv_lt_of_lt_mul (by omega)
  have:=Int.mul_le_mul_of_nonneg_right (show h+1≤y by omega) (show (0:Int)≤4294967296 by omega)
  omega
 have h3:=Int.emod_nonneg (h*4294967296+l) (show y≠0 by omega)
 have h4:=Int.emod_lt_of_pos (h*4294967296+l) (show 0 < y by omega)
 rw [if_neg (by omega),if_neg (by omega),wu (n:=y) (by omega) (by omega),if_neg (by omega),wu (n:=h) (by omega) (by omega),wu (n:=l) (by omega) (by omega),wu (n:=h*4294967296) (by omega) (by omega),or_hi hl.1 hl.2 hh.1 (by omega),aD2 h0,aE5 h0,wu h1 (by omega),Int.emod_eq_of_lt h1 h2,Int.emod_eq_of_lt (a:=(h*4294967296+l) % y) h3 (by omega)]
theorem aIz (l:List Int) (i:Nat) (x:Int) (h:i < l.length):(l.set i x).drop i=x::l.drop (i+1):=by
 rw [aML l i x h,List.drop_left' (by rw [List.length_take];omega)]
theorem aPT (l:List Int) (hl:Dig 4294967296 l) (y:Int) (hy:0 < y∧y < 4294967296) (hs:l.length≤268435456) (p:Nat):∀ (i:Nat) (z:List Int) (c:Int),i+p=l.length→z.length=l.length→Dig 4294967296 z→(0≤c∧c < y) →
  val 4294967296 (l.drop p)=y*val 4294967296 (z.drop p)+c→∀ k,p+1≤k →
  ∃ z',z'.length=l.length∧Dig 4294967296 z'∧val 4294967296 z'=val 4294967296 l / y∧nat_short.l0 k l y z c (l.length:Int) i=some (z',val 4294967296 l % y):=by
 induction p with
 | zero =>
  intro i z c hi hz hd hc hv k hk
  obtain ⟨k,rfl⟩:∃ m,k=m+1:=⟨k - 1,by omega⟩
  rw [List.drop_zero,List.drop_zero] at hv
  have e1:val 4294967296 l / y=val 4294967296 z∧val 4294967296 l % y=c:=by
   rw [hv]
   constructor
   ·rw [Int.add_comm,Int.add_mul_ediv_left _ _ (by omega),Int.ediv_eq_zero_of_lt hc.1 hc.2,Int.zero_add]
   ·rw [Int.add_comm,Int.add_mul_emod_self_left,Int.emod_eq_of_lt hc.1 hc.2]
  exact ⟨z,hz,hd,e1.1.symm,by rw [nat_short.l0,if_neg (by omega),e1.2]⟩
 | succ p ih =>
  intro i z c hi hz hd hc hv k hk
  obtain ⟨k,rfl⟩:∃ m,k=m+1:=⟨k - 1,by omega⟩
  have h1:=aAt hl (i:=p) (by omega)
  have hw:wrap64 (wrap64 ((l.length:Int) - 1) - i)=(p:Int):=by rw [w64 (i:=(l.length:Int) - 1) (by omega) (by omega),w64 (by omega) (by omega)];omega
  have h2:=aQ6 hc h1 hy.2
  have h0:0≤c*4294967296+rd l p:=by omega
  have h3:=Int.emod_nonneg (c*4294967296+rd l p) (show y≠0 by omega)
  have h4:=Int.emod_lt_of_pos (c*4294967296+rd l p) hy.1
  have h5:0≤(c*4294967296+rd l p) / y:=Int.ediv_nonneg h0 (by omega)
  have h6:(c*4294967296+rd l p) / y < 4294967296:=by
   apply Int.ediv_lt_of_lt_mul hy.1
   have:=Int.mul_le_mul_of_nonneg_right (show c+1≤y by omega) (show (0:Int)≤4294967296 by omega)
   omega
  obtain ⟨z',e1,e2,e3,e4⟩:=ih (i+1) (z.set p ((c*4294967296+rd l p) / y)) ((c*4294967296+rd l p) % y) (by omega) (by rw [List.length_set,hz]) (aAI hd _ h5 h6) ⟨h3,h4⟩
   (by
    rw [aIz _ _ _ (by omega),val,aCC _ _ _ (by omega),hv,Int.mul_add,Int.mul_add]
    have:=Int.mul_ediv_add_emod (c*4294967296+rd l p) y
    have e:(4294967296:Int)*(y*val 4294967296 (z.drop (p+1)))=y*(4294967296*val 4294967296 (z.drop (p+1))):=by rw [← Int.mul_assoc,← Int.mul_assoc,Int.mul_comm y]
    omega) k (by omega)
  refine ⟨z',e1,e2,e3,?_⟩
  rw [nat_short.l0,if_pos (by omega),hw,if_pos (by omega),if_pos (by omega),h2,Option.bind_some]
  dsimp only
  rw [if_pos (by omega),Int.toNat_natCast,w64 (by omega) (by omega),show (i:Int)+1=((i+1:Nat):Int) by omega]
  exact e4
theorem aH9 (l:List Int) (hl:Dig 4294967296 l) (y:Int) (hy:0 < y∧y < 4294967296) (hs:l.length≤268435456) (k:Nat) (hk:l.length+1≤k) :
  ∃ z,z.length=l.length∧Dig 4294967296 z∧val 4294967296 z=val 4294967296 l / y∧nat_short.f k l y=some (z,val 4294967296 l % y):=by
 obtain ⟨z,e1,e2,e3,e4⟩:=aPT l hl y hy hs l.length 0 (List.replicate l.length 0) 0 (by omega) List.length_replicate (aAF (by decide) _) ⟨Int.le_refl _,hy.1⟩ (by rw [List.drop_eq_nil_of_le (Nat.le_refl _),List.drop_eq_nil_of_le (by rw [List.length_replicate];exact Nat.le_refl _)];simp [val]) k (by omega)
 refine ⟨z,e1,e2,e3,?_⟩
 unfold nat_short.f
 rw [if_pos (by omega),if_pos (by omega),Int.toNat_natCast]
 exact e4
end Go.Proofs.YtkkjlpfomofiaaaGreatDoor.NatE
