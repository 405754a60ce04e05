import Derived.Test.YtjefbecmeobegaaGreatDoorSpQ
import Derived.Test.YtjefbecmeobegaaGreatDoorSpG
namespace Go.Proofs.YtjefbecmeobegaaGreatDoor.Sp
open Go Go.RowKit Sx NatA NatB NatC NatD NatI NatJ IntZ RatZ
theorem aTl {a b:Nat} (ha:a≠0) (hb:b≠0) (h:dnc a=dnc b):a=b:=by
 have h1:=aJx ha
 rw [h,aJx hb] at h1
 omega
theorem aPQ (x y:Rat):aAS [.bool (I x.num).1,.string (I x.num).2,.string (dnc x.den)] [.bool (I y.num).1,.string (I y.num).2,.string (dnc y.den)]=decide (x=y):=by
 have e:aAS [.bool (I x.num).1,.string (I x.num).2,.string (dnc x.den)] [.bool (I y.num).1,.string (I y.num).2,.string (dnc y.den)]=((I x.num).1 == (I y.num).1 && (aCC (.string (I x.num).2) (.string (I y.num).2) && (aCC (.string (dnc x.den)) (.string (dnc y.den)) && true))):=rfl
 rw [e,aJG,aJG,Bool.eq_iff_iff,Bool.and_true,Bool.and_eq_true,Bool.and_eq_true,beq_iff_eq,decide_eq_true_iff,decide_eq_true_iff,decide_eq_true_iff]
 constructor
 ·rintro ⟨h1,h2,h3⟩
  exact Rat.ext (aRW.1 (Prod.ext h1 h2)) (aTl x.den_nz y.den_nz h3)
 ·rintro rfl
  exact ⟨rfl,rfl,rfl⟩
theorem aGp (k:Bool) (x y:Rat):(Pu.bin .neq 27 k).run Tryz.prog [.agg (encR x),.agg (encR y)]=some (b_ (!decide (x=y))):=by
 rw [<- aPQ]
 exact (aDO (P:=Tryz.prog) (t:=27) k (ks:=[.b,.s,.s]) kK kK (xs:=[.bool (I x.num).1,.string (I x.num).2,.string (dnc x.den)]) (ys:=[.bool (I y.num).1,.string (I y.num).2,.string (dnc y.den)]) rfl rfl).2
end Go.Proofs.YtjefbecmeobegaaGreatDoor.Sp
