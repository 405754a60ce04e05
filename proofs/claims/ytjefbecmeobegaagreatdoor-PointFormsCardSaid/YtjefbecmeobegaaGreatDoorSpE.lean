import Derived.Test.YtjefbecmeobegaaGreatDoorSpQ
import Derived.Test.YtjefbecmeobegaaGreatDoorSpG
namespace Go.Proofs.YtjefbecmeobegaaGreatDoor.Sp
open Go Go.RowKit Sx NatA NatB NatC NatD NatI NatJ IntZ RatZ
theorem aSi {a b:Nat} (ha:a≠0) (hb:b≠0) (h:dnc a=dnc b):a=b:=by
 have h1:=aJa ha
 rw [h,aJa hb] at h1
 omega
theorem aPn (x y:Rat):aAA [.bool (I x.num).1,.string (I x.num).2,.string (dnc x.den)] [.bool (I y.num).1,.string (I y.num).2,.string (dnc y.den)]=decide (x=y):=by
 have e:aAA [.bool (I x.num).1,.string (I x.num).2,.string (dnc x.den)] [.bool (I y.num).1,.string (I y.num).2,.string (dnc y.den)]=((I x.num).1 == (I y.num).1 && (aBo (.string (I x.num).2) (.string (I y.num).2) && (aBo (.string (dnc x.den)) (.string (dnc y.den)) && true))):=rfl
 rw [e,aJs,aJs,Bool.eq_iff_iff,Bool.and_true,Bool.and_eq_true,Bool.and_eq_true,beq_iff_eq,decide_eq_true_iff,decide_eq_true_iff,decide_eq_true_iff]
 constructor
 ·rintro ⟨h1,h2,h3⟩
  exact Rat.ext (aRa.1 (Prod.ext h1 h2)) (aSi x.den_nz y.den_nz h3)
 ·rintro rfl
  exact ⟨rfl,rfl,rfl⟩
end Go.Proofs.YtjefbecmeobegaaGreatDoor.Sp
