import Derived.Test.YtjefbecmeobegaaGreatDoorSpR
import Derived.Test.YtjefbecmeobegaaGreatDoorSpI
import Derived.Test.YtjefbecmeobegaaGreatDoorTr1
namespace Go.Proofs.YtjefbecmeobegaaGreatDoor.Sp
open Go Go.RowKit Sx NatA NatB NatC NatD NatI NatJ IntZ RatZ
theorem Sz.sg {s : Nat} {x : Nat} (b : Bool) (h : (N x).size ≤ s) : Sz s (sg b x) := by
 show (N (IntZ.sg b x).natAbs).size ≤ s
 rw [aB6]
 exact h
def tbSa : Tb := [(95, aDd)]
theorem okSa : TbOk Tryz.prog X.G tbSa := .cons (by kernel_rfl) (aNk aNl (S1.weak (by decide))) trivial
theorem aRp : Sx.Good Tryz.prog X.G 96 ⟨[.one, .one], .v1 (.agg 2)⟩ aA8 := aAg okSa (fun _ _ => X.G_below) 400 (by kernel_rfl) (by kernel_rfl : _ = some aCd) fun ds rs h => by
 obtain ⟨n, a, rfl, ha, rfl⟩ := I1.inv h
 refine ⟨0, aAc aDd rfl rfl (S1.eq (by omega)) rfl ?_⟩
 show _ = some (enc (sg n (V a)))
 generalize NatA.V a = x
 refine aA0 rfl (fun h => ?_) (fun h => ?_)
 ·subst h
  refine aAi rfl (aFT _ _ _ _) (aAd ?_)
  show some [b_ (!decide (N x = (⟨#[]⟩ : ByteArray))), s_ (N x)] = some [b_ (I (sg true x)).1, s_ (I (sg true x)).2]
  rw [aJr, aFQ]
 ·subst h
  refine aAd ?_
  show some [b_ false, s_ (N x)] = some [b_ (I (sg false x)).1, s_ (I (sg false x)).2]
  rw [aFQ, aIk]
def tbSb : Tb := [(97, aFR), (96, aA8)]
theorem okSb : TbOk Tryz.prog X.G tbSb := .cons (by kernel_rfl) aRq (.cons (by kernel_rfl) aRp trivial)
theorem aQD : Sx.Good Tryz.prog X.G 36 ⟨[.agg 2, .agg 2], .v1 (.agg 2)⟩ aAr := aAg okSb (fun _ _ => X.G_below) 400 (by kernel_rfl) (by kernel_rfl : _ = some aFj) fun ds rs h => by
 obtain ⟨n, a, m, b, rfl, ha, hb, rfl⟩ := I2.inv h
 have sm : (N (V a * V b)).size ≤ 18000 := Nat.le_trans (aLV a b) (by omega)
 refine ⟨0, aAi rfl (aD5 _ _ _ _ aBH) (aAc aFR rfl rfl (S2.eq (by omega) (by omega)) rfl (aAc aA8 rfl rfl (I1.eq (by omega)) rfl (aAd ?_)))⟩
 show some (enc (sg (n != m) (V (N (V a * V b))))) = some (enc (sg n (V a) * sg m (V b)))
 rw [V_N, aNe]
theorem aPV : Sx.Good Tryz.prog X.G 35 ⟨[.agg 2], .v1 .one⟩ aAI := aAg okSa (fun _ _ => X.G_below) 400 (by kernel_rfl) (by kernel_rfl : _ = some aBK) fun ds rs h => by
 obtain ⟨n, a, rfl, ha, rfl⟩ := I1.inv h
 refine ⟨0, aAc aDd rfl rfl (S1.eq (by omega)) rfl ?_⟩
 show _ = some [i_ (sgn (sg n (V a)))]
 rw [aQ9]
 generalize NatA.V a = x
 refine aAi rfl (aEt _ _ _ _) ?_
 refine aA0 rfl (fun h => ?_) (fun h => ?_)
 ·rw [if_pos (N_nil.1 (of_decide_eq_true h))]
  exact aAd rfl
 ·rw [if_neg (fun e => of_decide_eq_false h (N_nil.2 e))]
  refine aA0 rfl (fun h => ?_) (fun h => ?_)
  ·rw [if_pos h]
   exact aAd rfl
  ·rw [if_neg (by rw [h]; decide)]
   exact aAd rfl
end Go.Proofs.YtjefbecmeobegaaGreatDoor.Sp
