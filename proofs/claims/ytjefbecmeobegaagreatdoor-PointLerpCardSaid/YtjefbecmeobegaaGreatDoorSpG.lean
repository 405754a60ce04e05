import Derived.Test.YtjefbecmeobegaaGreatDoorSpI
namespace Go.Proofs.YtjefbecmeobegaaGreatDoor.Sp
open Go Go.RowKit Go.Proofs.YtjefbecmeobegaaGreatDoor.Sx Go.Proofs.YtjefbecmeobegaaGreatDoor.NatA Go.Proofs.YtjefbecmeobegaaGreatDoor.NatB Go.Proofs.YtjefbecmeobegaaGreatDoor.NatC Go.Proofs.YtjefbecmeobegaaGreatDoor.NatD Go.Proofs.YtjefbecmeobegaaGreatDoor.NatI Go.Proofs.YtjefbecmeobegaaGreatDoor.NatJ Go.Proofs.YtjefbecmeobegaaGreatDoor.IntZ Go.Proofs.YtjefbecmeobegaaGreatDoor.RatZ
theorem aNE (x y : Int) : aAz [.bool (I x).1, .string (I x).2] [.bool (I y).1, .string (I y).2] = decide (x = y) := by
 have e : aAz [.bool (I x).1, .string (I x).2] [.bool (I y).1, .string (I y).2] = ((I x).1 == (I y).1 && (aAO (.string (I x).2) (.string (I y).2) && true)) := rfl
 rw [e, aHO, Bool.eq_iff_iff, Bool.and_true, Bool.and_eq_true, beq_iff_eq, decide_eq_true_iff, decide_eq_true_iff, ← aPq]
 exact ⟨fun h => Prod.ext h.1 h.2, fun h => by rw [h]; exact ⟨rfl, rfl⟩⟩
theorem aMz {P : Program} {G : World → Prop} {f : FuncId} {ps : List H1} {F : Fct} {cs : List Value} (hg : Sx.Good P G f ⟨ps, .v1 .one⟩ F) (hF : F (cs.map D.v) = some [b_ true]) (hc : cs.all aAB = true) (hl : cs.length = aCp ps) {w : World} (hw : G w) :
  Calls P f (blds ps cs).toArray w fun e w' => e = .returned (.bool true) ∧ Below w.heap.size w w' := by
 refine (hg _ _ hF (fun _ _ => none) w _ hw (fun _ _ _ h => by cases h) (aDK hc hl)).mono ?_
 rintro e w' ⟨v, h', rfl, hb, _, _, d, hd, hat⟩
 obtain rfl : b_ true = d := (List.cons.inj hd).1
 exact ⟨congrArg Ending.returned (D.at_v.1 hat).1, hb⟩
end Go.Proofs.YtjefbecmeobegaaGreatDoor.Sp
