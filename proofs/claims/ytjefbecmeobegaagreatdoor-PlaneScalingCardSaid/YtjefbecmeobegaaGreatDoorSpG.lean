import Derived.Test.YtjefbecmeobegaaGreatDoorSpI
namespace Go.Proofs.YtjefbecmeobegaaGreatDoor.Sp
open Go Go.RowKit Sx NatA NatB NatC NatD NatI NatJ IntZ RatZ
theorem aP5 (x y:Int):aAT [.bool (I x).1,.string (I x).2] [.bool (I y).1,.string (I y).2]=decide (x=y):=by
 have e:aAT [.bool (I x).1,.string (I x).2] [.bool (I y).1,.string (I y).2]=((I x).1 == (I y).1 && (aDg (.string (I x).2) (.string (I y).2) && true)):=rfl
 rw [e,aSh,Bool.eq_iff_iff,Bool.and_true,Bool.and_eq_true,beq_iff_eq,decide_eq_true_iff,decide_eq_true_iff,← aTR]
 exact ⟨fun h=>Prod.ext h.1 h.2,fun h=>by rw [h];exact ⟨rfl,rfl⟩⟩
theorem aIY {P:Program} {G:World→Prop} {f:FuncId} {ps:List H1} {F:Fct} {cs:List Value} (hg:Sx.Good P G f ⟨ps,.v1 .one⟩ F) (hF:F (cs.map D.v)=some [b_ true]) (hc:cs.all aAQ=true) (hl:cs.length=aDr ps) {w:World} (hw:G w) :
  Calls P f (blds ps cs).toArray w fun e w'=>e=.returned (.bool true)∧Below w.heap.size w w':=by
 refine (hg _ _ hF (fun _ _=>none) w _ hw (fun _ _ _ h=>by cases h) (aFc hc hl)).mono ?_
 rintro e w' ⟨v,h',rfl,hb,_,_,d,hd,hat⟩
 obtain rfl:b_ true=d:=(List.cons.inj hd).1
 exact ⟨congrArg Ending.returned (D.at_v.1 hat).1,hb⟩
end Go.Proofs.YtjefbecmeobegaaGreatDoor.Sp
