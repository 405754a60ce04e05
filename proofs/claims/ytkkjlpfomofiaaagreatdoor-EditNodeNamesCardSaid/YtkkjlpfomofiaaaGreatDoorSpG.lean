import Derived.Test.YtkkjlpfomofiaaaGreatDoorSpI
namespace Go.Proofs.YtkkjlpfomofiaaaGreatDoor.Sp
open Go Go.RowKit Sx NatA NatB NatC NatD NatI NatJ IntZ RatZ
theorem aLW {P:Program} {G:World→Prop} {f:FuncId} {ps:List H1} {F:Fct} {cs:List Value} (hg:Sx.Good P G f ⟨ps,.v1 .one⟩ F) (hF:F (cs.map D.v)=some [b_ true]) (hc:cs.all aA5=true) (hl:cs.length=aCm ps) {w:World} (hw:G w) :
  Calls P f (blds ps cs).toArray w fun e w'=>e=.returned (.bool true)∧Below w.heap.size w w':=by
 refine (hg _ _ hF (fun _ _=>none) w _ hw (fun _ _ _ h=>by cases h) (aDt hc hl)).mono ?_
 rintro e w' ⟨v,h',rfl,hb,_,_,d,hd,hat⟩
 obtain rfl:b_ true=d:=(List.cons.inj hd).1
 exact ⟨congrArg Ending.returned (D.at_v.1 hat).1,hb⟩
end Go.Proofs.YtkkjlpfomofiaaaGreatDoor.Sp
