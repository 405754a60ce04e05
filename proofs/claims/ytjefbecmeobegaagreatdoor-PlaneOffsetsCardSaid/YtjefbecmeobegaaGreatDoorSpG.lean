import Derived.Test.YtjefbecmeobegaaGreatDoorSpI
namespace Go.Proofs.YtjefbecmeobegaaGreatDoor.Sp
open Go Go.RowKit Sx NatA NatB NatC NatD NatI NatJ IntZ RatZ
theorem aKL (x y:Int):aAV [.bool (I x).1,.string (I x).2] [.bool (I y).1,.string (I y).2]=decide (x=y):=by
 have e:aAV [.bool (I x).1,.string (I x).2] [.bool (I y).1,.string (I y).2]=((I x).1 == (I y).1 && (aDw (.string (I x).2) (.string (I y).2) && true)):=rfl
 rw [e,aSN,Bool.eq_iff_iff,Bool.and_true,Bool.and_eq_true,beq_iff_eq,decide_eq_true_iff,decide_eq_true_iff,<- aUO]
 exact ⟨λ h=>Prod.ext h.1 h.2,λ h=>by rw [h];exact ⟨rfl,rfl⟩⟩
theorem aQc (k:Bool) (x y:Int):(Pu.bin .eql 23 k).run Tryz.prog [.agg (enc x),.agg (enc y)]=some (b_ (decide (x=y))):=by
 rw [<- aKL]
 exact (aIY (P:=Tryz.prog) (t:=23) k (ks:=[.b,.s]) kK kK (xs:=[.bool (I x).1,.string (I x).2]) (ys:=[.bool (I y).1,.string (I y).2]) rfl rfl).1
theorem aOD {P:Program} {G:World->Prop} {f:FuncId} {ps:List H1} {F:Fct} {cs:List Value} (hg:Sx.Good P G f ⟨ps,.v1 .one⟩ F) (hF:F (cs.map D.v)=some [b_ true]) (hc:cs.all aAS=true) (hl:cs.length=aD9 ps) {w:World} (hw:G w) :
  Calls P f (blds ps cs).toArray w λ e w'=>e=.returned (.bool true)/\Below w.heap.size w w':=by
 refine (hg _ _ hF (λ _ _=>none) w _ hw (λ _ _ _ h=>by cases h) (aFo hc hl)).mono ?_
 rintro e w' ⟨v,h',rfl,hb,_,_,d,hd,hat⟩
 obtain rfl:b_ true=d:=(List.cons.inj hd).1
 exact ⟨congrArg Ending.returned (D.at_v.1 hat).1,hb⟩
end Go.Proofs.YtjefbecmeobegaaGreatDoor.Sp
