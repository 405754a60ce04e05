import Derived.Test.YtjefbecmeobegaaGreatDoorSpQ
import Derived.Test.YtjefbecmeobegaaGreatDoorSh
import Derived.Test.YtjefbecmeobegaaGreatDoorTr1
import Derived.Lib.Join
namespace Go.Proofs.YtjefbecmeobegaaGreatDoor.Sp
open Go Go.RowKit Sx NatA NatB NatC NatD NatI NatJ IntZ RatZ
theorem aGo {s t:Nat} (hs:1<=s+t) {x y:Rat} (hx:Sq s x) (hy:Sq t y):Sq (s+t) (x / y):=by
 rw [<- Rat.num_divInt_den x,<- Rat.num_divInt_den y,aGO]
 exact Sq.divInt hs (hx.1.mul hy.2) (hx.2.mul hy.1)
theorem aBx {s t:Nat} {x y:Rat} (hx:Sq s x) (hy:Sq t y):Sq (s+t+1) (x - y):=by
 rw [Rat.sub_eq_add_neg]
 exact hx.add hy.neg
theorem aM0 (q:Rat):(sgn q.num=0) ↔ q=0:=by
 have:=aBI (z:=q.num)
 rw [Bool.eq_iff_iff,beq_iff_eq,decide_eq_true_iff,Rat.num_eq_zero] at this
 exact this
theorem aHI (z:Int):sgn z < 0 ↔ z < 0:=by
 unfold sgn
 split
 ·omega
 ·split<;>omega
theorem aGp (z:Int):sgn z > 0 ↔ 0 < z:=by
 unfold sgn
 split
 ·omega
 ·split<;>omega
theorem aBi {P:Program} {C:Cf} {m:Nat} {L:List T} {env r:List D} {i:Nat} {t e:T} {b:Bool} (hb:env[i]?=some (b_ b)) (hx:b=true) (h:t.run P C m L env=some r):(T.ite i t e).run P C m L env=some r:=aAZ (hx ▸ hb) h
theorem aE4 {P:Program} {C:Cf} {m:Nat} {L:List T} {env r:List D} {i:Nat} {t e:T} {b:Bool} (hb:env[i]?=some (b_ b)) (hx:b=false) (h:e.run P C m L env=some r):(T.ite i t e).run P C m L env=some r:=aBq (hx ▸ hb) h
def aCz (q:Rat):ByteArray:=if q.den=1 then aAT q.num else aAT q.num++(⟨#[47]⟩:ByteArray)++aAT (q.den:Int)
def aEF:Fct:=R1 3000 λ q=>[s_ (aCz q)]
theorem aCp {s:Nat} {z:Int} (h:Sz s z):(aAT z).size<=3*s+2:=by
 have hd:=aN7 h
 unfold aAT
 split
 ·rw [ByteArray.size_append,aCk]
  have:(⟨#[45]⟩:ByteArray).size=1:=rfl
  omega
 ·rw [aCk]
  omega
theorem aGQ {s:Nat} {q:Rat} (h:Sq s q):(aCz q).size<=6*s+5:=by
 have h1:=aCp h.1
 have h2:=aCp h.2
 unfold aCz
 split
 ·omega
 ·have:(⟨#[47]⟩:ByteArray).size=1:=rfl
  rw [ByteArray.size_append,ByteArray.size_append]
  omega
theorem aNA {d:Nat} (h:d≠0):dnc d=(⟨#[]⟩:ByteArray) ↔ d=1:=by
 unfold dnc
 split
 ·exact ⟨λ _=>‹_›,λ _=>rfl⟩
 ·rw [N_nil]
  omega
theorem g_rfmt:Sx.Good Tryz.prog X.G 82 ⟨[.agg 3],.v1 .one⟩ aEF:=aAe aRM (λ _ _=>X.G_below) 400 kK (by kernel_rfl:_=some aIi) λ ds rs h=>by
 obtain ⟨n,a,b,rfl,ha,hb,rfl⟩:=R1.inv h
 have hq:Sq 3000 (qv n a b):=.qv kQ ha hb
 refine ⟨0,aAb aAr rfl rfl (R1.eq kJ kJ) rfl (aAb aCO rfl rfl (R1.eq kJ kJ) rfl (aAf rfl (aC3 _ _ _ _) ?_))⟩
 generalize qv n a b=q at *
 have z1:=aCp hq.1
 have z2:=aCp hq.2
 unfold aCz
 refine aAw rfl (λ e=>?_) (λ e=>?_)
 ·rw [if_pos ((aNA q.den_nz).1 (of_decide_eq_true e))]
  exact aAb aBX rfl rfl (I1.can (hq.1.le kQ)) rfl (aAc rfl)
 ·rw [if_neg λ h=>of_decide_eq_false e ((aNA q.den_nz).2 h)]
  refine aAb aBX rfl rfl (I1.can (hq.1.le kQ)) rfl (aAf rfl (aDd _ _ _ _ ?_) (aAb aBX rfl rfl (I1.can (hq.2.le kQ)) rfl (aAf rfl (aDd _ _ _ _ ?_) (aAc rfl))))
  ·have:(⟨#[47]⟩:ByteArray).size=1:=rfl
   omega
  ·have:(⟨#[47]⟩:ByteArray).size=1:=rfl
   rw [ByteArray.size_append]
   omega
def aB7 (xs:List ByteArray) (sep:ByteArray):ByteArray:=⟨(Lib.join (xs.map (·.data.toList)) sep.data.toList).toArray⟩
def strs:List D->Option (List ByteArray)
 | []=>some []
 | .v (.string a)::l=>(strs l).map (a::·)
 | _=>none
def aEc:Fct
 | [.l n ds,.v (.string sep)]=>(strs ds).bind λ xs=>if n=xs.length/\xs≠[]/\xs.length<=1000/\(aB7 xs sep).size<=1000000 then some [s_ (aB7 xs sep)] else none
 | _=>none
theorem aM1:∀ {ds:List D} {xs:List ByteArray},strs ds=some xs->ds=xs.map s_
 | [],xs,h=>by
  obtain rfl:=Option.some.inj h
  rfl
 | d::ds,xs,h=>by
  unfold strs at h
  split at h
  ·rename_i h2
   cases h2
  ·rename_i a l h2
   injection h2 with h3 h4
   subst h3
   subst h4
   obtain ⟨ys,h5,rfl⟩:=Option.map_eq_some_iff.1 h
   rw [aM1 h5]
   rfl
  ·cases h
theorem aKK {h:Hp} {b:Nat}:∀ {xs:List ByteArray} {o:Nat},D.ats h b o (xs.map s_)->∀ (j:Nat) x,xs[j]?=some x->h b (o+j)=some (.string x)
 | [],_,_,j,x,hj=>by simp at hj
 | y::ys,o,⟨⟨v,hv,hd⟩,ht⟩,j,x,hj=>by
  cases j with
  | zero =>
   obtain rfl:y=x:=by simpa using hj
   obtain rfl:=(D.at_v.1 hd).1
   exact hv
  | succ j =>
   have:=aKK ht j x (by simpa using hj)
   rw [show o+(j+1)=o+1+j by omega]
   exact this
theorem aJ1 (x:ByteArray) (r:List ByteArray) (sep:ByteArray):(aB7 (x::r) sep).size=sep.size*r.length+((x::r).map (·.size)).sum:=by
 unfold aB7
 rw [aIa,List.map_cons,Lib.join_length,List.length_map]
 unfold Lib.lens
 rw [<- List.map_cons (f:=λ b:ByteArray=>b.data.toList),List.map_map]
 rfl
theorem g_join:Sx.Good Tryz.prog X.G 83 ⟨[.one,.one],.v1 .one⟩ aEc:=by
 intro ds rs hF h w args hw hh ha
 unfold aEc at hF
 split at hF
 ·rename_i n ds sep
  obtain ⟨xs,h1,h2⟩:=Option.bind_eq_some_iff.1 hF
  split at h2
  ·rename_i hc
   obtain ⟨rfl,h3,h4,h5⟩:=hc
   obtain rfl:=Option.some.inj h2
   obtain rfl:=aM1 h1
   obtain ⟨d1,d2,v,vs,e1,rfl,⟨d,rfl,g1⟩,⟨d3,d4,v2,vs2,e2,rfl,⟨d',rfl,g2⟩,⟨e3,e4⟩⟩⟩:=ha
   obtain ⟨rfl,rfl⟩:=List.cons.inj e1
   subst e3
   subst e4
   obtain ⟨rfl,-⟩:=List.cons.inj e2
   obtain rfl:=(D.at_v.1 g2).1
   unfold D.at at g1
   obtain ⟨a,c,rfl,hle,hd⟩:=g1
   rcases hd with hd | ⟨b,o,rfl,hd⟩
   ·exact absurd (List.map_eq_nil_iff.1 hd) h3
   ·have hcell:∀ (j:Nat) x,xs[j]?=some x->w.cell? ⟨b,o+j,none⟩=some (.string x):=λ j x hx=>hh b (o+j) _ (aKK hd j x hx)
    have hbk:b < w.heap.size:=by
     cases xs with
     | nil=>exact absurd rfl h3
     | cons x xs=>exact aCQ (hcell 0 x rfl)
    refine (Go.Proofs.Tryz.strings_Join b o c xs sep w hcell hbk kJ hle (by unfold aB7 at h5;rw [aIa] at h5;omega)).mono ?_
    rintro e w' ⟨rfl,hb⟩
    refine ⟨_,h,rfl,hb,Hp.le.refl _,λ b' o' x e=>⟨?_,.inr e⟩,?_⟩
    ·have h6:=hh b' o' x e
     rw [hb.cell (p:=⟨b',o',none⟩) (aCQ h6)]
     exact h6
    ·exact ⟨_,rfl,D.at_v.2 ⟨rfl,rfl⟩⟩
  ·cases h2
 ·cases hF
theorem aIt (A B C sep:ByteArray):(aB7 [A,B,C] sep).size=sep.size*2+(A.size+(B.size+C.size)):=by
 rw [aJ1]
 simp
theorem aRg (A B C sep:ByteArray) (h:sep.size*2+(A.size+(B.size+C.size))<=1000000):aEc [.l 3 [s_ A,s_ B,s_ C],s_ sep]=some [s_ (aB7 [A,B,C] sep)]:=by
 show (if 3=3/\[A,B,C]≠[]/\3<=1000/\(aB7 [A,B,C] sep).size<=1000000 then some [s_ (aB7 [A,B,C] sep)] else none)=_
 exact if_pos ⟨rfl,by simp,by decide,by rw [aIt];exact h⟩
def tbO:Tb:=(83,aEc)::(82,aEF)::aRL
theorem okO:TbOk Tryz.prog X.G tbO:=.cons kK g_join (.cons kK g_rfmt aRM)
end Go.Proofs.YtjefbecmeobegaaGreatDoor.Sp
