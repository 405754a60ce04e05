import Derived.Test.YtjefbecmeobegaaGreatDoorSpQ
import Derived.Test.YtjefbecmeobegaaGreatDoorSh
import Derived.Test.YtjefbecmeobegaaGreatDoorTr1
import Derived.Lib.Join
namespace Go.Proofs.YtjefbecmeobegaaGreatDoor.Sp
open Go Go.RowKit Sx NatA NatB NatC NatD NatI NatJ IntZ RatZ
theorem aDR {s t:Nat} {x y:Rat} (hx:Sq s x) (hy:Sq t y):Sq (s+t+1) (x - y):=by
 rw [Rat.sub_eq_add_neg]
 exact hx.add hy.neg
theorem aLT (q:Rat):(sgn q.num=0) ↔ q=0:=by
 have:=aEQ (z:=q.num)
 rw [Bool.eq_iff_iff,beq_iff_eq,decide_eq_true_iff,Rat.num_eq_zero] at this
 exact this
theorem aJd (z:Int):sgn z < 0 ↔ z < 0:=by
 unfold sgn
 split
 ·omega
 ·split<;>omega
theorem aDe {P:Program} {C:Cf} {m:Nat} {L:List T} {env r:List D} {i:Nat} {t e:T} {b:Bool} (hb:env[i]?=some (b_ b)) (hx:b=true) (h:t.run P C m L env=some r):(T.ite i t e).run P C m L env=some r:=aBj (hx ▸ hb) h
theorem aF1 {P:Program} {C:Cf} {m:Nat} {L:List T} {env r:List D} {i:Nat} {t e:T} {b:Bool} (hb:env[i]?=some (b_ b)) (hx:b=false) (h:e.run P C m L env=some r):(T.ite i t e).run P C m L env=some r:=aBe (hx ▸ hb) h
def aAw (q:Rat):ByteArray:=if q.den=1 then aBz q.num else aBz q.num++(⟨#[47]⟩:ByteArray)++aBz (q.den:Int)
def aBG:Fct:=R1 3000 fun q=>[s_ (aAw q)]
theorem aDj {s:Nat} {z:Int} (h:Sz s z):(aBz z).size≤3*s+2:=by
 have hd:=aJN h
 unfold aBz
 split
 ·rw [ByteArray.size_append,aBx]
  have:(⟨#[45]⟩:ByteArray).size=1:=rfl
  omega
 ·rw [aBx]
  omega
theorem aDk {s:Nat} {q:Rat} (h:Sq s q):(aAw q).size≤6*s+5:=by
 have h1:=aDj h.1
 have h2:=aDj h.2
 unfold aAw
 split
 ·omega
 ·have:(⟨#[47]⟩:ByteArray).size=1:=rfl
  rw [ByteArray.size_append,ByteArray.size_append]
  omega
theorem aNa {d:Nat} (h:d≠0):dnc d=(⟨#[]⟩:ByteArray) ↔ d=1:=by
 unfold dnc
 split
 ·exact ⟨fun _=>‹_›,fun _=>rfl⟩
 ·rw [N_nil]
  omega
theorem g_rfmt:Sx.Good Tryz.prog X.G 82 ⟨[.agg 3],.v1 .one⟩ aBG:=aAd aQC (fun _ _=>X.G_below) 400 (by kernel_rfl) (by kernel_rfl:_=some aHO) fun ds rs h=>by
 obtain ⟨n,a,b,rfl,ha,hb,rfl⟩:=R1.inv h
 have hq:Sq 3000 (qv n a b):=.qv (by decide) ha hb
 refine ⟨0,aAb aAR rfl rfl (R1.eq (by omega) (by omega)) rfl (aAb aDU rfl rfl (R1.eq (by omega) (by omega)) rfl (aAe rfl (aBN _ _ _ _) ?_))⟩
 generalize qv n a b=q at *
 have z1:=aDj hq.1
 have z2:=aDj hq.2
 unfold aAw
 refine aA0 rfl (fun e=>?_) (fun e=>?_)
 ·rw [if_pos ((aNa q.den_nz).1 (of_decide_eq_true e))]
  exact aAb aBW rfl rfl (I1.can (hq.1.le (by decide))) rfl (aAc rfl)
 ·rw [if_neg fun h=>of_decide_eq_false e ((aNa q.den_nz).2 h)]
  refine aAb aBW rfl rfl (I1.can (hq.1.le (by decide))) rfl (aAe rfl (aBf _ _ _ _ ?_) (aAb aBW rfl rfl (I1.can (hq.2.le (by decide))) rfl (aAe rfl (aBf _ _ _ _ ?_) (aAc rfl))))
  ·have:(⟨#[47]⟩:ByteArray).size=1:=rfl
   omega
  ·have:(⟨#[47]⟩:ByteArray).size=1:=rfl
   rw [ByteArray.size_append]
   omega
def aC6 (xs:List ByteArray) (sep:ByteArray):ByteArray:=⟨(Lib.join (xs.map (·.data.toList)) sep.data.toList).toArray⟩
def strs:List D→Option (List ByteArray)
 | []=>some []
 | .v (.string a)::l=>(strs l).map (a::·)
 | _=>none
def aFV:Fct
 | [.l n ds,.v (.string sep)]=>(strs ds).bind fun xs=>if n=xs.length∧xs≠[]∧xs.length≤1000∧(aC6 xs sep).size≤1000000 then some [s_ (aC6 xs sep)] else none
 | _=>none
theorem aLU:∀ {ds:List D} {xs:List ByteArray},strs ds=some xs→ds=xs.map s_
 | [],xs,h=>by
  obtain rfl:=Option.some.inj h
  rfl
 | d::ds,xs,h=>by
  unfold strs at h
  split at h
  ·rename_i h2
   cases h2
  ·rename_i a l h2
   injection h2 with h3 h4
   subst h3
   subst h4
   obtain ⟨ys,h5,rfl⟩:=Option.map_eq_some_iff.1 h
   rw [aLU h5]
   rfl
  ·cases h
theorem aKt {h:Hp} {b:Nat}:∀ {xs:List ByteArray} {o:Nat},D.ats h b o (xs.map s_)→∀ (j:Nat) x,xs[j]?=some x→h b (o+j)=some (.string x)
 | [],_,_,j,x,hj=>by simp at hj
 | y::ys,o,⟨⟨v,hv,hd⟩,ht⟩,j,x,hj=>by
  cases j with
  | zero =>
   obtain rfl:y=x:=by simpa using hj
   obtain rfl:=(D.at_v.1 hd).1
   exact hv
  | succ j =>
   have:=aKt ht j x (by simpa using hj)
   rw [show o+(j+1)=o+1+j by omega]
   exact this
theorem aNX (x:ByteArray) (r:List ByteArray) (sep:ByteArray):(aC6 (x::r) sep).size=sep.size*r.length+((x::r).map (·.size)).sum:=by
 unfold aC6
 rw [aHH,List.map_cons,Lib.join_length,List.length_map]
 unfold Lib.lens
 rw [← List.map_cons (f:=fun b:ByteArray=>b.data.toList),List.map_map]
 rfl
theorem g_join:Sx.Good Tryz.prog X.G 83 ⟨[.one,.one],.v1 .one⟩ aFV:=by
 intro ds rs hF h w args hw hh ha
 unfold aFV at hF
 split at hF
 ·rename_i n ds sep
  obtain ⟨xs,h1,h2⟩:=Option.bind_eq_some_iff.1 hF
  split at h2
  ·rename_i hc
   obtain ⟨rfl,h3,h4,h5⟩:=hc
   obtain rfl:=Option.some.inj h2
   obtain rfl:=aLU h1
   obtain ⟨d1,d2,v,vs,e1,rfl,⟨d,rfl,g1⟩,⟨d3,d4,v2,vs2,e2,rfl,⟨d',rfl,g2⟩,⟨e3,e4⟩⟩⟩:=ha
   obtain ⟨rfl,rfl⟩:=List.cons.inj e1
   subst e3
   subst e4
   obtain ⟨rfl,-⟩:=List.cons.inj e2
   obtain rfl:=(D.at_v.1 g2).1
   unfold D.at at g1
   obtain ⟨a,c,rfl,hle,hd⟩:=g1
   rcases hd with hd | ⟨b,o,rfl,hd⟩
   ·exact absurd (List.map_eq_nil_iff.1 hd) h3
   ·have hcell:∀ (j:Nat) x,xs[j]?=some x→w.cell? ⟨b,o+j,none⟩=some (.string x):=fun j x hx=>hh b (o+j) _ (aKt hd j x hx)
    have hbk:b < w.heap.size:=by
     cases xs with
     | nil=>exact absurd rfl h3
     | cons x xs=>exact aCE (hcell 0 x rfl)
    refine (Go.Proofs.Tryz.strings_Join b o c xs sep w hcell hbk (by omega) hle (by unfold aC6 at h5;rw [aHH] at h5;omega)).mono ?_
    rintro e w' ⟨rfl,hb⟩
    refine ⟨_,h,rfl,hb,Hp.le.refl _,fun b' o' x e=>⟨?_,.inr e⟩,?_⟩
    ·have h6:=hh b' o' x e
     rw [hb.cell (p:=⟨b',o',none⟩) (aCE h6)]
     exact h6
    ·exact ⟨_,rfl,D.at_v.2 ⟨rfl,rfl⟩⟩
  ·cases h2
 ·cases hF
theorem aHX (A B C sep:ByteArray):(aC6 [A,B,C] sep).size=sep.size*2+(A.size+(B.size+C.size)):=by
 rw [aNX]
 simp
theorem aQk (A B C sep:ByteArray) (h:sep.size*2+(A.size+(B.size+C.size))≤1000000):aFV [.l 3 [s_ A,s_ B,s_ C],s_ sep]=some [s_ (aC6 [A,B,C] sep)]:=by
 show (if 3=3∧[A,B,C]≠[]∧3≤1000∧(aC6 [A,B,C] sep).size≤1000000 then some [s_ (aC6 [A,B,C] sep)] else none)=_
 exact if_pos ⟨rfl,by simp,by decide,by rw [aHX];exact h⟩
def tbO:Tb:=(83,aFV)::(82,aBG)::aQB
theorem okO:TbOk Tryz.prog X.G tbO:=.cons (by kernel_rfl) g_join (.cons (by kernel_rfl) g_rfmt aQC)
end Go.Proofs.YtjefbecmeobegaaGreatDoor.Sp
