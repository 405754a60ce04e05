import Derived.Test.YtjefbecmeobegaaGreatDoorSpQ
import Derived.Test.YtjefbecmeobegaaGreatDoorSh
import Derived.Test.YtjefbecmeobegaaGreatDoorTr1
import Derived.Lib.Join
namespace Go.Proofs.YtjefbecmeobegaaGreatDoor.Sp
open Go Go.RowKit Sx NatA NatB NatC NatD NatI NatJ IntZ RatZ
theorem aQ4 {z:Int} (h0:-9223372036854775808≤z) (h1:z≤9223372036854775807) {s:Nat} (hs:8≤s):Sz s z:=(Sz.i64 h0 h1).le hs
theorem aGc {s t:Nat} {x y:Rat} (hx:Sq s x) (hy:Sq t y):Sq (s+t+1) (x - y):=by
 rw [Rat.sub_eq_add_neg]
 exact hx.add hy.neg
theorem aLW (q:Rat):(sgn q.num=0) ↔ q=0:=by
 have:=aBH (z:=q.num)
 rw [Bool.eq_iff_iff,beq_iff_eq,decide_eq_true_iff,Rat.num_eq_zero] at this
 exact this
theorem aM1 (z:Int):sgn (-z)=-sgn z:=by
 unfold sgn
 split<;>split<;>(try split)<;>(try split)<;>omega
theorem aGd (z:Int):sgn z < 0 ↔ z < 0:=by
 unfold sgn
 split
 ·omega
 ·split<;>omega
theorem aLX (z:Int):sgn z > 0 ↔ 0 < z:=by
 unfold sgn
 split
 ·omega
 ·split<;>omega
theorem aDK {P:Program} {C:Cf} {m:Nat} {L:List T} {env r:List D} {i:Nat} {t e:T} {b:Bool} (hb:env[i]?=some (b_ b)) (hx:b=true) (h:t.run P C m L env=some r):(T.ite i t e).run P C m L env=some r:=aBe (hx ▸ hb) h
theorem aA7 {P:Program} {C:Cf} {m:Nat} {L:List T} {env r:List D} {i:Nat} {t e:T} {b:Bool} (hb:env[i]?=some (b_ b)) (hx:b=false) (h:e.run P C m L env=some r):(T.ite i t e).run P C m L env=some r:=aBw (hx ▸ hb) h
def aCn (q:Rat):ByteArray:=if q.den=1 then aAR q.num else aAR q.num++(⟨#[47]⟩:ByteArray)++aAR (q.den:Int)
def aEz:Fct:=R1 3000 fun q=>[s_ (aCn q)]
theorem aCd {s:Nat} {z:Int} (h:Sz s z):(aAR z).size≤3*s+2:=by
 have hd:=aNb h
 unfold aAR
 split
 ·rw [ByteArray.size_append,aBZ]
  have:(⟨#[45]⟩:ByteArray).size=1:=rfl
  omega
 ·rw [aBZ]
  omega
theorem aG7 {s:Nat} {q:Rat} (h:Sq s q):(aCn q).size≤6*s+5:=by
 have h1:=aCd h.1
 have h2:=aCd h.2
 unfold aCn
 split
 ·omega
 ·have:(⟨#[47]⟩:ByteArray).size=1:=rfl
  rw [ByteArray.size_append,ByteArray.size_append]
  omega
theorem aNe {d:Nat} (h:d≠0):dnc d=(⟨#[]⟩:ByteArray) ↔ d=1:=by
 unfold dnc
 split
 ·exact ⟨fun _=>‹_›,fun _=>rfl⟩
 ·rw [N_nil]
  omega
theorem g_rfmt:Sx.Good Tryz.prog X.G 82 ⟨[.agg 3],.v1 .one⟩ aEz:=aAf aRp (fun _ _=>X.G_below) 400 (by kernel_rfl) (by kernel_rfl:_=some aHJ) fun ds rs h=>by
 obtain ⟨n,a,b,rfl,ha,hb,rfl⟩:=R1.inv h
 have hq:Sq 3000 (qv n a b):=.qv (by decide) ha hb
 refine ⟨0,aAc aAz rfl rfl (R1.eq (by omega) (by omega)) rfl (aAc aH3 rfl rfl (R1.eq (by omega) (by omega)) rfl (aAe rfl (aD0 _ _ _ _) ?_))⟩
 generalize qv n a b=q at *
 have z1:=aCd hq.1
 have z2:=aCd hq.2
 unfold aCn
 refine aAr rfl (fun e=>?_) (fun e=>?_)
 ·rw [if_pos ((aNe q.den_nz).1 (of_decide_eq_true e))]
  exact aAc aBL rfl rfl (I1.can (hq.1.le (by decide))) rfl (aAb rfl)
 ·rw [if_neg fun h=>of_decide_eq_false e ((aNe q.den_nz).2 h)]
  refine aAc aBL rfl rfl (I1.can (hq.1.le (by decide))) rfl (aAe rfl (aCS _ _ _ _ ?_) (aAc aBL rfl rfl (I1.can (hq.2.le (by decide))) rfl (aAe rfl (aCS _ _ _ _ ?_) (aAb rfl))))
  ·have:(⟨#[47]⟩:ByteArray).size=1:=rfl
   omega
  ·have:(⟨#[47]⟩:ByteArray).size=1:=rfl
   rw [ByteArray.size_append]
   omega
def aBx (xs:List ByteArray) (sep:ByteArray):ByteArray:=⟨(Lib.join (xs.map (·.data.toList)) sep.data.toList).toArray⟩
def strs:List D→Option (List ByteArray)
 | []=>some []
 | .v (.string a)::l=>(strs l).map (a::·)
 | _=>none
def aDL:Fct
 | [.l n ds,.v (.string sep)]=>(strs ds).bind fun xs=>if n=xs.length∧xs≠[]∧xs.length≤1000∧(aBx xs sep).size≤1000000 then some [s_ (aBx xs sep)] else none
 | _=>none
theorem aLY:∀ {ds:List D} {xs:List ByteArray},strs ds=some xs→ds=xs.map s_
 | [],xs,h=>by
  obtain rfl:=Option.some.inj h
  rfl
 | d::ds,xs,h=>by
  unfold strs at h
  split at h
  ·rename_i h2
   cases h2
  ·rename_i a l h2
   injection h2 with h3 h4
   subst h3
   subst h4
   obtain ⟨ys,h5,rfl⟩:=Option.map_eq_some_iff.1 h
   rw [aLY h5]
   rfl
  ·cases h
theorem aKp {h:Hp} {b:Nat}:∀ {xs:List ByteArray} {o:Nat},D.ats h b o (xs.map s_)→∀ (j:Nat) x,xs[j]?=some x→h b (o+j)=some (.string x)
 | [],_,_,j,x,hj=>by simp at hj
 | y::ys,o,⟨⟨v,hv,hd⟩,ht⟩,j,x,hj=>by
  cases j with
  | zero =>
   obtain rfl:y=x:=by simpa using hj
   obtain rfl:=(D.at_v.1 hd).1
   exact hv
  | succ j =>
   have:=aKp ht j x (by simpa using hj)
   rw [show o+(j+1)=o+1+j by omega]
   exact this
theorem aIX (x:ByteArray) (r:List ByteArray) (sep:ByteArray):(aBx (x::r) sep).size=sep.size*r.length+((x::r).map (·.size)).sum:=by
 unfold aBx
 rw [aHE,List.map_cons,Lib.join_length,List.length_map]
 unfold Lib.lens
 rw [← List.map_cons (f:=fun b:ByteArray=>b.data.toList),List.map_map]
 rfl
theorem g_join:Sx.Good Tryz.prog X.G 83 ⟨[.one,.one],.v1 .one⟩ aDL:=by
 intro ds rs hF h w args hw hh ha
 unfold aDL at hF
 split at hF
 ·rename_i n ds sep
  obtain ⟨xs,h1,h2⟩:=Option.bind_eq_some_iff.1 hF
  split at h2
  ·rename_i hc
   obtain ⟨rfl,h3,h4,h5⟩:=hc
   obtain rfl:=Option.some.inj h2
   obtain rfl:=aLY h1
   obtain ⟨d1,d2,v,vs,e1,rfl,⟨d,rfl,g1⟩,⟨d3,d4,v2,vs2,e2,rfl,⟨d',rfl,g2⟩,⟨e3,e4⟩⟩⟩:=ha
   obtain ⟨rfl,rfl⟩:=List.cons.inj e1
   subst e3
   subst e4
   obtain ⟨rfl,-⟩:=List.cons.inj e2
   obtain rfl:=(D.at_v.1 g2).1
   unfold D.at at g1
   obtain ⟨a,c,rfl,hle,hd⟩:=g1
   rcases hd with hd | ⟨b,o,rfl,hd⟩
   ·exact absurd (List.map_eq_nil_iff.1 hd) h3
   ·have hcell:∀ (j:Nat) x,xs[j]?=some x→w.cell? ⟨b,o+j,none⟩=some (.string x):=fun j x hx=>hh b (o+j) _ (aKp hd j x hx)
    have hbk:b < w.heap.size:=by
     cases xs with
     | nil=>exact absurd rfl h3
     | cons x xs=>exact aCE (hcell 0 x rfl)
    refine (Go.Proofs.Tryz.strings_Join b o c xs sep w hcell hbk (by omega) hle (by unfold aBx at h5;rw [aHE] at h5;omega)).mono ?_
    rintro e w' ⟨rfl,hb⟩
    refine ⟨_,h,rfl,hb,Hp.le.refl _,fun b' o' x e=>⟨?_,.inr e⟩,?_⟩
    ·have h6:=hh b' o' x e
     rw [hb.cell (p:=⟨b',o',none⟩) (aCE h6)]
     exact h6
    ·exact ⟨_,rfl,D.at_v.2 ⟨rfl,rfl⟩⟩
  ·cases h2
 ·cases hF
theorem aHU (A B C sep:ByteArray):(aBx [A,B,C] sep).size=sep.size*2+(A.size+(B.size+C.size)):=by
 rw [aIX]
 simp
theorem aQ5 (A B C sep:ByteArray) (h:sep.size*2+(A.size+(B.size+C.size))≤1000000):aDL [.l 3 [s_ A,s_ B,s_ C],s_ sep]=some [s_ (aBx [A,B,C] sep)]:=by
 show (if 3=3∧[A,B,C]≠[]∧3≤1000∧(aBx [A,B,C] sep).size≤1000000 then some [s_ (aBx [A,B,C] sep)] else none)=_
 exact if_pos ⟨rfl,by simp,by decide,by rw [aHU];exact h⟩
def tbO:Tb:=(83,aDL)::(82,aEz)::aRo
theorem okO:TbOk Tryz.prog X.G tbO:=.cons (by kernel_rfl) g_join (.cons (by kernel_rfl) g_rfmt aRp)
end Go.Proofs.YtjefbecmeobegaaGreatDoor.Sp
