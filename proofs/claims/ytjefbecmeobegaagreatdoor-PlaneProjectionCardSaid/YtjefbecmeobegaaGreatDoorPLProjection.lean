/- MERGED by merge.py: TrLPlaneProjection PurePlaneProjection -/
import Derived.Test.YtjefbecmeobegaaGreatDoorSx1
import Derived.Test.YtjefbecmeobegaaGreatDoorSpPq
import Derived.Test.YtjefbecmeobegaaGreatDoorSpPa
namespace Go.Proofs.YtjefbecmeobegaaGreatDoor.Sp
open Go Sx
def aDJ:T:=.call 37 [] 1 (.pure (.un .not) [.one (.var 19)] (.ite 20 (.ret [.const (.bool .false)]) (.call 69 [.var 8,.var 9,.var 10,.var 11,.var 12,.var 13,.var 14,.var 15] 1 (.pure (.bin .eql 3 .true) [.one (.var 21),.one (.const (.int .i64 1))] (.ite 22 (.ret [.const (.bool .true)]) (.call 101 [.var 0,.var 1,.var 2,.var 3,.var 4,.var 5,.var 6,.var 7] 1 (.pure (.bin .eql 3 .true) [.one (.var 23),.one (.const (.int .i64 1))] (.ite 24 (.ret [.const (.bool .true)]) (.pure (.blt .len 9) [.one (.var 17)] (.pure (.bin .gtr 3 .true) [.one (.var 25),.one (.const (.int .i64 6))] (.ite 26 (.ret [.const (.bool .true)]) (.pure (.blt .len 9) [.one (.var 18)] (.pure (.bin .gtr 3 .true) [.one (.var 27),.one (.const (.int .i64 6))] (.ite 28 (.ret [.const (.bool .true)]) (.call 41 [.var 0,.var 1,.var 2,.var 3,.var 4,.var 5,.var 6,.var 7] 9 (.pure (.un .not) [.one (.var 37)] (.ite 38 (.ret [.const (.bool .true)]) (.call 20 [.var 8,.var 9,.var 10,.var 11,.var 12,.var 13,.var 14,.var 15] 8 (.call 58 [.var 16,.var 17,.var 18] 3 (.call 59 [.var 29,.var 30,.var 31,.var 32,.var 33,.var 34,.var 35,.var 36] 2 (.call 60 [.var 29,.var 30,.var 31,.var 32,.var 33,.var 34,.var 35,.var 36] 2 (.call 61 [.var 29,.var 30,.var 31,.var 32,.var 33,.var 34,.var 35,.var 36,.var 39,.var 40,.var 41,.var 42,.var 43,.var 44,.var 45,.var 46] 8 (.pure (.bin .neq 3 .false) [.one (.var 50),.one (.var 52)] (.ite 62 (.ret [.const (.bool .false)]) (.pure (.bin .neq 4 .false) [.one (.var 51),.one (.var 53)] (.ite 63 (.ret [.const (.bool .false)]) (.call 62 [.var 29,.var 30,.var 31,.var 32,.var 33,.var 34,.var 35,.var 36,.var 39,.var 40,.var 41,.var 42,.var 43,.var 44,.var 45,.var 46] 8 (.pure (.bin .neq 25 .false) [.agg [.var 54,.var 55,.var 56,.var 57,.var 58,.var 59,.var 60,.var 61],.agg [.var 64,.var 65,.var 66,.var 67,.var 68,.var 69,.var 70,.var 71]] (.ite 72 (.ret [.const (.bool .false)]) (.call 63 [.var 29,.var 30,.var 31,.var 32,.var 33,.var 34,.var 35,.var 36,.var 47,.var 48,.var 49] 8 (.call 64 [.var 29,.var 30,.var 31,.var 32,.var 33,.var 34,.var 35,.var 36,.var 47,.var 48,.var 49] 8 (.pure (.bin .neq 53 .false) [.agg [.var 73,.var 74,.var 75,.var 76,.var 77,.var 78,.var 79,.var 80],.agg [.var 81,.var 82,.var 83,.var 84,.var 85,.var 86,.var 87,.var 88]] (.ite 89 (.ret [.const (.bool .false)]) (.call 52 [.var 29,.var 30,.var 31,.var 32,.var 33,.var 34,.var 35,.var 36,.var 54,.var 55,.var 56,.var 57,.var 58,.var 59,.var 60,.var 61] 1 (.pure (.bin .neq 3 .true) [.one (.var 90),.one (.const (.int .i64 0))] (.ite 91 (.ret [.const (.bool .false)]) (.call 61 [.var 29,.var 30,.var 31,.var 32,.var 33,.var 34,.var 35,.var 36,.var 54,.var 55,.var 56,.var 57,.var 58,.var 59,.var 60,.var 61] 8 (.pure (.bin .neq 25 .false) [.agg [.var 92,.var 93,.var 94,.var 95,.var 96,.var 97,.var 98,.var 99],.agg [.var 54,.var 55,.var 56,.var 57,.var 58,.var 59,.var 60,.var 61]] (.ite 100 (.ret [.const (.bool .false)]) (.call 22 [.var 39,.var 40,.var 41,.var 42,.var 43,.var 44,.var 45,.var 46] 9 (.call 22 [.var 54,.var 55,.var 56,.var 57,.var 58,.var 59,.var 60,.var 61] 9 (.pure (.bin .neq 3 .false) [.one (.const (.int .i64 0)),.one (.var 50)] (.ite 119 (.pure (.bin .neq 27 .false) [.agg [.var 101,.var 102,.var 103],.agg [.var 110,.var 111,.var 112]] (.ite 120 (.ret [.const (.bool .false)]) (.pure (.bin .neq 3 .false) [.one (.const (.int .i64 1)),.one (.var 50)] (.ite 121 (.pure (.bin .neq 27 .false) [.agg [.var 104,.var 105,.var 106],.agg [.var 113,.var 114,.var 115]] (.ite 122 (.ret [.const (.bool .false)]) (.pure (.bin .neq 3 .false) [.one (.const (.int .i64 2)),.one (.var 50)] (.ite 123 (.pure (.bin .neq 27 .false) [.agg [.var 107,.var 108,.var 109],.agg [.var 116,.var 117,.var 118]] (.ite 124 (.ret [.const (.bool .false)]) (.ret [.const (.bool .true)]))) (.ret [.const (.bool .true)]))))) (.pure (.bin .neq 3 .false) [.one (.const (.int .i64 2)),.one (.var 50)] (.ite 122 (.pure (.bin .neq 27 .false) [.agg [.var 107,.var 108,.var 109],.agg [.var 116,.var 117,.var 118]] (.ite 123 (.ret [.const (.bool .false)]) (.ret [.const (.bool .true)]))) (.ret [.const (.bool .true)]))))))) (.pure (.bin .neq 3 .false) [.one (.const (.int .i64 1)),.one (.var 50)] (.ite 120 (.pure (.bin .neq 27 .false) [.agg [.var 104,.var 105,.var 106],.agg [.var 113,.var 114,.var 115]] (.ite 121 (.ret [.const (.bool .false)]) (.pure (.bin .neq 3 .false) [.one (.const (.int .i64 2)),.one (.var 50)] (.ite 122 (.pure (.bin .neq 27 .false) [.agg [.var 107,.var 108,.var 109],.agg [.var 116,.var 117,.var 118]] (.ite 123 (.ret [.const (.bool .false)]) (.ret [.const (.bool .true)]))) (.ret [.const (.bool .true)]))))) (.pure (.bin .neq 3 .false) [.one (.const (.int .i64 2)),.one (.var 50)] (.ite 121 (.pure (.bin .neq 27 .false) [.agg [.var 107,.var 108,.var 109],.agg [.var 116,.var 117,.var 118]] (.ite 122 (.ret [.const (.bool .false)]) (.ret [.const (.bool .true)]))) (.ret [.const (.bool .true)]))))))))))))))))))))))))))))))))))))))))))))))))
end Go.Proofs.YtjefbecmeobegaaGreatDoor.Sp
namespace Go.Proofs.YtjefbecmeobegaaGreatDoor.Sp
open Go Go.RowKit Sx NatA NatB NatC NatD NatI NatJ IntZ RatZ PtZ PlZ
theorem aPZ {p:Z4} {v:V3} (hp:S4 6 p) (hv:Sv 6 v):Sv 38 (prj p v):=by
 have a:=aAI kQ hp.1
 have b:=aAI kQ hp.2.1
 have c:=aAI kQ hp.2.2.1
 have d:=aAI kQ hp.2.2.2
 obtain ⟨v1,v2,v3⟩:=hv
 unfold prj
 rcases aCA p with e | e | e<;>rw [e]
 ·exact ⟨aDY kQ (aBm (aBm d (Sq.mul kQ b v2)) (Sq.mul kQ c v3)) a,v2.le kQ,v3.le kQ⟩
 ·exact ⟨v1.le kQ,aDY kQ (aBm (aBm d (Sq.mul kQ a v1)) (Sq.mul kQ c v3)) b,v3.le kQ⟩
 ·exact ⟨v1.le kQ,v2.le kQ,aDY kQ (aBm (aBm d (Sq.mul kQ a v1)) (Sq.mul kQ b v2)) c⟩
theorem aQa {q:Z4} (h:¬ Flat q) (u:V3):sgn (sdz q (pt (prj q u)))=0:=by
 rw [aTd,aUa h]
 rfl
theorem aLq {s t:Nat} {z:Z4} {u:V3} {a:List D} (h:PI s z a) (g:Sv t u) (hs:s<=40) (ht:3*t<=120):aCO (a++aAF u)=some (aAF (prj z u)):=by
 have:=Fo.eq (g:=λ p:Z4 × Z4=>aAF (prj p.1 (pv4 p.2))) (v:=(z,pt u)) (aHp 40 120) (And2.mk' (h.le hs) ((S18 g).le ht))
 dsimp only at this
 rw [aOK] at this
 exact this
theorem aUq {q:Z4} (h:axz q=0) (u:V3):(prj q u).2.1=u.2.1/\(prj q u).2.2=u.2.2:=by
 unfold prj
 rw [h]
 exact ⟨rfl,rfl⟩
theorem aUr {q:Z4} (h:axz q=1) (u:V3):(prj q u).1=u.1/\(prj q u).2.2=u.2.2:=by
 unfold prj
 rw [h]
 exact ⟨rfl,rfl⟩
theorem aUs {q:Z4} (h:axz q=2) (u:V3):(prj q u).1=u.1/\(prj q u).2.1=u.2.1:=by
 unfold prj
 rw [h]
 exact ⟨rfl,rfl⟩
def tbL5:Tb:=[(41,aBs),(20,aBg),(58,aCP),(60,aA8),(61,aCO),(62,aCO),(64,aDd),(22,aAr)]++tbLb
theorem okL5:TbOk Tryz.prog X.G tbL5:=(.cons kK aMS (.cons kK aKn (.cons kK aN9 (.cons kK aJ5 (.cons kK g_lproj (.cons kK aSq (.cons kK aTr (.cons kK aKL okLb))))))))
set_option maxHeartbeats 4000000 in
theorem g_PlaneProjection:Sx.Good Tryz.prog X.G 14 ⟨[.agg 8,.agg 8,.agg 3],.v1 .one⟩ (F_true (kP++kP++kR++[])):=aAe okL5 (λ _ _=>X.G_below) 400 kK (by kernel_rfl:_=some aDJ) λ ds rs h=>by
 obtain ⟨vs,h0,rfl,rfl⟩:=F_true.inv h
 obtain ⟨n01,a01,n02,a02,n03,a03,n04,a04,r1,rfl,h1⟩:=aSh (ks:=(kP++kR++[])) h0
 obtain ⟨n11,a11,n12,a12,n13,a13,n14,a14,r2,rfl,h2⟩:=aSh (ks:=(kR++[])) h1
 obtain ⟨n21,a21,b21,r3,rfl,h3⟩:=aUI (ks:=([])) h2
 obtain rfl:=aTp h3
 clear h h0 h1 h2 h3
 refine ⟨0,?_⟩
 refine gC aGq awk (gP (aDM true) (aBp (b:=!true) kK rfl ?_))
 rcases aM8 n11 a11 n12 a12 n13 a13 n14 a14 with g1 | ⟨g1,i1⟩
 ·exact gC aBX g1 (gP (aAU _ _ .i64 1 1) (aBG (b:=(1:Int) == 1) kK rfl (aAc kK)))
 refine gC aBX g1 (gP (aAU _ _ .i64 0 1) (aBp (b:=(0:Int) == 1) kK rfl ?_))
 clear g1
 rcases aM8 n01 a01 n02 a02 n03 a03 n04 a04 with g1 | ⟨g1,i0⟩
 ·exact gC aBX g1 (gP (aAU _ _ .i64 1 1) (aBG (b:=(1:Int) == 1) kK rfl (aAc kK)))
 refine gC aBX g1 (gP (aAU _ _ .i64 0 1) (aBp (b:=(0:Int) == 1) kK rfl ?_))
 clear g1
 obtain ⟨u1,hu1⟩:∃ v,v=pv4 (Z n11 a11,Z n12 a12,Z n13 a13,Z n14 a14):=⟨_,rfl⟩
 have Pu1:PA 6 u1 [b_ n11,s_ a11,b_ n12,s_ a12,b_ n13,s_ a13,b_ n14,s_ a14]:=by rw [hu1];exact PA.raw i1
 have s_u1:Sv 6 u1:=Pu1.sv kQ
 obtain ⟨z0,hz0⟩:∃ v,v=(Z n01 a01,Z n02 a02,Z n03 a03,Z n04 a04):=⟨_,rfl⟩
 have Iz0:PI 6 z0 [b_ n01,s_ a01,b_ n02,s_ a02,b_ n03,s_ a03,b_ n04,s_ a04]:=by rw [hz0];exact i0
 have Sz0:S4 6 z0:=Iz0.s4
 clear hz0 i0
 refine gP (aAw aBV a21) (gP (aAz _ _ .i64 (a21.size:Int) 6) (aAy (b:=decide ((a21.size:Int) > 6)) kK (λ _=>aAc kK) (λ wa21=>?_)))
 have wa21:=aD4 (k:=6) wa21
 refine gP (aAw aBV b21) (gP (aAz _ _ .i64 (b21.size:Int) 6) (aAy (b:=decide ((b21.size:Int) > 6)) kK (λ _=>aAc kK) (λ wb21=>?_)))
 have wb21:=aD4 (k:=6) wb21
 obtain ⟨t,ht⟩:∃ v,v=qv n21 a21 b21:=⟨_,rfl⟩
 have Rt:RI 6 t [b_ n21,s_ a21,s_ b21]:=by rw [ht];exact .raw n21 wa21 wb21
 clear ht
 have st:Sq 6 t:=Rt.sq kQ
 have n0:aBs [b_ n01,s_ a01,b_ n02,s_ a02,b_ n03,s_ a03,b_ n04,s_ a04]=some (aBR (plz z0)):=aM6 Iz0 kQ
 rcases aPO z0 with e0 | ⟨q0,e0⟩
 ·rw [e0,aHo] at n0
  exact gC aBs n0 (gP (aDM false) (aBG (b:=!false) kK rfl (aAc kK)))
 have Cq0:Pc q0:=(aPN e0).1
 have Sq0:S4 6 q0:=aRe Sz0 e0
 rw [e0] at n0
 have n0:aBs [b_ n01,s_ a01,b_ n02,s_ a02,b_ n03,s_ a03,b_ n04,s_ a04]=some (enc4 q0++[b_ true]):=n0
 clear e0
 refine gC aBs n0 (gP (aDM true) (aBp (b:=!true) kK rfl ?_))
 clear n0
 have N1:aBg ([b_ n11,s_ a11,b_ n12,s_ a12,b_ n13,s_ a13,b_ n14,s_ a14])=some (aAF u1):=aRg Pu1 kQ
 have N2:aCP [b_ n21,s_ a21,s_ b21]=some (encR t):=R1.at Rt kQ
 have ka:aA8 (enc4 q0)=some [i_ (axz q0:Int),b_ (decide (sgn (ix3 q0 (axz q0)) > 0))]:=Fo.eq (aAt 2000) (PI.can (Sq0.le kQ))
 have nf:=Cq0.nflat
 obtain ⟨y,hy⟩:∃ y,y=prj q0 u1:=⟨_,rfl⟩
 have sy:Sv 38 y:=by rw [hy];exact aPZ Sq0 s_u1
 have kp:aCO (enc4 q0++aAF u1)=some (aAF y):=by rw [hy];exact aLq (PI.can Sq0) s_u1 kQ kQ
 have ko:aDd (enc4 q0++encR t)=some (enc4 (off q0 t).1):=aND (PI.can Sq0) (RI.can st) kQ kQ
 have ks:aEb (enc4 q0++aAF y)=some [i_ 0]:=by
  have h:=aM7 (PI.can Sq0) (S18 sy) kQ kQ
  rw [hy,aQa nf,<- hy] at h
  exact h
 have kq:aCO (enc4 q0++aAF y)=some (aAF y):=by
  have h:=aLq (PI.can Sq0) sy kQ kQ
  rw [hy,aTe,<- hy] at h
  exact h
 have c1:aAr (aAF u1)=some (aCB u1):=aJ4 (PA.can s_u1) kQ
 have c2:aAr (aAF y)=some (aCB y):=aJ4 (PA.can sy) kQ
 have e0:=λ h=>aUq (q:=q0) h u1
 have e1:=λ h=>aUr (q:=q0) h u1
 have e2:=λ h=>aUs (q:=q0) h u1
 rw [<- hy] at e0 e1 e2
 generalize (off q0 t).1=O at *
 generalize decide (sgn (ix3 q0 (axz q0)) > 0)=up at *
 have ac:=aCA q0
 generalize axz q0=A at *
 obtain ⟨X,hX⟩:∃ X,X=pt u1:=⟨_,rfl⟩
 obtain ⟨Y,hY⟩:∃ Y,Y=pt y:=⟨_,rfl⟩
 have ex:aAF u1=enc4 X:=by rw [hX]
 have ey:aAF y=enc4 Y:=by rw [hY]
 rw [ex] at N1 kp c1
 rw [ey] at kp ks kq c2
 obtain ⟨a1,a2,a3⟩:=u1
 obtain ⟨y1,y2,y3⟩:=y
 dsimp only at e0 e1 e2
 have c1:aAr (enc4 X)=some (encR a1++(encR a2++encR a3)):=c1
 have c2:aAr (enc4 Y)=some (encR y1++(encR y2++encR y3)):=c2
 clear hX hY ex ey hy nf sy s_u1 Cq0 Rt st
 refine gC aBg N1 (gC aCP N2 (gC aA8 ka (gC aA8 ka (gC aCO kp ?_))))
 refine gP (aAQ _ _ .i64 (A:Int) (A:Int)) (aBp (b:=(A:Int) != (A:Int)) kK (by simp) ?_)
 refine gP (aDu _ _ up up aB6) (aBp (b:=!(up == up)) kK (by simp) ?_)
 refine gC aCO kp (aAf kK (ne_4 _ Y Y) (aBp (b:=!decide (Y=Y)) kK (aER rfl) ?_))
 refine gC aDd ko (gC aDd ko (aAf kK (ne_l _ O O) (aBp (b:=!decide (O=O)) kK (aER rfl) ?_)))
 refine gC aEb ks (gP (aAQ _ _ .i64 0 0) (aBp (b:=(0:Int) != 0) kK rfl ?_))
 refine gC aCO kq (aAf kK (ne_4 _ Y Y) (aBp (b:=!decide (Y=Y)) kK (aER rfl) ?_))
 refine gC aAr c1 (gC aAr c2 ?_)
 rcases ac with rfl | rfl | rfl
 ·have f:=e0 rfl
  refine gP (aAQ _ _ .i64 0 0) (aBp (b:=(0:Int) != 0) kK rfl ?_)
  refine gP (aAQ _ _ .i64 1 0) (aBG (b:=(1:Int) != 0) kK rfl ?_)
  refine aAf kK (aGp _ a2 y2) (aBp (b:=!decide (a2=y2)) kK (aER f.1.symm) ?_)
  refine gP (aAQ _ _ .i64 2 0) (aBG (b:=(2:Int) != 0) kK rfl ?_)
  refine aAf kK (aGp _ a3 y3) (aBp (b:=!decide (a3=y3)) kK (aER f.2.symm) ?_)
  exact aAc kK
 ·have f:=e1 rfl
  refine gP (aAQ _ _ .i64 0 1) (aBG (b:=(0:Int) != 1) kK rfl ?_)
  refine aAf kK (aGp _ a1 y1) (aBp (b:=!decide (a1=y1)) kK (aER f.1.symm) ?_)
  refine gP (aAQ _ _ .i64 1 1) (aBp (b:=(1:Int) != 1) kK rfl ?_)
  refine gP (aAQ _ _ .i64 2 1) (aBG (b:=(2:Int) != 1) kK rfl ?_)
  refine aAf kK (aGp _ a3 y3) (aBp (b:=!decide (a3=y3)) kK (aER f.2.symm) ?_)
  exact aAc kK
 ·have f:=e2 rfl
  refine gP (aAQ _ _ .i64 0 2) (aBG (b:=(0:Int) != 2) kK rfl ?_)
  refine aAf kK (aGp _ a1 y1) (aBp (b:=!decide (a1=y1)) kK (aER f.1.symm) ?_)
  refine gP (aAQ _ _ .i64 1 2) (aBG (b:=(1:Int) != 2) kK rfl ?_)
  refine aAf kK (aGp _ a2 y2) (aBp (b:=!decide (a2=y2)) kK (aER f.2.symm) ?_)
  refine gP (aAQ _ _ .i64 2 2) (aBp (b:=(2:Int) != 2) kK rfl ?_)
  exact aAc kK
end Go.Proofs.YtjefbecmeobegaaGreatDoor.Sp
