/- MERGED by merge.py: TrLPlaneThrough PurePlaneThrough -/
import Derived.Test.YtjefbecmeobegaaGreatDoorSx1
import Derived.Test.YtjefbecmeobegaaGreatDoorSpPr
import Derived.Test.YtjefbecmeobegaaGreatDoorSpPa
namespace Go.Proofs.YtjefbecmeobegaaGreatDoor.Sp
open Go Sx
def aEq:T:=.call 37 [] 1 (.pure (.un .not) [.one (.var 24)] (.ite 25 (.ret [.const (.bool .false)]) (.call 69 [.var 0,.var 1,.var 2,.var 3,.var 4,.var 5,.var 6,.var 7] 1 (.pure (.bin .eql 3 .true) [.one (.var 26),.one (.const (.int .i64 1))] (.ite 27 (.ret [.const (.bool .true)]) (.call 69 [.var 8,.var 9,.var 10,.var 11,.var 12,.var 13,.var 14,.var 15] 1 (.pure (.bin .eql 3 .true) [.one (.var 28),.one (.const (.int .i64 1))] (.ite 29 (.ret [.const (.bool .true)]) (.call 69 [.var 16,.var 17,.var 18,.var 19,.var 20,.var 21,.var 22,.var 23] 1 (.pure (.bin .eql 3 .true) [.one (.var 30),.one (.const (.int .i64 1))] (.ite 31 (.ret [.const (.bool .true)]) (.call 101 [.const (.bool .false),.const (.string ⟨#[]⟩),.const (.bool .false),.const (.string ⟨#[]⟩),.const (.bool .false),.const (.string ⟨#[]⟩),.const (.bool .false),.const (.string ⟨#[]⟩)] 1 (.pure (.bin .eql 3 .true) [.one (.var 32),.one (.const (.int .i64 1))] (.ite 33 (.ret [.const (.bool .true)]) (.call 20 [.var 0,.var 1,.var 2,.var 3,.var 4,.var 5,.var 6,.var 7] 8 (.call 20 [.var 8,.var 9,.var 10,.var 11,.var 12,.var 13,.var 14,.var 15] 8 (.call 20 [.var 16,.var 17,.var 18,.var 19,.var 20,.var 21,.var 22,.var 23] 8 (.call 49 [.var 34,.var 35,.var 36,.var 37,.var 38,.var 39,.var 40,.var 41,.var 42,.var 43,.var 44,.var 45,.var 46,.var 47,.var 48,.var 49,.var 50,.var 51,.var 52,.var 53,.var 54,.var 55,.var 56,.var 57] 9 (.call 50 [.var 34,.var 35,.var 36,.var 37,.var 38,.var 39,.var 40,.var 41,.var 42,.var 43,.var 44,.var 45,.var 46,.var 47,.var 48,.var 49,.var 50,.var 51,.var 52,.var 53,.var 54,.var 55,.var 56,.var 57] 9 (.pure (.bin .neq 53 .false) [.agg [.var 58,.var 59,.var 60,.var 61,.var 62,.var 63,.var 64,.var 65],.agg [.var 67,.var 68,.var 69,.var 70,.var 71,.var 72,.var 73,.var 74]] (.ite 76 (.ret [.const (.bool .false)]) (.pure (.bin .neq 4 .false) [.one (.var 66),.one (.var 75)] (.ite 77 (.ret [.const (.bool .false)]) (.call 49 [.var 42,.var 43,.var 44,.var 45,.var 46,.var 47,.var 48,.var 49,.var 50,.var 51,.var 52,.var 53,.var 54,.var 55,.var 56,.var 57,.var 34,.var 35,.var 36,.var 37,.var 38,.var 39,.var 40,.var 41] 9 (.call 49 [.var 50,.var 51,.var 52,.var 53,.var 54,.var 55,.var 56,.var 57,.var 42,.var 43,.var 44,.var 45,.var 46,.var 47,.var 48,.var 49,.var 34,.var 35,.var 36,.var 37,.var 38,.var 39,.var 40,.var 41] 9 (.pure (.un .not) [.one (.var 66)] (.ite 96 (.pure (.bin .eql 53 .false) [.agg [.var 58,.var 59,.var 60,.var 61,.var 62,.var 63,.var 64,.var 65],.agg [.const (.bool .false),.const (.string ⟨#[]⟩),.const (.bool .false),.const (.string ⟨#[]⟩),.const (.bool .false),.const (.string ⟨#[]⟩),.const (.bool .false),.const (.string ⟨#[]⟩)]] (.ite 97 (.pure (.un .not) [.one (.var 86)] (.ite 98 (.pure (.un .not) [.one (.var 95)] (.ret [.var 99])) (.ret [.const (.bool .false)]))) (.ret [.const (.bool .false)]))) (.ite 86 (.ite 95 (.pure (.bin .eql 53 .false) [.agg [.var 78,.var 79,.var 80,.var 81,.var 82,.var 83,.var 84,.var 85],.agg [.var 58,.var 59,.var 60,.var 61,.var 62,.var 63,.var 64,.var 65]] (.ite 97 (.call 51 [.var 58,.var 59,.var 60,.var 61,.var 62,.var 63,.var 64,.var 65] 8 (.pure (.bin .eql 53 .false) [.agg [.var 87,.var 88,.var 89,.var 90,.var 91,.var 92,.var 93,.var 94],.agg [.var 98,.var 99,.var 100,.var 101,.var 102,.var 103,.var 104,.var 105]] (.ite 106 (.call 52 [.var 58,.var 59,.var 60,.var 61,.var 62,.var 63,.var 64,.var 65,.var 34,.var 35,.var 36,.var 37,.var 38,.var 39,.var 40,.var 41] 1 (.pure (.bin .eql 3 .true) [.one (.var 107),.one (.const (.int .i64 0))] (.ite 108 (.call 52 [.var 58,.var 59,.var 60,.var 61,.var 62,.var 63,.var 64,.var 65,.var 42,.var 43,.var 44,.var 45,.var 46,.var 47,.var 48,.var 49] 1 (.pure (.bin .eql 3 .true) [.one (.var 109),.one (.const (.int .i64 0))] (.ite 110 (.call 52 [.var 58,.var 59,.var 60,.var 61,.var 62,.var 63,.var 64,.var 65,.var 50,.var 51,.var 52,.var 53,.var 54,.var 55,.var 56,.var 57] 1 (.pure (.bin .eql 3 .true) [.one (.var 111),.one (.const (.int .i64 0))] (.ret [.var 112]))) (.ret [.const (.bool .false)])))) (.ret [.const (.bool .false)])))) (.ret [.const (.bool .false)])))) (.ret [.const (.bool .false)]))) (.ret [.const (.bool .false)])) (.ret [.const (.bool .false)])))))))))))))))))))))))))))))
end Go.Proofs.YtjefbecmeobegaaGreatDoor.Sp
namespace Go.Proofs.YtjefbecmeobegaaGreatDoor.Sp
open Go Go.RowKit Sx NatA NatB NatC NatD NatI NatJ IntZ RatZ PtZ PlZ
def tbL5:Tb:=[(20,aAL),(50,aAV),(51,aBH)]++aOC
theorem okL5:TbOk Tryz.prog X.G tbL5:=(.cons (by kernel_rfl) aKl (.cons (by kernel_rfl) aSl (.cons (by kernel_rfl) g_lflip aRe)))
set_option maxHeartbeats 4000000 in
theorem g_PlaneThrough:Sx.Good Tryz.prog X.G 10 ⟨[.agg 8,.agg 8,.agg 8],.v1 .one⟩ (F_true (kP++kP++kP++[])):=aAe okL5 (fun _ _=>X.G_below) 400 (by kernel_rfl) (by kernel_rfl:_=some aEq) fun ds rs h=>by
 obtain ⟨vs,h0,rfl,rfl⟩:=F_true.inv h
 obtain ⟨n01,a01,n02,a02,n03,a03,n04,a04,r1,rfl,h1⟩:=aIf (ks:=(kP++kP++[])) h0
 obtain ⟨n11,a11,n12,a12,n13,a13,n14,a14,r2,rfl,h2⟩:=aIf (ks:=(kP++[])) h1
 obtain ⟨n21,a21,n22,a22,n23,a23,n24,a24,r3,rfl,h3⟩:=aIf (ks:=([])) h2
 obtain rfl:=aKo h3
 clear h h0 h1 h2 h3
 refine ⟨0,?_⟩
 refine gC aEp awk (gP (aBN true) (aB2 (b:=!true) (by kernel_rfl) rfl ?_))
 rcases aEo n01 a01 n02 a02 n03 a03 n04 a04 with g1 | ⟨g1,i0⟩
 ·exact gC aAY g1 (gP (aAD _ _ .i64 1 1) (aBQ (b:=(1:Int) == 1) (by kernel_rfl) rfl (aAc (by kernel_rfl))))
 refine gC aAY g1 (gP (aAD _ _ .i64 0 1) (aB2 (b:=(0:Int) == 1) (by kernel_rfl) rfl ?_))
 clear g1
 rcases aEo n11 a11 n12 a12 n13 a13 n14 a14 with g1 | ⟨g1,i1⟩
 ·exact gC aAY g1 (gP (aAD _ _ .i64 1 1) (aBQ (b:=(1:Int) == 1) (by kernel_rfl) rfl (aAc (by kernel_rfl))))
 refine gC aAY g1 (gP (aAD _ _ .i64 0 1) (aB2 (b:=(0:Int) == 1) (by kernel_rfl) rfl ?_))
 clear g1
 rcases aEo n21 a21 n22 a22 n23 a23 n24 a24 with g1 | ⟨g1,i2⟩
 ·exact gC aAY g1 (gP (aAD _ _ .i64 1 1) (aBQ (b:=(1:Int) == 1) (by kernel_rfl) rfl (aAc (by kernel_rfl))))
 refine gC aAY g1 (gP (aAD _ _ .i64 0 1) (aB2 (b:=(0:Int) == 1) (by kernel_rfl) rfl ?_))
 clear g1
 refine gC aAY aOB (gP (aAD _ _ .i64 0 1) (aB2 (b:=(0:Int) == 1) (by kernel_rfl) rfl ?_))
 obtain ⟨u0,hu0⟩:∃ v,v=pv4 (Z n01 a01,Z n02 a02,Z n03 a03,Z n04 a04):=⟨_,rfl⟩
 have Pu0:PA 6 u0 [b_ n01,s_ a01,b_ n02,s_ a02,b_ n03,s_ a03,b_ n04,s_ a04]:=by rw [hu0];exact PA.raw i0
 have s_u0:Sv 6 u0:=Pu0.sv (by decide)
 obtain ⟨u1,hu1⟩:∃ v,v=pv4 (Z n11 a11,Z n12 a12,Z n13 a13,Z n14 a14):=⟨_,rfl⟩
 have Pu1:PA 6 u1 [b_ n11,s_ a11,b_ n12,s_ a12,b_ n13,s_ a13,b_ n14,s_ a14]:=by rw [hu1];exact PA.raw i1
 have s_u1:Sv 6 u1:=Pu1.sv (by decide)
 obtain ⟨u2,hu2⟩:∃ v,v=pv4 (Z n21 a21,Z n22 a22,Z n23 a23,Z n24 a24):=⟨_,rfl⟩
 have Pu2:PA 6 u2 [b_ n21,s_ a21,b_ n22,s_ a22,b_ n23,s_ a23,b_ n24,s_ a24]:=by rw [hu2];exact PA.raw i2
 have s_u2:Sv 6 u2:=Pu2.sv (by decide)
 have N0:aAL ([b_ n01,s_ a01,b_ n02,s_ a02,b_ n03,s_ a03,b_ n04,s_ a04])=some (aBc u0):=aGO Pu0 (by decide)
 have N1:aAL ([b_ n11,s_ a11,b_ n12,s_ a12,b_ n13,s_ a13,b_ n14,s_ a14])=some (aBc u1):=aGO Pu1 (by decide)
 have N2:aAL ([b_ n21,s_ a21,b_ n22,s_ a22,b_ n23,s_ a23,b_ n24,s_ a24])=some (aBc u2):=aGO Pu2 (by decide)
 have k1:aAV (aBc u0++(aBc u1++aBc u2))=some (aBr (plv (thr u0 u1 u2))):=by
  have h:=aGN (S18 s_u0) (S18 s_u1) (S18 s_u2) (by decide) (by decide) (by decide) (aB8 u0) (aB8 u1) (aB8 u2)
  rw [aBZ,aBZ,aBZ] at h
  exact h
 have k2:aAV (aBc u1++(aBc u2++aBc u0))=some (aBr (plv (thr u1 u2 u0))):=by
  have h:=aGN (S18 s_u1) (S18 s_u2) (S18 s_u0) (by decide) (by decide) (by decide) (aB8 u1) (aB8 u2) (aB8 u0)
  rw [aBZ,aBZ,aBZ] at h
  exact h
 have k3:aAV (aBc u2++(aBc u1++aBc u0))=some (aBr (plv (thr u2 u1 u0))):=by
  have h:=aGN (S18 s_u2) (S18 s_u1) (S18 s_u0) (by decide) (by decide) (by decide) (aB8 u2) (aB8 u1) (aB8 u0)
  rw [aBZ,aBZ,aBZ] at h
  exact h
 rw [aQR] at k2
 rw [aQS] at k3
 rw [aSY] at k3
 have hs:∀ q,plv (thr u0 u1 u2)=(q,true)→S4 800 q∧sgn (sdz q (pt u0))=0∧sgn (sdz q (pt u1))=0∧sgn (sdz q (pt u2))=0:=fun q e=>⟨(aRd s_u0 s_u1 s_u2 e).le (by decide),aHF e (aM5 u0 u1 u2).1,aHF e (aM5 u0 u1 u2).2.1,aHF e (aM5 u0 u1 u2).2.2⟩
 obtain ⟨X0,hX0⟩:∃ X,X=pt u0:=⟨_,rfl⟩
 have J0:PI 18 X0 (enc4 X0):=by rw [hX0];exact S18 s_u0
 have ex0:aBc u0=enc4 X0:=by rw [hX0]
 obtain ⟨X1,hX1⟩:∃ X,X=pt u1:=⟨_,rfl⟩
 have J1:PI 18 X1 (enc4 X1):=by rw [hX1];exact S18 s_u1
 have ex1:aBc u1=enc4 X1:=by rw [hX1]
 obtain ⟨X2,hX2⟩:∃ X,X=pt u2:=⟨_,rfl⟩
 have J2:PI 18 X2 (enc4 X2):=by rw [hX2];exact S18 s_u2
 have ex2:aBc u2=enc4 X2:=by rw [hX2]
 rw [ex0,ex1,ex2] at k1 k2 k3
 rw [ex0] at N0
 rw [ex1] at N1
 rw [ex2] at N2
 rw [← hX0,← hX1,← hX2] at hs
 have hp:plv (thr u0 u1 u2)=((0,0,0,0),false)∨∃ q,plv (thr u0 u1 u2)=(q,true):=aHC _
 generalize plv (thr u0 u1 u2)=R at *
 clear ex0 ex1 ex2 hX0 hX1 hX2
 refine gC aAL N0 (gC aAL N1 (gC aAL N2 ?_))
 rcases hp with rfl | ⟨q,rfl⟩
 ·have e0:aBr ((0,0,0,0),false)=enc4 (0,0,0,0)++[b_ false]:=rfl
  have e1:aBr (aBE ((0,0,0,0):Z4),false)=enc4 (0,0,0,0)++[b_ false]:=rfl
  rw [e0] at k1 k2
  have k3:aAV (enc4 X2++(enc4 X1++enc4 X0))=some (enc4 (0,0,0,0)++[b_ false]):=k3
  have ez:enc4 (0,0,0,0)=[b_ false,s_ (⟨#[]⟩:ByteArray),b_ false,s_ (⟨#[]⟩:ByteArray),b_ false,s_ (⟨#[]⟩:ByteArray),b_ false,s_ (⟨#[]⟩:ByteArray)]:=by
   show enc 0++(enc 0++(enc 0++enc 0))=_
   rw [aDQ]
   rfl
  have d:=aHH false (0,0,0,0) (0,0,0,0)
  have d':=aKn false (0,0,0,0) (0,0,0,0)
  rw [decide_eq_true rfl,ez] at d d'
  rw [ez] at k1 k2 k3
  clear e0 e1 ez
  refine gC aAV k1 (gC aAV k1 (aAf (by kernel_rfl) d' (aB2 (b:=!true) (by kernel_rfl) rfl ?_)))
  refine gP (aBT _ _ false false aAR) (aB2 (b:=!(false == false)) (by kernel_rfl) rfl ?_)
  refine gC aAV k2 (gC aAV k3 (gP (aBN false) (aBQ (b:=!false) (by kernel_rfl) rfl ?_)))
  refine aAf (by kernel_rfl) d (aAH (by kernel_rfl) (gP (aBN false) (aBQ (b:=!false) (by kernel_rfl) rfl (gP (aBN false) (aAc (by kernel_rfl))))))
 obtain ⟨Sq,z0,z1,z2⟩:=hs q rfl
 clear hs
 have k1:aAV (enc4 X0++(enc4 X1++enc4 X2))=some (enc4 q++[b_ true]):=k1
 have k2:aAV (enc4 X1++(enc4 X2++enc4 X0))=some (enc4 q++[b_ true]):=k2
 have k3:aAV (enc4 X2++(enc4 X1++enc4 X0))=some (enc4 (aBE q)++[b_ true]):=k3
 have kf:aBH (enc4 q)=some (enc4 (aBE q)):=aIJ (PI.can Sq) (by decide)
 generalize aBE q=f at *
 have m0:aBw (enc4 q++enc4 X0)=some [i_ 0]:=by rw [← z0];exact aEn (PI.can Sq) J0 (by decide) (by decide)
 have m1:aBw (enc4 q++enc4 X1)=some [i_ 0]:=by rw [← z1];exact aEn (PI.can Sq) J1 (by decide) (by decide)
 have m2:aBw (enc4 q++enc4 X2)=some [i_ 0]:=by rw [← z2];exact aEn (PI.can Sq) J2 (by decide) (by decide)
 refine gC aAV k1 (gC aAV k1 (aAf (by kernel_rfl) (aKn _ q q) (aB2 (b:=!decide (q=q)) (by kernel_rfl) (aLm rfl) ?_)))
 refine gP (aBT _ _ true true aAR) (aB2 (b:=!(true == true)) (by kernel_rfl) rfl ?_)
 refine gC aAV k2 (gC aAV k3 (gP (aBN true) (aB2 (b:=!true) (by kernel_rfl) rfl ?_)))
 refine aAH (by kernel_rfl) (aAH (by kernel_rfl) (aAf (by kernel_rfl) (aHH _ q q) (aBQ (b:=decide (q=q)) (by kernel_rfl) (decide_eq_true rfl) ?_)))
 refine gC aBH kf (aAf (by kernel_rfl) (aHH _ f f) (aBQ (b:=decide (f=f)) (by kernel_rfl) (decide_eq_true rfl) ?_))
 refine gC aBw m0 (gP (aAD _ _ .i64 0 0) (aBQ (b:=(0:Int) == 0) (by kernel_rfl) rfl ?_))
 refine gC aBw m1 (gP (aAD _ _ .i64 0 0) (aBQ (b:=(0:Int) == 0) (by kernel_rfl) rfl ?_))
 exact gC aBw m2 (gP (aAD _ _ .i64 0 0) (aAc (by kernel_rfl)))
end Go.Proofs.YtjefbecmeobegaaGreatDoor.Sp
