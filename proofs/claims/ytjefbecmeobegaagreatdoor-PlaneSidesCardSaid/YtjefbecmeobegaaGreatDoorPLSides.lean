/- MERGED by merge.py: TrLPlaneSides PurePlaneSides -/
import Derived.Test.YtjefbecmeobegaaGreatDoorSx1
import Derived.Test.YtjefbecmeobegaaGreatDoorSpPr
import Derived.Test.YtjefbecmeobegaaGreatDoorSpPa
namespace Go.Proofs.YtjefbecmeobegaaGreatDoor.Sp
open Go Sx
def aEE:T:=.call 37 [] 1 (.pure (.un .not) [.one (.var 16)] (.ite 17 (.ret [.const (.bool .false)]) (.call 69 [.var 8,.var 9,.var 10,.var 11,.var 12,.var 13,.var 14,.var 15] 1 (.pure (.bin .eql 3 .true) [.one (.var 18),.one (.const (.int .i64 1))] (.ite 19 (.ret [.const (.bool .true)]) (.call 101 [.var 0,.var 1,.var 2,.var 3,.var 4,.var 5,.var 6,.var 7] 1 (.pure (.bin .eql 3 .true) [.one (.var 20),.one (.const (.int .i64 1))] (.ite 21 (.ret [.const (.bool .true)]) (.call 41 [.var 0,.var 1,.var 2,.var 3,.var 4,.var 5,.var 6,.var 7] 9 (.pure (.un .not) [.one (.var 30)] (.ite 31 (.ret [.const (.bool .true)]) (.call 20 [.var 8,.var 9,.var 10,.var 11,.var 12,.var 13,.var 14,.var 15] 8 (.call 52 [.var 22,.var 23,.var 24,.var 25,.var 26,.var 27,.var 28,.var 29,.var 32,.var 33,.var 34,.var 35,.var 36,.var 37,.var 38,.var 39] 1 (.call 53 [.var 22,.var 23,.var 24,.var 25,.var 26,.var 27,.var 28,.var 29,.var 32,.var 33,.var 34,.var 35,.var 36,.var 37,.var 38,.var 39] 1 (.pure (.bin .eql 3 .false) [.one (.var 40),.one (.var 41)] (.ite 42 (.call 51 [.var 22,.var 23,.var 24,.var 25,.var 26,.var 27,.var 28,.var 29] 8 (.call 54 [.var 22,.var 23,.var 24,.var 25,.var 26,.var 27,.var 28,.var 29] 8 (.pure (.bin .eql 53 .false) [.agg [.var 43,.var 44,.var 45,.var 46,.var 47,.var 48,.var 49,.var 50],.agg [.var 51,.var 52,.var 53,.var 54,.var 55,.var 56,.var 57,.var 58]] (.ite 59 (.pure (.un .neg) [.one (.var 40)] (.call 51 [.var 22,.var 23,.var 24,.var 25,.var 26,.var 27,.var 28,.var 29] 8 (.call 52 [.var 61,.var 62,.var 63,.var 64,.var 65,.var 66,.var 67,.var 68,.var 32,.var 33,.var 34,.var 35,.var 36,.var 37,.var 38,.var 39] 1 (.pure (.bin .eql 3 .false) [.one (.var 69),.one (.var 60)] (.ite 70 (.call 51 [.var 22,.var 23,.var 24,.var 25,.var 26,.var 27,.var 28,.var 29] 8 (.call 51 [.var 71,.var 72,.var 73,.var 74,.var 75,.var 76,.var 77,.var 78] 8 (.pure (.bin .eql 53 .false) [.agg [.var 79,.var 80,.var 81,.var 82,.var 83,.var 84,.var 85,.var 86],.agg [.var 22,.var 23,.var 24,.var 25,.var 26,.var 27,.var 28,.var 29]] (.ret [.var 87])))) (.ret [.const (.bool .false)])))))) (.ret [.const (.bool .false)]))))) (.ret [.const (.bool .false)])))))))))))))))))
end Go.Proofs.YtjefbecmeobegaaGreatDoor.Sp
namespace Go.Proofs.YtjefbecmeobegaaGreatDoor.Sp
open Go Go.RowKit Sx NatA NatB NatC NatD NatI NatJ IntZ RatZ PtZ PlZ
def tbL5:Tb:=[(41,aAA),(53,aBw),(54,aBH),(20,aAL),(51,aBH)]++aOC
theorem okL5:TbOk Tryz.prog X.G tbL5:=(.cons (by kernel_rfl) aJ2 (.cons (by kernel_rfl) aSn (.cons (by kernel_rfl) aSm (.cons (by kernel_rfl) aKl (.cons (by kernel_rfl) g_lflip aRe)))))
set_option maxHeartbeats 4000000 in
theorem g_PlaneSides:Sx.Good Tryz.prog X.G 11 ⟨[.agg 8,.agg 8],.v1 .one⟩ (F_true (kP++kP++[])):=aAe okL5 (fun _ _=>X.G_below) 400 (by kernel_rfl) (by kernel_rfl:_=some aEE) fun ds rs h=>by
 obtain ⟨vs,h0,rfl,rfl⟩:=F_true.inv h
 obtain ⟨n01,a01,n02,a02,n03,a03,n04,a04,r1,rfl,h1⟩:=aIf (ks:=(kP++[])) h0
 obtain ⟨n11,a11,n12,a12,n13,a13,n14,a14,r2,rfl,h2⟩:=aIf (ks:=([])) h1
 obtain rfl:=aKo h2
 clear h h0 h1 h2
 refine ⟨0,?_⟩
 refine gC aEp awk (gP (aBN true) (aB2 (b:=!true) (by kernel_rfl) rfl ?_))
 rcases aEo n11 a11 n12 a12 n13 a13 n14 a14 with g1 | ⟨g1,i1⟩
 ·exact gC aAY g1 (gP (aAD _ _ .i64 1 1) (aBQ (b:=(1:Int) == 1) (by kernel_rfl) rfl (aAc (by kernel_rfl))))
 refine gC aAY g1 (gP (aAD _ _ .i64 0 1) (aB2 (b:=(0:Int) == 1) (by kernel_rfl) rfl ?_))
 clear g1
 rcases aEo n01 a01 n02 a02 n03 a03 n04 a04 with g1 | ⟨g1,i0⟩
 ·exact gC aAY g1 (gP (aAD _ _ .i64 1 1) (aBQ (b:=(1:Int) == 1) (by kernel_rfl) rfl (aAc (by kernel_rfl))))
 refine gC aAY g1 (gP (aAD _ _ .i64 0 1) (aB2 (b:=(0:Int) == 1) (by kernel_rfl) rfl ?_))
 clear g1
 obtain ⟨u1,hu1⟩:∃ v,v=pv4 (Z n11 a11,Z n12 a12,Z n13 a13,Z n14 a14):=⟨_,rfl⟩
 have Pu1:PA 6 u1 [b_ n11,s_ a11,b_ n12,s_ a12,b_ n13,s_ a13,b_ n14,s_ a14]:=by rw [hu1];exact PA.raw i1
 have s_u1:Sv 6 u1:=Pu1.sv (by decide)
 obtain ⟨z0,hz0⟩:∃ v,v=(Z n01 a01,Z n02 a02,Z n03 a03,Z n04 a04):=⟨_,rfl⟩
 have Iz0:PI 6 z0 [b_ n01,s_ a01,b_ n02,s_ a02,b_ n03,s_ a03,b_ n04,s_ a04]:=by rw [hz0];exact i0
 have Sz0:S4 6 z0:=Iz0.s4
 clear hz0 i0
 have n0:aAA [b_ n01,s_ a01,b_ n02,s_ a02,b_ n03,s_ a03,b_ n04,s_ a04]=some (aBr (plz z0)):=aGM Iz0 (by decide)
 rcases aHC z0 with e0 | ⟨q0,e0⟩
 ·rw [e0,aHd] at n0
  exact gC aAA n0 (gP (aBN false) (aBQ (b:=!false) (by kernel_rfl) rfl (aAc (by kernel_rfl))))
 have Cq0:Pc q0:=(aM2 e0).1
 have Sq0:S4 6 q0:=aII Sz0 e0
 rw [e0] at n0
 have n0:aAA [b_ n01,s_ a01,b_ n02,s_ a02,b_ n03,s_ a03,b_ n04,s_ a04]=some (enc4 q0++[b_ true]):=n0
 clear e0
 refine gC aAA n0 (gP (aBN true) (aB2 (b:=!true) (by kernel_rfl) rfl ?_))
 clear n0
 have c3:aAL ([b_ n11,s_ a11,b_ n12,s_ a12,b_ n13,s_ a13,b_ n14,s_ a14])=some (aBc u1):=aGO Pu1 (by decide)
 obtain ⟨X,hX⟩:∃ X,X=pt u1:=⟨_,rfl⟩
 have IX:PI 18 X (enc4 X):=by rw [hX];exact S18 s_u1
 have ex:aBc u1=enc4 X:=by rw [hX]
 rw [ex] at c3
 clear hX ex
 obtain ⟨S,hS⟩:∃ S,S=sgn (sdz q0 X):=⟨_,rfl⟩
 have rS:=aPZ (sdz q0 X)
 rw [← hS] at rS
 have k1:aBw (enc4 q0++enc4 X)=some [i_ S]:=by rw [hS];exact aEn (PI.can Sq0) IX (by decide) (by decide)
 obtain ⟨f0,hf0⟩:∃ f,f=aBE q0:=⟨_,rfl⟩
 have Sf0:S4 6 f0:=by rw [hf0];exact S4.neg Sq0
 have k2:aBH (enc4 q0)=some (enc4 f0):=by rw [hf0];exact aIJ (PI.can Sq0) (by decide)
 have es:sgn (sdz f0 X)=-S:=by rw [hf0,hS,← aMS];congr 1;unfold sdz aBE;dsimp only;grind
 have k3:aBw (enc4 f0++enc4 X)=some [i_ (-S)]:=by rw [← es];exact aEn (PI.can Sf0) IX (by decide) (by decide)
 have ew:(-S == IntKind.i64.wrap (0 - S))=true:=by rw [IntKind.wrap_i64,beq_iff_eq];omega
 have k4:aBH (enc4 f0)=some (enc4 q0):=by rw [aIJ (PI.can Sf0) (by decide),hf0,aPO]
 clear hS hf0 es
 refine gC aAL c3 ?_
 refine gC aBw k1 ?_
 refine gC aBw k1 ?_
 refine gP (aAD _ _ .i64 S S) ?_
 refine aBQ (b:=S == S) (by kernel_rfl) (beq_self_eq_true _) ?_
 refine gC aBH k2 ?_
 refine gC aBH k2 ?_
 refine aAf (by kernel_rfl) (aHH _ f0 f0) ?_
 refine aBQ (b:=decide (f0=f0)) (by kernel_rfl) (decide_eq_true rfl) ?_
 refine gP (aI3 .i64 S) ?_
 refine gC aBH k2 ?_
 refine gC aBw k3 ?_
 refine gP (aAD _ _ .i64 (-S) (IntKind.i64.wrap (0 - S))) ?_
 refine aBQ (b:=-S == IntKind.i64.wrap (0 - S)) (by kernel_rfl) (ew) ?_
 refine gC aBH k2 ?_
 refine gC aBH k4 ?_
 refine aAf (by kernel_rfl) (aHH _ q0 q0) ?_
 rw [decide_eq_true (rfl:q0=q0)]
 exact aAc (by kernel_rfl)
end Go.Proofs.YtjefbecmeobegaaGreatDoor.Sp
