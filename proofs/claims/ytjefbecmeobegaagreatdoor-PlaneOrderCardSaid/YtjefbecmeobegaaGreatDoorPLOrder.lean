/- MERGED by merge.py: TrLPlaneOrder PurePlaneOrder -/
import Derived.Test.YtjefbecmeobegaaGreatDoorSx1
import Derived.Test.YtjefbecmeobegaaGreatDoorSpPr
import Derived.Test.YtjefbecmeobegaaGreatDoorSpPa
namespace Go.Proofs.YtjefbecmeobegaaGreatDoor.Sp
open Go Sx
def aEB:T:=.call 37 [] 1 (.pure (.un .not) [.one (.var 24)] (.ite 25 (.ret [.const (.bool .false)]) (.call 101 [.var 0,.var 1,.var 2,.var 3,.var 4,.var 5,.var 6,.var 7] 1 (.pure (.bin .eql 3 .true) [.one (.var 26),.one (.const (.int .i64 1))] (.ite 27 (.ret [.const (.bool .true)]) (.call 41 [.var 0,.var 1,.var 2,.var 3,.var 4,.var 5,.var 6,.var 7] 9 (.pure (.un .not) [.one (.var 36)] (.ite 37 (.ret [.const (.bool .true)]) (.call 101 [.var 8,.var 9,.var 10,.var 11,.var 12,.var 13,.var 14,.var 15] 1 (.pure (.bin .eql 3 .true) [.one (.var 38),.one (.const (.int .i64 1))] (.ite 39 (.ret [.const (.bool .true)]) (.call 41 [.var 8,.var 9,.var 10,.var 11,.var 12,.var 13,.var 14,.var 15] 9 (.pure (.un .not) [.one (.var 48)] (.ite 49 (.ret [.const (.bool .true)]) (.call 101 [.var 16,.var 17,.var 18,.var 19,.var 20,.var 21,.var 22,.var 23] 1 (.pure (.bin .eql 3 .true) [.one (.var 50),.one (.const (.int .i64 1))] (.ite 51 (.ret [.const (.bool .true)]) (.call 41 [.var 16,.var 17,.var 18,.var 19,.var 20,.var 21,.var 22,.var 23] 9 (.pure (.un .not) [.one (.var 60)] (.ite 61 (.ret [.const (.bool .true)]) (.call 56 [.var 28,.var 29,.var 30,.var 31,.var 32,.var 33,.var 34,.var 35,.var 28,.var 29,.var 30,.var 31,.var 32,.var 33,.var 34,.var 35] 1 (.call 57 [.var 28,.var 29,.var 30,.var 31,.var 32,.var 33,.var 34,.var 35,.var 28,.var 29,.var 30,.var 31,.var 32,.var 33,.var 34,.var 35] 1 (.pure (.bin .neq 3 .false) [.one (.var 62),.one (.var 63)] (.ite 64 (.ret [.const (.bool .false)]) (.call 56 [.var 28,.var 29,.var 30,.var 31,.var 32,.var 33,.var 34,.var 35,.var 28,.var 29,.var 30,.var 31,.var 32,.var 33,.var 34,.var 35] 1 (.pure (.un .neg) [.one (.var 65)] (.pure (.bin .neq 3 .false) [.one (.var 62),.one (.var 66)] (.ite 67 (.ret [.const (.bool .false)]) (.pure (.bin .eql 3 .true) [.one (.var 62),.one (.const (.int .i64 0))] (.pure (.bin .eql 53 .false) [.agg [.var 28,.var 29,.var 30,.var 31,.var 32,.var 33,.var 34,.var 35],.agg [.var 28,.var 29,.var 30,.var 31,.var 32,.var 33,.var 34,.var 35]] (.pure (.bin .neq 4 .false) [.one (.var 68),.one (.var 69)] (.ite 70 (.ret [.const (.bool .false)]) (.call 56 [.var 28,.var 29,.var 30,.var 31,.var 32,.var 33,.var 34,.var 35,.var 40,.var 41,.var 42,.var 43,.var 44,.var 45,.var 46,.var 47] 1 (.call 57 [.var 28,.var 29,.var 30,.var 31,.var 32,.var 33,.var 34,.var 35,.var 40,.var 41,.var 42,.var 43,.var 44,.var 45,.var 46,.var 47] 1 (.pure (.bin .neq 3 .false) [.one (.var 71),.one (.var 72)] (.ite 73 (.ret [.const (.bool .false)]) (.call 56 [.var 40,.var 41,.var 42,.var 43,.var 44,.var 45,.var 46,.var 47,.var 28,.var 29,.var 30,.var 31,.var 32,.var 33,.var 34,.var 35] 1 (.pure (.un .neg) [.one (.var 74)] (.pure (.bin .neq 3 .false) [.one (.var 71),.one (.var 75)] (.ite 76 (.ret [.const (.bool .false)]) (.pure (.bin .eql 3 .true) [.one (.var 71),.one (.const (.int .i64 0))] (.pure (.bin .eql 53 .false) [.agg [.var 28,.var 29,.var 30,.var 31,.var 32,.var 33,.var 34,.var 35],.agg [.var 40,.var 41,.var 42,.var 43,.var 44,.var 45,.var 46,.var 47]] (.pure (.bin .neq 4 .false) [.one (.var 77),.one (.var 78)] (.ite 79 (.ret [.const (.bool .false)]) (.call 56 [.var 28,.var 29,.var 30,.var 31,.var 32,.var 33,.var 34,.var 35,.var 52,.var 53,.var 54,.var 55,.var 56,.var 57,.var 58,.var 59] 1 (.call 57 [.var 28,.var 29,.var 30,.var 31,.var 32,.var 33,.var 34,.var 35,.var 52,.var 53,.var 54,.var 55,.var 56,.var 57,.var 58,.var 59] 1 (.pure (.bin .neq 3 .false) [.one (.var 80),.one (.var 81)] (.ite 82 (.ret [.const (.bool .false)]) (.call 56 [.var 52,.var 53,.var 54,.var 55,.var 56,.var 57,.var 58,.var 59,.var 28,.var 29,.var 30,.var 31,.var 32,.var 33,.var 34,.var 35] 1 (.pure (.un .neg) [.one (.var 83)] (.pure (.bin .neq 3 .false) [.one (.var 80),.one (.var 84)] (.ite 85 (.ret [.const (.bool .false)]) (.pure (.bin .eql 3 .true) [.one (.var 80),.one (.const (.int .i64 0))] (.pure (.bin .eql 53 .false) [.agg [.var 28,.var 29,.var 30,.var 31,.var 32,.var 33,.var 34,.var 35],.agg [.var 52,.var 53,.var 54,.var 55,.var 56,.var 57,.var 58,.var 59]] (.pure (.bin .neq 4 .false) [.one (.var 86),.one (.var 87)] (.ite 88 (.ret [.const (.bool .false)]) (.call 56 [.var 40,.var 41,.var 42,.var 43,.var 44,.var 45,.var 46,.var 47,.var 28,.var 29,.var 30,.var 31,.var 32,.var 33,.var 34,.var 35] 1 (.call 57 [.var 40,.var 41,.var 42,.var 43,.var 44,.var 45,.var 46,.var 47,.var 28,.var 29,.var 30,.var 31,.var 32,.var 33,.var 34,.var 35] 1 (.pure (.bin .neq 3 .false) [.one (.var 89),.one (.var 90)] (.ite 91 (.ret [.const (.bool .false)]) (.call 56 [.var 28,.var 29,.var 30,.var 31,.var 32,.var 33,.var 34,.var 35,.var 40,.var 41,.var 42,.var 43,.var 44,.var 45,.var 46,.var 47] 1 (.pure (.un .neg) [.one (.var 92)] (.pure (.bin .neq 3 .false) [.one (.var 89),.one (.var 93)] (.ite 94 (.ret [.const (.bool .false)]) (.pure (.bin .eql 3 .true) [.one (.var 89),.one (.const (.int .i64 0))] (.pure (.bin .eql 53 .false) [.agg [.var 40,.var 41,.var 42,.var 43,.var 44,.var 45,.var 46,.var 47],.agg [.var 28,.var 29,.var 30,.var 31,.var 32,.var 33,.var 34,.var 35]] (.pure (.bin .neq 4 .false) [.one (.var 95),.one (.var 96)] (.ite 97 (.ret [.const (.bool .false)]) (.call 56 [.var 40,.var 41,.var 42,.var 43,.var 44,.var 45,.var 46,.var 47,.var 40,.var 41,.var 42,.var 43,.var 44,.var 45,.var 46,.var 47] 1 (.call 57 [.var 40,.var 41,.var 42,.var 43,.var 44,.var 45,.var 46,.var 47,.var 40,.var 41,.var 42,.var 43,.var 44,.var 45,.var 46,.var 47] 1 (.pure (.bin .neq 3 .false) [.one (.var 98),.one (.var 99)] (.ite 100 (.ret [.const (.bool .false)]) (.call 56 [.var 40,.var 41,.var 42,.var 43,.var 44,.var 45,.var 46,.var 47,.var 40,.var 41,.var 42,.var 43,.var 44,.var 45,.var 46,.var 47] 1 (.pure (.un .neg) [.one (.var 101)] (.pure (.bin .neq 3 .false) [.one (.var 98),.one (.var 102)] (.ite 103 (.ret [.const (.bool .false)]) (.pure (.bin .eql 3 .true) [.one (.var 98),.one (.const (.int .i64 0))] (.pure (.bin .eql 53 .false) [.agg [.var 40,.var 41,.var 42,.var 43,.var 44,.var 45,.var 46,.var 47],.agg [.var 40,.var 41,.var 42,.var 43,.var 44,.var 45,.var 46,.var 47]] (.pure (.bin .neq 4 .false) [.one (.var 104),.one (.var 105)] (.ite 106 (.ret [.const (.bool .false)]) (.call 56 [.var 40,.var 41,.var 42,.var 43,.var 44,.var 45,.var 46,.var 47,.var 52,.var 53,.var 54,.var 55,.var 56,.var 57,.var 58,.var 59] 1 (.call 57 [.var 40,.var 41,.var 42,.var 43,.var 44,.var 45,.var 46,.var 47,.var 52,.var 53,.var 54,.var 55,.var 56,.var 57,.var 58,.var 59] 1 (.pure (.bin .neq 3 .false) [.one (.var 107),.one (.var 108)] (.ite 109 (.ret [.const (.bool .false)]) (.call 56 [.var 52,.var 53,.var 54,.var 55,.var 56,.var 57,.var 58,.var 59,.var 40,.var 41,.var 42,.var 43,.var 44,.var 45,.var 46,.var 47] 1 (.pure (.un .neg) [.one (.var 110)] (.pure (.bin .neq 3 .false) [.one (.var 107),.one (.var 111)] (.ite 112 (.ret [.const (.bool .false)]) (.pure (.bin .eql 3 .true) [.one (.var 107),.one (.const (.int .i64 0))] (.pure (.bin .eql 53 .false) [.agg [.var 40,.var 41,.var 42,.var 43,.var 44,.var 45,.var 46,.var 47],.agg [.var 52,.var 53,.var 54,.var 55,.var 56,.var 57,.var 58,.var 59]] (.pure (.bin .neq 4 .false) [.one (.var 113),.one (.var 114)] (.ite 115 (.ret [.const (.bool .false)]) (.call 56 [.var 52,.var 53,.var 54,.var 55,.var 56,.var 57,.var 58,.var 59,.var 28,.var 29,.var 30,.var 31,.var 32,.var 33,.var 34,.var 35] 1 (.call 57 [.var 52,.var 53,.var 54,.var 55,.var 56,.var 57,.var 58,.var 59,.var 28,.var 29,.var 30,.var 31,.var 32,.var 33,.var 34,.var 35] 1 (.pure (.bin .neq 3 .false) [.one (.var 116),.one (.var 117)] (.ite 118 (.ret [.const (.bool .false)]) (.call 56 [.var 28,.var 29,.var 30,.var 31,.var 32,.var 33,.var 34,.var 35,.var 52,.var 53,.var 54,.var 55,.var 56,.var 57,.var 58,.var 59] 1 (.pure (.un .neg) [.one (.var 119)] (.pure (.bin .neq 3 .false) [.one (.var 116),.one (.var 120)] (.ite 121 (.ret [.const (.bool .false)]) (.pure (.bin .eql 3 .true) [.one (.var 116),.one (.const (.int .i64 0))] (.pure (.bin .eql 53 .false) [.agg [.var 52,.var 53,.var 54,.var 55,.var 56,.var 57,.var 58,.var 59],.agg [.var 28,.var 29,.var 30,.var 31,.var 32,.var 33,.var 34,.var 35]] (.pure (.bin .neq 4 .false) [.one (.var 122),.one (.var 123)] (.ite 124 (.ret [.const (.bool .false)]) (.call 56 [.var 52,.var 53,.var 54,.var 55,.var 56,.var 57,.var 58,.var 59,.var 40,.var 41,.var 42,.var 43,.var 44,.var 45,.var 46,.var 47] 1 (.call 57 [.var 52,.var 53,.var 54,.var 55,.var 56,.var 57,.var 58,.var 59,.var 40,.var 41,.var 42,.var 43,.var 44,.var 45,.var 46,.var 47] 1 (.pure (.bin .neq 3 .false) [.one (.var 125),.one (.var 126)] (.ite 127 (.ret [.const (.bool .false)]) (.call 56 [.var 40,.var 41,.var 42,.var 43,.var 44,.var 45,.var 46,.var 47,.var 52,.var 53,.var 54,.var 55,.var 56,.var 57,.var 58,.var 59] 1 (.pure (.un .neg) [.one (.var 128)] (.pure (.bin .neq 3 .false) [.one (.var 125),.one (.var 129)] (.ite 130 (.ret [.const (.bool .false)]) (.pure (.bin .eql 3 .true) [.one (.var 125),.one (.const (.int .i64 0))] (.pure (.bin .eql 53 .false) [.agg [.var 52,.var 53,.var 54,.var 55,.var 56,.var 57,.var 58,.var 59],.agg [.var 40,.var 41,.var 42,.var 43,.var 44,.var 45,.var 46,.var 47]] (.pure (.bin .neq 4 .false) [.one (.var 131),.one (.var 132)] (.ite 133 (.ret [.const (.bool .false)]) (.call 56 [.var 52,.var 53,.var 54,.var 55,.var 56,.var 57,.var 58,.var 59,.var 52,.var 53,.var 54,.var 55,.var 56,.var 57,.var 58,.var 59] 1 (.call 57 [.var 52,.var 53,.var 54,.var 55,.var 56,.var 57,.var 58,.var 59,.var 52,.var 53,.var 54,.var 55,.var 56,.var 57,.var 58,.var 59] 1 (.pure (.bin .neq 3 .false) [.one (.var 134),.one (.var 135)] (.ite 136 (.ret [.const (.bool .false)]) (.call 56 [.var 52,.var 53,.var 54,.var 55,.var 56,.var 57,.var 58,.var 59,.var 52,.var 53,.var 54,.var 55,.var 56,.var 57,.var 58,.var 59] 1 (.pure (.un .neg) [.one (.var 137)] (.pure (.bin .neq 3 .false) [.one (.var 134),.one (.var 138)] (.ite 139 (.ret [.const (.bool .false)]) (.pure (.bin .eql 3 .true) [.one (.var 134),.one (.const (.int .i64 0))] (.pure (.bin .eql 53 .false) [.agg [.var 52,.var 53,.var 54,.var 55,.var 56,.var 57,.var 58,.var 59],.agg [.var 52,.var 53,.var 54,.var 55,.var 56,.var 57,.var 58,.var 59]] (.pure (.bin .neq 4 .false) [.one (.var 140),.one (.var 141)] (.ite 142 (.ret [.const (.bool .false)]) (.call 56 [.var 28,.var 29,.var 30,.var 31,.var 32,.var 33,.var 34,.var 35,.var 40,.var 41,.var 42,.var 43,.var 44,.var 45,.var 46,.var 47] 1 (.pure (.bin .lss 3 .true) [.one (.var 143),.one (.const (.int .i64 0))] (.ite 144 (.call 56 [.var 40,.var 41,.var 42,.var 43,.var 44,.var 45,.var 46,.var 47,.var 52,.var 53,.var 54,.var 55,.var 56,.var 57,.var 58,.var 59] 1 (.pure (.bin .lss 3 .true) [.one (.var 145),.one (.const (.int .i64 0))] (.ite 146 (.call 56 [.var 28,.var 29,.var 30,.var 31,.var 32,.var 33,.var 34,.var 35,.var 52,.var 53,.var 54,.var 55,.var 56,.var 57,.var 58,.var 59] 1 (.pure (.bin .geq 3 .true) [.one (.var 147),.one (.const (.int .i64 0))] (.pure (.un .not) [.one (.var 148)] (.ret [.var 149])))) (.ret [.const (.bool .true)])))) (.ret [.const (.bool .true)]))))))))))))))))))))))))))))))))))))))))))))))))))))))))))))))))))))))))))))))))))))))))))))))))))))))))))))))))))))))))))))))))))))
end Go.Proofs.YtjefbecmeobegaaGreatDoor.Sp
namespace Go.Proofs.YtjefbecmeobegaaGreatDoor.Sp
open Go Go.RowKit Sx NatA NatB NatC NatD NatI NatJ IntZ RatZ PtZ PlZ
theorem aNo (p q:Z4):-1≤aAV p q∧aAV p q≤1:=by
 unfold aAV
 split<;>(try split)<;>(try split)<;>exact aPE _
theorem aFw (a b:Int):sgn (a - b)=0 - sgn (b - a):=by
 have h:=aM1 (b - a)
 rw [show -(b - a)=a - b by omega] at h
 omega
theorem aOv (p q:Z4):aAV p q=0 - aAV q p:=by
 unfold aAV
 by_cases h1:p.1=q.1
 ·rw [if_pos h1,if_pos h1.symm]
  by_cases h2:p.2.1=q.2.1
  ·rw [if_pos h2,if_pos h2.symm]
   by_cases h3:p.2.2.1=q.2.2.1
   ·rw [if_pos h3,if_pos h3.symm]
    exact aFw _ _
   ·rw [if_neg h3,if_neg (fun h=>h3 h.symm)]
    exact aFw _ _
  ·rw [if_neg h2,if_neg (fun h=>h2 h.symm)]
   exact aFw _ _
 ·rw [if_neg h1,if_neg (fun h=>h1 h.symm)]
  exact aFw _ _
theorem aIu (a b:Int):sgn (a - b)=0 ↔ a=b:=by
 have:=aCQ a b
 omega
theorem aOw (p q:Z4):aAV p q=0 ↔ p=q:=by
 obtain ⟨a,b,c,d⟩:=p
 obtain ⟨a',b',c',d'⟩:=q
 unfold aAV
 dsimp only
 simp only [Prod.mk.injEq]
 split
 ·split
  ·split
   ·rw [aIu];omega
   ·rw [aIu];omega
  ·rw [aIu];omega
 ·rw [aIu];omega
theorem aPF (p q:Z4):aAV p q < 0 ↔ p.1 < q.1∨(p.1=q.1∧(p.2.1 < q.2.1∨(p.2.1=q.2.1∧(p.2.2.1 < q.2.2.1∨(p.2.2.1=q.2.2.1∧p.2.2.2 < q.2.2.2))))):=by
 unfold aAV
 split
 ·split
  ·split
   ·rw [aGd];omega
   ·rw [aGd];omega
  ·rw [aGd];omega
 ·rw [aGd];omega
theorem aNp (p q r:Z4) (h1:aAV p q < 0) (h2:aAV q r < 0):aAV p r < 0:=by
 rw [aPF] at *
 omega
theorem aBT (p q:Z4):((aAV p q == 0) == decide (p=q))=true:=by
 have h:=aOw p q
 rw [beq_iff_eq,Bool.eq_iff_iff,beq_iff_eq,decide_eq_true_iff]
 exact h
theorem aBU (p q:Z4):(aAV p q != IntKind.i64.wrap (0 - aAV q p))=false:=by
 have h:=aOv p q
 have r:=aNo p q
 rw [IntKind.wrap_i64,bne_eq_false_iff_eq]
 omega
def tbL5:Tb:=[(41,aAv),(57,aAt),(56,aAt)]++aQI
theorem okL5:TbOk Tryz.prog X.G tbL5:=(.cons (by kernel_rfl) aRR (.cons (by kernel_rfl) aSH (.cons (by kernel_rfl) g_lcmp okLb)))
set_option maxHeartbeats 4000000 in
theorem g_PlaneOrder:Sx.Good Tryz.prog X.G 13 ⟨[.agg 24],.v1 .one⟩ (F_true (kP++kP++kP++[])):=aAf okL5 (fun _ _=>X.G_below) 400 (by kernel_rfl) (by kernel_rfl:_=some aEB) fun ds rs h=>by
 obtain ⟨vs,h0,rfl,rfl⟩:=F_true.inv h
 obtain ⟨n01,a01,n02,a02,n03,a03,n04,a04,r1,rfl,h1⟩:=aKL (ks:=(kP++kP++[])) h0
 obtain ⟨n11,a11,n12,a12,n13,a13,n14,a14,r2,rfl,h2⟩:=aKL (ks:=(kP++[])) h1
 obtain ⟨n21,a21,n22,a22,n23,a23,n24,a24,r3,rfl,h3⟩:=aKL (ks:=([])) h2
 obtain rfl:=aNn h3
 clear h h0 h1 h2 h3
 refine ⟨0,?_⟩
 refine gC aEW awk (gP (aBs true) (aA7 (b:=!true) (by kernel_rfl) rfl ?_))
 rcases aGD n01 a01 n02 a02 n03 a03 n04 a04 with g1 | ⟨g1,i0⟩
 ·exact gC aBg g1 (gP (aA9 _ _ .i64 1 1) (aDK (b:=(1:Int) == 1) (by kernel_rfl) rfl (aAb (by kernel_rfl))))
 refine gC aBg g1 (gP (aA9 _ _ .i64 0 1) (aA7 (b:=(0:Int) == 1) (by kernel_rfl) rfl ?_))
 clear g1
 obtain ⟨z0,hz0⟩:∃ v,v=(Z n01 a01,Z n02 a02,Z n03 a03,Z n04 a04):=⟨_,rfl⟩
 have Iz0:PI 6 z0 [b_ n01,s_ a01,b_ n02,s_ a02,b_ n03,s_ a03,b_ n04,s_ a04]:=by rw [hz0];exact i0
 have Sz0:S4 6 z0:=Iz0.s4
 clear hz0 i0
 have n0:aAv [b_ n01,s_ a01,b_ n02,s_ a02,b_ n03,s_ a03,b_ n04,s_ a04]=some (aBG (plz z0)):=aEj Iz0 (by decide)
 rcases aFA z0 with e0 | ⟨q0,e0⟩
 ·rw [e0,aDx] at n0
  exact gC aAv n0 (gP (aBs false) (aDK (b:=!false) (by kernel_rfl) rfl (aAb (by kernel_rfl))))
 have Cq0:Pc q0:=(aMa e0).1
 have Sq0:S4 6 q0:=aGC Sz0 e0
 rw [e0] at n0
 have n0:aAv [b_ n01,s_ a01,b_ n02,s_ a02,b_ n03,s_ a03,b_ n04,s_ a04]=some (enc4 q0++[b_ true]):=n0
 clear e0
 refine gC aAv n0 (gP (aBs true) (aA7 (b:=!true) (by kernel_rfl) rfl ?_))
 clear n0
 rcases aGD n11 a11 n12 a12 n13 a13 n14 a14 with g1 | ⟨g1,i1⟩
 ·exact gC aBg g1 (gP (aA9 _ _ .i64 1 1) (aDK (b:=(1:Int) == 1) (by kernel_rfl) rfl (aAb (by kernel_rfl))))
 refine gC aBg g1 (gP (aA9 _ _ .i64 0 1) (aA7 (b:=(0:Int) == 1) (by kernel_rfl) rfl ?_))
 clear g1
 obtain ⟨z1,hz1⟩:∃ v,v=(Z n11 a11,Z n12 a12,Z n13 a13,Z n14 a14):=⟨_,rfl⟩
 have Iz1:PI 6 z1 [b_ n11,s_ a11,b_ n12,s_ a12,b_ n13,s_ a13,b_ n14,s_ a14]:=by rw [hz1];exact i1
 have Sz1:S4 6 z1:=Iz1.s4
 clear hz1 i1
 have n0:aAv [b_ n11,s_ a11,b_ n12,s_ a12,b_ n13,s_ a13,b_ n14,s_ a14]=some (aBG (plz z1)):=aEj Iz1 (by decide)
 rcases aFA z1 with e0 | ⟨q1,e0⟩
 ·rw [e0,aDx] at n0
  exact gC aAv n0 (gP (aBs false) (aDK (b:=!false) (by kernel_rfl) rfl (aAb (by kernel_rfl))))
 have Cq1:Pc q1:=(aMa e0).1
 have Sq1:S4 6 q1:=aGC Sz1 e0
 rw [e0] at n0
 have n0:aAv [b_ n11,s_ a11,b_ n12,s_ a12,b_ n13,s_ a13,b_ n14,s_ a14]=some (enc4 q1++[b_ true]):=n0
 clear e0
 refine gC aAv n0 (gP (aBs true) (aA7 (b:=!true) (by kernel_rfl) rfl ?_))
 clear n0
 rcases aGD n21 a21 n22 a22 n23 a23 n24 a24 with g1 | ⟨g1,i2⟩
 ·exact gC aBg g1 (gP (aA9 _ _ .i64 1 1) (aDK (b:=(1:Int) == 1) (by kernel_rfl) rfl (aAb (by kernel_rfl))))
 refine gC aBg g1 (gP (aA9 _ _ .i64 0 1) (aA7 (b:=(0:Int) == 1) (by kernel_rfl) rfl ?_))
 clear g1
 obtain ⟨z2,hz2⟩:∃ v,v=(Z n21 a21,Z n22 a22,Z n23 a23,Z n24 a24):=⟨_,rfl⟩
 have Iz2:PI 6 z2 [b_ n21,s_ a21,b_ n22,s_ a22,b_ n23,s_ a23,b_ n24,s_ a24]:=by rw [hz2];exact i2
 have Sz2:S4 6 z2:=Iz2.s4
 clear hz2 i2
 have n0:aAv [b_ n21,s_ a21,b_ n22,s_ a22,b_ n23,s_ a23,b_ n24,s_ a24]=some (aBG (plz z2)):=aEj Iz2 (by decide)
 rcases aFA z2 with e0 | ⟨q2,e0⟩
 ·rw [e0,aDx] at n0
  exact gC aAv n0 (gP (aBs false) (aDK (b:=!false) (by kernel_rfl) rfl (aAb (by kernel_rfl))))
 have Cq2:Pc q2:=(aMa e0).1
 have Sq2:S4 6 q2:=aGC Sz2 e0
 rw [e0] at n0
 have n0:aAv [b_ n21,s_ a21,b_ n22,s_ a22,b_ n23,s_ a23,b_ n24,s_ a24]=some (enc4 q2++[b_ true]):=n0
 clear e0
 refine gC aAv n0 (gP (aBs true) (aA7 (b:=!true) (by kernel_rfl) rfl ?_))
 clear n0
 have c00:aAt (enc4 q0++enc4 q0)=some [i_ (aAV q0 q0)]:=aDj (PI.can Sq0) (PI.can Sq0) (by decide) (by decide)
 have w00:=aBU q0 q0
 have e00:=aBT q0 q0
 have c01:aAt (enc4 q0++enc4 q1)=some [i_ (aAV q0 q1)]:=aDj (PI.can Sq0) (PI.can Sq1) (by decide) (by decide)
 have w01:=aBU q0 q1
 have e01:=aBT q0 q1
 have c02:aAt (enc4 q0++enc4 q2)=some [i_ (aAV q0 q2)]:=aDj (PI.can Sq0) (PI.can Sq2) (by decide) (by decide)
 have w02:=aBU q0 q2
 have e02:=aBT q0 q2
 have c10:aAt (enc4 q1++enc4 q0)=some [i_ (aAV q1 q0)]:=aDj (PI.can Sq1) (PI.can Sq0) (by decide) (by decide)
 have w10:=aBU q1 q0
 have e10:=aBT q1 q0
 have c11:aAt (enc4 q1++enc4 q1)=some [i_ (aAV q1 q1)]:=aDj (PI.can Sq1) (PI.can Sq1) (by decide) (by decide)
 have w11:=aBU q1 q1
 have e11:=aBT q1 q1
 have c12:aAt (enc4 q1++enc4 q2)=some [i_ (aAV q1 q2)]:=aDj (PI.can Sq1) (PI.can Sq2) (by decide) (by decide)
 have w12:=aBU q1 q2
 have e12:=aBT q1 q2
 have c20:aAt (enc4 q2++enc4 q0)=some [i_ (aAV q2 q0)]:=aDj (PI.can Sq2) (PI.can Sq0) (by decide) (by decide)
 have w20:=aBU q2 q0
 have e20:=aBT q2 q0
 have c21:aAt (enc4 q2++enc4 q1)=some [i_ (aAV q2 q1)]:=aDj (PI.can Sq2) (PI.can Sq1) (by decide) (by decide)
 have w21:=aBU q2 q1
 have e21:=aBT q2 q1
 have c22:aAt (enc4 q2++enc4 q2)=some [i_ (aAV q2 q2)]:=aDj (PI.can Sq2) (PI.can Sq2) (by decide) (by decide)
 have w22:=aBU q2 q2
 have e22:=aBT q2 q2
 have tr:=aNp q0 q1 q2
 generalize aAV q0 q0=C00 at *
 generalize aAV q0 q1=C01 at *
 generalize aAV q0 q2=C02 at *
 generalize aAV q1 q0=C10 at *
 generalize aAV q1 q1=C11 at *
 generalize aAV q1 q2=C12 at *
 generalize aAV q2 q0=C20 at *
 generalize aAV q2 q1=C21 at *
 generalize aAV q2 q2=C22 at *
 refine gC aAt c00 ?_
 refine gC aAt c00 ?_
 refine gP (aA2 _ _ .i64 C00 C00) ?_
 refine aA7 (b:=C00 != C00) (by kernel_rfl) (by simp) ?_
 refine gC aAt c00 ?_
 refine gP (aBO .i64 C00) ?_
 refine gP (aA2 _ _ .i64 C00 (IntKind.i64.wrap (0 - C00))) ?_
 refine aA7 (b:=C00 != IntKind.i64.wrap (0 - C00)) (by kernel_rfl) (w00) ?_
 refine gP (aA9 _ _ .i64 C00 0) ?_
 refine aAe (by kernel_rfl) (aEA _ q0 q0) ?_
 refine gP (aB0 _ _ (C00 == 0) (decide (q0=q0)) aAE) ?_
 refine aA7 (b:=!((C00 == 0) == decide (q0=q0))) (by kernel_rfl) (by rw [e00];rfl) ?_
 refine gC aAt c01 ?_
 refine gC aAt c01 ?_
 refine gP (aA2 _ _ .i64 C01 C01) ?_
 refine aA7 (b:=C01 != C01) (by kernel_rfl) (by simp) ?_
 refine gC aAt c10 ?_
 refine gP (aBO .i64 C10) ?_
 refine gP (aA2 _ _ .i64 C01 (IntKind.i64.wrap (0 - C10))) ?_
 refine aA7 (b:=C01 != IntKind.i64.wrap (0 - C10)) (by kernel_rfl) (w01) ?_
 refine gP (aA9 _ _ .i64 C01 0) ?_
 refine aAe (by kernel_rfl) (aEA _ q0 q1) ?_
 refine gP (aB0 _ _ (C01 == 0) (decide (q0=q1)) aAE) ?_
 refine aA7 (b:=!((C01 == 0) == decide (q0=q1))) (by kernel_rfl) (by rw [e01];rfl) ?_
 refine gC aAt c02 ?_
 refine gC aAt c02 ?_
 refine gP (aA2 _ _ .i64 C02 C02) ?_
 refine aA7 (b:=C02 != C02) (by kernel_rfl) (by simp) ?_
 refine gC aAt c20 ?_
 refine gP (aBO .i64 C20) ?_
 refine gP (aA2 _ _ .i64 C02 (IntKind.i64.wrap (0 - C20))) ?_
 refine aA7 (b:=C02 != IntKind.i64.wrap (0 - C20)) (by kernel_rfl) (w02) ?_
 refine gP (aA9 _ _ .i64 C02 0) ?_
 refine aAe (by kernel_rfl) (aEA _ q0 q2) ?_
 refine gP (aB0 _ _ (C02 == 0) (decide (q0=q2)) aAE) ?_
 refine aA7 (b:=!((C02 == 0) == decide (q0=q2))) (by kernel_rfl) (by rw [e02];rfl) ?_
 refine gC aAt c10 ?_
 refine gC aAt c10 ?_
 refine gP (aA2 _ _ .i64 C10 C10) ?_
 refine aA7 (b:=C10 != C10) (by kernel_rfl) (by simp) ?_
 refine gC aAt c01 ?_
 refine gP (aBO .i64 C01) ?_
 refine gP (aA2 _ _ .i64 C10 (IntKind.i64.wrap (0 - C01))) ?_
 refine aA7 (b:=C10 != IntKind.i64.wrap (0 - C01)) (by kernel_rfl) (w10) ?_
 refine gP (aA9 _ _ .i64 C10 0) ?_
 refine aAe (by kernel_rfl) (aEA _ q1 q0) ?_
 refine gP (aB0 _ _ (C10 == 0) (decide (q1=q0)) aAE) ?_
 refine aA7 (b:=!((C10 == 0) == decide (q1=q0))) (by kernel_rfl) (by rw [e10];rfl) ?_
 refine gC aAt c11 ?_
 refine gC aAt c11 ?_
 refine gP (aA2 _ _ .i64 C11 C11) ?_
 refine aA7 (b:=C11 != C11) (by kernel_rfl) (by simp) ?_
 refine gC aAt c11 ?_
 refine gP (aBO .i64 C11) ?_
 refine gP (aA2 _ _ .i64 C11 (IntKind.i64.wrap (0 - C11))) ?_
 refine aA7 (b:=C11 != IntKind.i64.wrap (0 - C11)) (by kernel_rfl) (w11) ?_
 refine gP (aA9 _ _ .i64 C11 0) ?_
 refine aAe (by kernel_rfl) (aEA _ q1 q1) ?_
 refine gP (aB0 _ _ (C11 == 0) (decide (q1=q1)) aAE) ?_
 refine aA7 (b:=!((C11 == 0) == decide (q1=q1))) (by kernel_rfl) (by rw [e11];rfl) ?_
 refine gC aAt c12 ?_
 refine gC aAt c12 ?_
 refine gP (aA2 _ _ .i64 C12 C12) ?_
 refine aA7 (b:=C12 != C12) (by kernel_rfl) (by simp) ?_
 refine gC aAt c21 ?_
 refine gP (aBO .i64 C21) ?_
 refine gP (aA2 _ _ .i64 C12 (IntKind.i64.wrap (0 - C21))) ?_
 refine aA7 (b:=C12 != IntKind.i64.wrap (0 - C21)) (by kernel_rfl) (w12) ?_
 refine gP (aA9 _ _ .i64 C12 0) ?_
 refine aAe (by kernel_rfl) (aEA _ q1 q2) ?_
 refine gP (aB0 _ _ (C12 == 0) (decide (q1=q2)) aAE) ?_
 refine aA7 (b:=!((C12 == 0) == decide (q1=q2))) (by kernel_rfl) (by rw [e12];rfl) ?_
 refine gC aAt c20 ?_
 refine gC aAt c20 ?_
 refine gP (aA2 _ _ .i64 C20 C20) ?_
 refine aA7 (b:=C20 != C20) (by kernel_rfl) (by simp) ?_
 refine gC aAt c02 ?_
 refine gP (aBO .i64 C02) ?_
 refine gP (aA2 _ _ .i64 C20 (IntKind.i64.wrap (0 - C02))) ?_
 refine aA7 (b:=C20 != IntKind.i64.wrap (0 - C02)) (by kernel_rfl) (w20) ?_
 refine gP (aA9 _ _ .i64 C20 0) ?_
 refine aAe (by kernel_rfl) (aEA _ q2 q0) ?_
 refine gP (aB0 _ _ (C20 == 0) (decide (q2=q0)) aAE) ?_
 refine aA7 (b:=!((C20 == 0) == decide (q2=q0))) (by kernel_rfl) (by rw [e20];rfl) ?_
 refine gC aAt c21 ?_
 refine gC aAt c21 ?_
 refine gP (aA2 _ _ .i64 C21 C21) ?_
 refine aA7 (b:=C21 != C21) (by kernel_rfl) (by simp) ?_
 refine gC aAt c12 ?_
 refine gP (aBO .i64 C12) ?_
 refine gP (aA2 _ _ .i64 C21 (IntKind.i64.wrap (0 - C12))) ?_
 refine aA7 (b:=C21 != IntKind.i64.wrap (0 - C12)) (by kernel_rfl) (w21) ?_
 refine gP (aA9 _ _ .i64 C21 0) ?_
 refine aAe (by kernel_rfl) (aEA _ q2 q1) ?_
 refine gP (aB0 _ _ (C21 == 0) (decide (q2=q1)) aAE) ?_
 refine aA7 (b:=!((C21 == 0) == decide (q2=q1))) (by kernel_rfl) (by rw [e21];rfl) ?_
 refine gC aAt c22 ?_
 refine gC aAt c22 ?_
 refine gP (aA2 _ _ .i64 C22 C22) ?_
 refine aA7 (b:=C22 != C22) (by kernel_rfl) (by simp) ?_
 refine gC aAt c22 ?_
 refine gP (aBO .i64 C22) ?_
 refine gP (aA2 _ _ .i64 C22 (IntKind.i64.wrap (0 - C22))) ?_
 refine aA7 (b:=C22 != IntKind.i64.wrap (0 - C22)) (by kernel_rfl) (w22) ?_
 refine gP (aA9 _ _ .i64 C22 0) ?_
 refine aAe (by kernel_rfl) (aEA _ q2 q2) ?_
 refine gP (aB0 _ _ (C22 == 0) (decide (q2=q2)) aAE) ?_
 refine aA7 (b:=!((C22 == 0) == decide (q2=q2))) (by kernel_rfl) (by rw [e22];rfl) ?_
 refine gC aAt c01 ?_
 refine gP (aAh _ _ .i64 C01 0) ?_
 refine aAr (b:=decide (C01 < 0)) (by kernel_rfl) (fun h1=>?_) (fun _=>aAb (by kernel_rfl))
 refine gC aAt c12 ?_
 refine gP (aAh _ _ .i64 C12 0) ?_
 refine aAr (b:=decide (C12 < 0)) (by kernel_rfl) (fun h2=>?_) (fun _=>aAb (by kernel_rfl))
 refine gC aAt c02 ?_
 refine gP (aDR _ _ .i64 C02 0) ?_
 have hz:decide (C02 ≥ 0)=false:=by rw [decide_eq_false_iff_not];have:=tr (of_decide_eq_true h1) (of_decide_eq_true h2);omega
 rw [hz]
 exact gP (aBs false) (aAb (by kernel_rfl))
end Go.Proofs.YtjefbecmeobegaaGreatDoor.Sp
