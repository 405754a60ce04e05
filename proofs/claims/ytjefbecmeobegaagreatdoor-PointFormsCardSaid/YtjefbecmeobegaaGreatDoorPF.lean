/- MERGED by merge.py: TrLPointForms PurePointForms -/
import Derived.Test.YtjefbecmeobegaaGreatDoorSx1
import Derived.Test.YtjefbecmeobegaaGreatDoorSpF
import Derived.Test.YtjefbecmeobegaaGreatDoorSpAl
namespace Go.Proofs.YtjefbecmeobegaaGreatDoor.Sp
open Go Sx
def aEA:T:=.call 16 [] 1 (.pure (.un .not) [.one (.var 17)] (.ite 18 (.ret [.const (.bool .false)]) (.call 69 [.var 0,.var 1,.var 2,.var 3,.var 4,.var 5,.var 6,.var 7] 1 (.pure (.bin .eql 3 .true) [.one (.var 19),.one (.const (.int .i64 1))] (.ite 20 (.ret [.const (.bool .true)]) (.call 18 [.var 8,.var 9,.var 10,.var 11,.var 12,.var 13,.var 14,.var 15,.var 16] 1 (.pure (.bin .eql 3 .true) [.one (.var 21),.one (.const (.int .i64 1))] (.ite 22 (.ret [.const (.bool .true)]) (.call 19 [.var 0,.var 1,.var 2,.var 3,.var 4,.var 5,.var 6,.var 7] 8 (.call 20 [.var 0,.var 1,.var 2,.var 3,.var 4,.var 5,.var 6,.var 7] 8 (.pure (.bin .eql 25 .false) [.agg [.var 23,.var 24,.var 25,.var 26,.var 27,.var 28,.var 29,.var 30],.agg [.var 31,.var 32,.var 33,.var 34,.var 35,.var 36,.var 37,.var 38]] (.ite 39 (.call 21 [.var 0,.var 1,.var 2,.var 3,.var 4,.var 5,.var 6,.var 7] 9 (.call 22 [.var 0,.var 1,.var 2,.var 3,.var 4,.var 5,.var 6,.var 7] 9 (.pure (.bin .eql 29 .false) [.agg [.var 40,.var 41,.var 42,.var 43,.var 44,.var 45,.var 46,.var 47,.var 48],.agg [.var 49,.var 50,.var 51,.var 52,.var 53,.var 54,.var 55,.var 56,.var 57]] (.ite 58 (.call 23 [.var 0,.var 1,.var 2,.var 3,.var 4,.var 5,.var 6,.var 7] 1 (.call 24 [.var 0,.var 1,.var 2,.var 3,.var 4,.var 5,.var 6,.var 7] 1 (.pure (.bin .eql 9 .false) [.one (.var 59),.one (.var 60)] (.ite 61 (.call 25 [.var 8,.var 9,.var 10,.var 11,.var 12,.var 13,.var 14,.var 15,.var 16] 8 (.call 26 [.var 8,.var 9,.var 10,.var 11,.var 12,.var 13,.var 14,.var 15,.var 16] 8 (.pure (.bin .eql 25 .false) [.agg [.var 62,.var 63,.var 64,.var 65,.var 66,.var 67,.var 68,.var 69],.agg [.var 70,.var 71,.var 72,.var 73,.var 74,.var 75,.var 76,.var 77]] (.ret [.var 78])))) (.ret [.const (.bool .false)]))))) (.ret [.const (.bool .false)]))))) (.ret [.const (.bool .false)])))))))))))))
end Go.Proofs.YtjefbecmeobegaaGreatDoor.Sp
namespace Go.Proofs.YtjefbecmeobegaaGreatDoor.Sp
open Go Go.RowKit Sx NatA NatB NatC NatD NatI NatJ IntZ RatZ PtZ
def tbL4 (P:Program):Tb:=tbDT++aQr P
theorem okL4:TbOk Tryz.prog X.G (tbL4 Tryz.prog):=TbOk.app okDT okL1
set_option maxHeartbeats 4000000 in
theorem g_PointForms:Sx.Good Tryz.prog X.G 3 ⟨[.agg 8,.agg 9],.v1 .one⟩ (F_true (kP++kV++[])):=aAd okL4 (fun _ _=>X.G_below) 400 (by kernel_rfl) (by kernel_rfl:_=some aEA) fun ds rs h=>by
 obtain ⟨vs,h0,rfl,rfl⟩:=F_true.inv h
 obtain ⟨n01,a01,n02,a02,n03,a03,n04,a04,r1,rfl,h1⟩:=aOc (ks:=(kV++[])) h0
 obtain ⟨n11,a11,b11,n12,a12,b12,n13,a13,b13,r2,rfl,h2⟩:=aRo (ks:=([])) h1
 obtain rfl:=aNg h2
 clear h h0 h1 h2
 refine ⟨0,?_⟩
 refine gC aEP awk (gP (aEs true) (aF1 (b:=!true) (by kernel_rfl) rfl ?_))
 rcases aIy n01 a01 n02 a02 n03 a03 n04 a04 with g1 | ⟨g1,i0⟩
 ·exact gC aCa g1 (gP (aBc _ _ .i64 1 1) (aDe (b:=(1:Int) == 1) (by kernel_rfl) rfl (aAc (by kernel_rfl))))
 refine gC aCa g1 (gP (aBc _ _ .i64 0 1) (aF1 (b:=(0:Int) == 1) (by kernel_rfl) rfl ?_))
 clear g1
 rcases aJO n11 a11 b11 n12 a12 b12 n13 a13 b13 with g1 | ⟨g1,i1x,i1y,i1z⟩
 ·exact gC aCB g1 (gP (aBc _ _ .i64 1 1) (aDe (b:=(1:Int) == 1) (by kernel_rfl) rfl (aAc (by kernel_rfl))))
 refine gC aCB g1 (gP (aBc _ _ .i64 0 1) (aF1 (b:=(0:Int) == 1) (by kernel_rfl) rfl ?_))
 clear g1
 obtain ⟨u0,hu0⟩:∃ v,v=pv4 (Z n01 a01,Z n02 a02,Z n03 a03,Z n04 a04):=⟨_,rfl⟩
 have Pu0:PA 6 u0 [b_ n01,s_ a01,b_ n02,s_ a02,b_ n03,s_ a03,b_ n04,s_ a04]:=by rw [hu0];exact PA.raw i0
 have s_u0:Sv 6 u0:=Pu0.sv (by decide)
 obtain ⟨x1,hx1⟩:∃ v,v=qv n11 a11 b11:=⟨_,rfl⟩
 have Px1:RI 6 x1 [b_ n11,s_ a11,s_ b11]:=by rw [hx1];exact i1x
 have s_x1:Sq 6 x1:=Px1.sq (by decide)
 obtain ⟨y1,hy1⟩:∃ v,v=qv n12 a12 b12:=⟨_,rfl⟩
 have Py1:RI 6 y1 [b_ n12,s_ a12,s_ b12]:=by rw [hy1];exact i1y
 have s_y1:Sq 6 y1:=Py1.sq (by decide)
 obtain ⟨z1,hz1⟩:∃ v,v=qv n13 a13 b13:=⟨_,rfl⟩
 have Pz1:RI 6 z1 [b_ n13,s_ a13,s_ b13]:=by rw [hz1];exact i1z
 have s_z1:Sq 6 z1:=Pz1.sq (by decide)
 have c3:aAS ([b_ n01,s_ a01,b_ n02,s_ a02,b_ n03,s_ a03,b_ n04,s_ a04])=some (aAB u0):=aMe Pu0 (by decide)
 have c4:aAS ([b_ n01,s_ a01,b_ n02,s_ a02,b_ n03,s_ a03,b_ n04,s_ a04])=some (aAB u0):=aMe Pu0 (by decide)
 have c5:aAm ([b_ n01,s_ a01,b_ n02,s_ a02,b_ n03,s_ a03,b_ n04,s_ a04])=some (aCi u0):=aJg Pu0 (by decide)
 have c6:aAm ([b_ n01,s_ a01,b_ n02,s_ a02,b_ n03,s_ a03,b_ n04,s_ a04])=some (aCi u0):=aJg Pu0 (by decide)
 have c7:aDo ([b_ n01,s_ a01,b_ n02,s_ a02,b_ n03,s_ a03,b_ n04,s_ a04])=some [s_ (aCb u0)]:=aNh Pu0 (by decide)
 obtain ⟨p8,hp8⟩:∃ v,v=(x1,y1,z1):=⟨_,rfl⟩
 have c9:aAN (([b_ n11,s_ a11,s_ b11]++([b_ n12,s_ a12,s_ b12]++[b_ n13,s_ a13,s_ b13])))=some (aAB p8):=by rw [hp8];exact aGC (VI.mk (Px1) (Py1) (Pz1)) (by decide)
 clear hu0 hx1 hy1 hz1 hp8
 refine gC aAS c3 ?_
 refine gC aAS c4 ?_
 refine aAe (by kernel_rfl) (aKO _ u0 u0) ?_
 refine aDe (b:=decide (u0=u0)) (by kernel_rfl) (decide_eq_true rfl) ?_
 refine gC aAm c5 ?_
 refine gC aAm c6 ?_
 refine aAe (by kernel_rfl) (aT0 _ u0 u0) ?_
 refine aDe (b:=decide (u0=u0)) (by kernel_rfl) (decide_eq_true rfl) ?_
 refine gC aDo c7 ?_
 refine gC aDo c7 ?_
 refine gP (aBN _ _ (aCb u0) (aCb u0)) ?_
 refine aDe (b:=decide (aCb u0=aCb u0)) (by kernel_rfl) (decide_eq_true rfl) ?_
 refine gC aAN c9 ?_
 refine gC aAN c9 ?_
 refine aAe (by kernel_rfl) (aKO _ p8 p8) ?_
 rw [decide_eq_true (rfl:p8=p8)]
 exact aAc (by kernel_rfl)
end Go.Proofs.YtjefbecmeobegaaGreatDoor.Sp
