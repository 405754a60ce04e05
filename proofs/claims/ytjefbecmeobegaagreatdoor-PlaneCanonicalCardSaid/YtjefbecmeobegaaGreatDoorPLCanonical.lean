/- MERGED by merge.py: TrLPlaneCanonical PurePlaneCanonical -/
import Derived.Test.YtjefbecmeobegaaGreatDoorSx1
import Derived.Test.YtjefbecmeobegaaGreatDoorSpPr
import Derived.Test.YtjefbecmeobegaaGreatDoorSpPa
namespace Go.Proofs.YtjefbecmeobegaaGreatDoor.Sp
open Go Sx
def aDP:T:=.call 37 [] 1 (.pure (.un .not) [.one (.var 20)] (.ite 21 (.ret [.const (.bool .false)]) (.call 101 [.var 0,.var 1,.var 2,.var 3,.var 4,.var 5,.var 6,.var 7] 1 (.pure (.bin .eql 3 .true) [.one (.var 22),.one (.const (.int .i64 1))] (.ite 23 (.ret [.const (.bool .true)]) (.pure (.blt .len 9) [.one (.var 9)] (.pure (.bin .gtr 3 .true) [.one (.var 24),.one (.const (.int .i64 6))] (.ite 25 (.ret [.const (.bool .true)]) (.pure (.blt .len 9) [.one (.var 10)] (.pure (.bin .gtr 3 .true) [.one (.var 26),.one (.const (.int .i64 6))] (.ite 27 (.ret [.const (.bool .true)]) (.pure (.blt .len 9) [.one (.var 12)] (.pure (.bin .gtr 3 .true) [.one (.var 28),.one (.const (.int .i64 6))] (.ite 29 (.ret [.const (.bool .true)]) (.pure (.blt .len 9) [.one (.var 13)] (.pure (.bin .gtr 3 .true) [.one (.var 30),.one (.const (.int .i64 6))] (.ite 31 (.ret [.const (.bool .true)]) (.pure (.blt .len 9) [.one (.var 15)] (.pure (.bin .gtr 3 .true) [.one (.var 32),.one (.const (.int .i64 6))] (.ite 33 (.ret [.const (.bool .true)]) (.pure (.blt .len 9) [.one (.var 16)] (.pure (.bin .gtr 3 .true) [.one (.var 34),.one (.const (.int .i64 6))] (.ite 35 (.ret [.const (.bool .true)]) (.pure (.blt .len 9) [.one (.var 18)] (.pure (.bin .gtr 3 .true) [.one (.var 36),.one (.const (.int .i64 6))] (.ite 37 (.ret [.const (.bool .true)]) (.pure (.blt .len 9) [.one (.var 19)] (.pure (.bin .gtr 3 .true) [.one (.var 38),.one (.const (.int .i64 6))] (.ite 39 (.ret [.const (.bool .true)]) (.call 40 [.var 0,.var 1,.var 2,.var 3,.var 4,.var 5,.var 6,.var 7] 9 (.call 41 [.var 0,.var 1,.var 2,.var 3,.var 4,.var 5,.var 6,.var 7] 9 (.call 42 [.var 8,.var 9,.var 10,.var 11,.var 12,.var 13,.var 14,.var 15,.var 16,.var 17,.var 18,.var 19] 9 (.call 43 [.var 8,.var 9,.var 10,.var 11,.var 12,.var 13,.var 14,.var 15,.var 16,.var 17,.var 18,.var 19] 9 (.pure (.bin .neq 53 .false) [.agg [.var 40,.var 41,.var 42,.var 43,.var 44,.var 45,.var 46,.var 47],.agg [.var 49,.var 50,.var 51,.var 52,.var 53,.var 54,.var 55,.var 56]] (.ite 76 (.ret [.const (.bool .false)]) (.pure (.bin .neq 4 .false) [.one (.var 48),.one (.var 57)] (.ite 77 (.ret [.const (.bool .false)]) (.pure (.bin .neq 53 .false) [.agg [.var 58,.var 59,.var 60,.var 61,.var 62,.var 63,.var 64,.var 65],.agg [.var 67,.var 68,.var 69,.var 70,.var 71,.var 72,.var 73,.var 74]] (.ite 78 (.ret [.const (.bool .false)]) (.pure (.bin .neq 4 .false) [.one (.var 66),.one (.var 75)] (.ite 79 (.ret [.const (.bool .false)]) (.pure (.un .not) [.one (.var 48)] (.ite 80 (.pure (.bin .eql 53 .false) [.agg [.var 40,.var 41,.var 42,.var 43,.var 44,.var 45,.var 46,.var 47],.agg [.const (.bool .false),.const (.string ⟨#[]⟩),.const (.bool .false),.const (.string ⟨#[]⟩),.const (.bool .false),.const (.string ⟨#[]⟩),.const (.bool .false),.const (.string ⟨#[]⟩)]] (.ret [.var 81])) (.call 40 [.var 40,.var 41,.var 42,.var 43,.var 44,.var 45,.var 46,.var 47] 9 (.ite 89 (.pure (.bin .eql 53 .false) [.agg [.var 81,.var 82,.var 83,.var 84,.var 85,.var 86,.var 87,.var 88],.agg [.var 40,.var 41,.var 42,.var 43,.var 44,.var 45,.var 46,.var 47]] (.ret [.var 90])) (.ret [.const (.bool .false)]))))))))))))))))))))))))))))))))))))))))))))))
end Go.Proofs.YtjefbecmeobegaaGreatDoor.Sp
namespace Go.Proofs.YtjefbecmeobegaaGreatDoor.Sp
open Go Go.RowKit Sx NatA NatB NatC NatD NatI NatJ IntZ RatZ PtZ PlZ
def tbL5:Tb:=[(41,aAA),(43,aBm)]++aOC
theorem okL5:TbOk Tryz.prog X.G tbL5:=(.cons (by kernel_rfl) aJ2 (.cons (by kernel_rfl) aMT aRe))
set_option maxHeartbeats 4000000 in
theorem g_PlaneCanonical:Sx.Good Tryz.prog X.G 8 ⟨[.agg 8,.agg 9,.agg 3],.v1 .one⟩ (F_true (kP++kV++kR++[])):=aAe okL5 (fun _ _=>X.G_below) 400 (by kernel_rfl) (by kernel_rfl:_=some aDP) fun ds rs h=>by
 obtain ⟨vs,h0,rfl,rfl⟩:=F_true.inv h
 obtain ⟨n01,a01,n02,a02,n03,a03,n04,a04,r1,rfl,h1⟩:=aIf (ks:=(kV++kR++[])) h0
 obtain ⟨n11,a11,b11,n12,a12,b12,n13,a13,b13,r2,rfl,h2⟩:=aU5 (ks:=(kR++[])) h1
 obtain ⟨n21,a21,b21,r3,rfl,h3⟩:=aLo (ks:=([])) h2
 obtain rfl:=aKo h3
 clear h h0 h1 h2 h3
 refine ⟨0,?_⟩
 refine gC aEp awk (gP (aBN true) (aB2 (b:=!true) (by kernel_rfl) rfl ?_))
 rcases aEo n01 a01 n02 a02 n03 a03 n04 a04 with g1 | ⟨g1,i0⟩
 ·exact gC aAY g1 (gP (aAD _ _ .i64 1 1) (aBQ (b:=(1:Int) == 1) (by kernel_rfl) rfl (aAc (by kernel_rfl))))
 refine gC aAY g1 (gP (aAD _ _ .i64 0 1) (aB2 (b:=(0:Int) == 1) (by kernel_rfl) rfl ?_))
 clear g1
 refine gP (aAq aBf a11) (gP (aAy _ _ .i64 (a11.size:Int) 6) (aAt (b:=decide ((a11.size:Int) > 6)) (by kernel_rfl) (fun _=>aAc (by kernel_rfl)) (fun wa11=>?_)))
 have wa11:=aBY (k:=6) wa11
 refine gP (aAq aBf b11) (gP (aAy _ _ .i64 (b11.size:Int) 6) (aAt (b:=decide ((b11.size:Int) > 6)) (by kernel_rfl) (fun _=>aAc (by kernel_rfl)) (fun wb11=>?_)))
 have wb11:=aBY (k:=6) wb11
 refine gP (aAq aBf a12) (gP (aAy _ _ .i64 (a12.size:Int) 6) (aAt (b:=decide ((a12.size:Int) > 6)) (by kernel_rfl) (fun _=>aAc (by kernel_rfl)) (fun wa12=>?_)))
 have wa12:=aBY (k:=6) wa12
 refine gP (aAq aBf b12) (gP (aAy _ _ .i64 (b12.size:Int) 6) (aAt (b:=decide ((b12.size:Int) > 6)) (by kernel_rfl) (fun _=>aAc (by kernel_rfl)) (fun wb12=>?_)))
 have wb12:=aBY (k:=6) wb12
 refine gP (aAq aBf a13) (gP (aAy _ _ .i64 (a13.size:Int) 6) (aAt (b:=decide ((a13.size:Int) > 6)) (by kernel_rfl) (fun _=>aAc (by kernel_rfl)) (fun wa13=>?_)))
 have wa13:=aBY (k:=6) wa13
 refine gP (aAq aBf b13) (gP (aAy _ _ .i64 (b13.size:Int) 6) (aAt (b:=decide ((b13.size:Int) > 6)) (by kernel_rfl) (fun _=>aAc (by kernel_rfl)) (fun wb13=>?_)))
 have wb13:=aBY (k:=6) wb13
 refine gP (aAq aBf a21) (gP (aAy _ _ .i64 (a21.size:Int) 6) (aAt (b:=decide ((a21.size:Int) > 6)) (by kernel_rfl) (fun _=>aAc (by kernel_rfl)) (fun wa21=>?_)))
 have wa21:=aBY (k:=6) wa21
 refine gP (aAq aBf b21) (gP (aAy _ _ .i64 (b21.size:Int) 6) (aAt (b:=decide ((b21.size:Int) > 6)) (by kernel_rfl) (fun _=>aAc (by kernel_rfl)) (fun wb21=>?_)))
 have wb21:=aBY (k:=6) wb21
 obtain ⟨z0,hz0⟩:∃ v,v=(Z n01 a01,Z n02 a02,Z n03 a03,Z n04 a04):=⟨_,rfl⟩
 have Iz0:PI 6 z0 [b_ n01,s_ a01,b_ n02,s_ a02,b_ n03,s_ a03,b_ n04,s_ a04]:=by rw [hz0];exact i0
 have Sz0:S4 6 z0:=Iz0.s4
 clear hz0 i0
 obtain ⟨x,hx⟩:∃ v,v=qv n11 a11 b11:=⟨_,rfl⟩
 have Rx:RI 6 x [b_ n11,s_ a11,s_ b11]:=by rw [hx];exact .raw n11 wa11 wb11
 clear hx
 obtain ⟨y,hy⟩:∃ v,v=qv n12 a12 b12:=⟨_,rfl⟩
 have Ry:RI 6 y [b_ n12,s_ a12,s_ b12]:=by rw [hy];exact .raw n12 wa12 wb12
 clear hy
 obtain ⟨z,hz⟩:∃ v,v=qv n13 a13 b13:=⟨_,rfl⟩
 have Rz:RI 6 z [b_ n13,s_ a13,s_ b13]:=by rw [hz];exact .raw n13 wa13 wb13
 clear hz
 obtain ⟨w,hw⟩:∃ v,v=qv n21 a21 b21:=⟨_,rfl⟩
 have Rw:RI 6 w [b_ n21,s_ a21,s_ b21]:=by rw [hw];exact .raw n21 wa21 wb21
 clear hw
 have n0:aAA [b_ n01,s_ a01,b_ n02,s_ a02,b_ n03,s_ a03,b_ n04,s_ a04]=some (aBr (plz z0)):=aGM Iz0 (by decide)
 have m0:aBm (([b_ n11,s_ a11,s_ b11]++([b_ n12,s_ a12,s_ b12]++[b_ n13,s_ a13,s_ b13]))++[b_ n21,s_ a21,s_ b21])=some (aBr (plv (x,y,z,w))):=aRc (VI.mk Rx Ry Rz) Rw (by decide) (by decide)
 generalize plv (x,y,z,w)=V at *
 obtain ⟨v,vk⟩:=V
 have m0:aBm (([b_ n11,s_ a11,s_ b11]++([b_ n12,s_ a12,s_ b12]++[b_ n13,s_ a13,s_ b13]))++[b_ n21,s_ a21,s_ b21])=some (enc4 v++[b_ vk]):=m0
 rcases aHC z0 with e0 | ⟨q,e0⟩
 ·rw [e0] at n0
  have ez:enc4 (0,0,0,0)=[b_ false,s_ (⟨#[]⟩:ByteArray),b_ false,s_ (⟨#[]⟩:ByteArray),b_ false,s_ (⟨#[]⟩:ByteArray),b_ false,s_ (⟨#[]⟩:ByteArray)]:=by
   show enc 0++(enc 0++(enc 0++enc 0))=_
   rw [aDQ]
   rfl
  have n0:aAA [b_ n01,s_ a01,b_ n02,s_ a02,b_ n03,s_ a03,b_ n04,s_ a04]=some ([b_ false,s_ (⟨#[]⟩:ByteArray),b_ false,s_ (⟨#[]⟩:ByteArray),b_ false,s_ (⟨#[]⟩:ByteArray),b_ false,s_ (⟨#[]⟩:ByteArray)]++[b_ false]):=by rw [n0,← ez];rfl
  have d:=aHH false (0,0,0,0) (0,0,0,0)
  have d':=aKn false (0,0,0,0) (0,0,0,0)
  rw [decide_eq_true rfl,ez] at d d'
  clear ez e0
  refine gC aAA n0 (gC aAA n0 (gC aBm m0 (gC aBm m0 (aAf (by kernel_rfl) d' (aB2 (b:=!true) (by kernel_rfl) rfl ?_)))))
  refine gP (aBT _ _ false false aAR) (aB2 (b:=!(false == false)) (by kernel_rfl) rfl ?_)
  refine aAf (by kernel_rfl) (aKn _ v v) (aB2 (b:=!decide (v=v)) (by kernel_rfl) (aLm rfl) ?_)
  refine gP (aBT _ _ vk vk aAR) (aB2 (b:=!(vk == vk)) (by kernel_rfl) (by rw [beq_self_eq_true];rfl) ?_)
  exact gP (aBN false) (aBQ (b:=!false) (by kernel_rfl) rfl (aAf (by kernel_rfl) d (aAc (by kernel_rfl))))
 rw [e0] at n0
 have n0:aAA [b_ n01,s_ a01,b_ n02,s_ a02,b_ n03,s_ a03,b_ n04,s_ a04]=some (enc4 q++[b_ true]):=n0
 have Sq:S4 6 q:=aII Sz0 e0
 have Cq:plz q=(q,true):=(aM2 e0).1
 have n1:aAA (enc4 q)=some (aBr (plz q)):=aGM (PI.can Sq) (by decide)
 rw [Cq] at n1
 have n1:aAA (enc4 q)=some (enc4 q++[b_ true]):=n1
 clear e0 Cq
 refine gC aAA n0 (gC aAA n0 (gC aBm m0 (gC aBm m0 (aAf (by kernel_rfl) (aKn _ q q) (aB2 (b:=!decide (q=q)) (by kernel_rfl) (aLm rfl) ?_)))))
 refine gP (aBT _ _ true true aAR) (aB2 (b:=!(true == true)) (by kernel_rfl) rfl ?_)
 refine aAf (by kernel_rfl) (aKn _ v v) (aB2 (b:=!decide (v=v)) (by kernel_rfl) (aLm rfl) ?_)
 refine gP (aBT _ _ vk vk aAR) (aB2 (b:=!(vk == vk)) (by kernel_rfl) (by rw [beq_self_eq_true];rfl) ?_)
 refine gP (aBN true) (aB2 (b:=!true) (by kernel_rfl) rfl (gC aAA n1 (aAH (by kernel_rfl) (aAf (by kernel_rfl) (aHH _ q q) ?_))))
 rw [decide_eq_true (rfl:q=q)]
 exact aAc (by kernel_rfl)
end Go.Proofs.YtjefbecmeobegaaGreatDoor.Sp
