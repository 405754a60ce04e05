import Derived.Test.YtjefbecmeobegaaGreatDoorSpD
import Derived.Test.YtjefbecmeobegaaGreatDoorSpAl
import Derived.Test.YtjefbecmeobegaaGreatDoorTrLPointMoves
namespace Go.Proofs.YtjefbecmeobegaaGreatDoor.Sp
open Go Go.RowKit Sx NatA NatB NatC NatD NatI NatJ IntZ RatZ PtZ
def tbL4 (P:Program):Tb:=aPx++aQr P
theorem okL4:TbOk Tryz.prog X.G (tbL4 Tryz.prog):=TbOk.app okD5 okL1
set_option maxHeartbeats 4000000 in
theorem g_PointMoves:Sx.Good Tryz.prog X.G 4 ⟨[.agg 8,.agg 8,.agg 12],.v1 .one⟩ (F_true (kP++kP++kV++kR++[])):=aAd okL4 (fun _ _=>X.G_below) 400 (by kernel_rfl) (by kernel_rfl:_=some aE9) fun ds rs h=>by
 obtain ⟨vs,h0,rfl,rfl⟩:=F_true.inv h
 obtain ⟨n01,a01,n02,a02,n03,a03,n04,a04,r1,rfl,h1⟩:=aOc (ks:=(kP++kV++kR++[])) h0
 obtain ⟨n11,a11,n12,a12,n13,a13,n14,a14,r2,rfl,h2⟩:=aOc (ks:=(kV++kR++[])) h1
 obtain ⟨n21,a21,b21,n22,a22,b22,n23,a23,b23,r3,rfl,h3⟩:=aRo (ks:=(kR++[])) h2
 obtain ⟨n31,a31,b31,r4,rfl,h4⟩:=aKP (ks:=([])) h3
 obtain rfl:=aNg h4
 clear h h0 h1 h2 h3 h4
 refine ⟨0,?_⟩
 refine gC aEP awk (gP (aEs true) (aF1 (b:=!true) (by kernel_rfl) rfl ?_))
 rcases aIy n01 a01 n02 a02 n03 a03 n04 a04 with g1 | ⟨g1,i0⟩
 ·exact gC aCa g1 (gP (aBc _ _ .i64 1 1) (aDe (b:=(1:Int) == 1) (by kernel_rfl) rfl (aAc (by kernel_rfl))))
 refine gC aCa g1 (gP (aBc _ _ .i64 0 1) (aF1 (b:=(0:Int) == 1) (by kernel_rfl) rfl ?_))
 clear g1
 rcases aIy n11 a11 n12 a12 n13 a13 n14 a14 with g1 | ⟨g1,i1⟩
 ·exact gC aCa g1 (gP (aBc _ _ .i64 1 1) (aDe (b:=(1:Int) == 1) (by kernel_rfl) rfl (aAc (by kernel_rfl))))
 refine gC aCa g1 (gP (aBc _ _ .i64 0 1) (aF1 (b:=(0:Int) == 1) (by kernel_rfl) rfl ?_))
 clear g1
 rcases aJO n21 a21 b21 n22 a22 b22 n23 a23 b23 with g1 | ⟨g1,i2x,i2y,i2z⟩
 ·exact gC aCB g1 (gP (aBc _ _ .i64 1 1) (aDe (b:=(1:Int) == 1) (by kernel_rfl) rfl (aAc (by kernel_rfl))))
 refine gC aCB g1 (gP (aBc _ _ .i64 0 1) (aF1 (b:=(0:Int) == 1) (by kernel_rfl) rfl ?_))
 clear g1
 rcases aJO n31 a31 b31 false (⟨#[]⟩:ByteArray) (⟨#[]⟩:ByteArray) false (⟨#[]⟩:ByteArray) (⟨#[]⟩:ByteArray) with g1 | ⟨g1,i3x,-,-⟩
 ·exact gC aCB g1 (gP (aBc _ _ .i64 1 1) (aDe (b:=(1:Int) == 1) (by kernel_rfl) rfl (aAc (by kernel_rfl))))
 refine gC aCB g1 (gP (aBc _ _ .i64 0 1) (aF1 (b:=(0:Int) == 1) (by kernel_rfl) rfl ?_))
 clear g1
 obtain ⟨u0,hu0⟩:∃ v,v=pv4 (Z n01 a01,Z n02 a02,Z n03 a03,Z n04 a04):=⟨_,rfl⟩
 have Pu0:PA 6 u0 [b_ n01,s_ a01,b_ n02,s_ a02,b_ n03,s_ a03,b_ n04,s_ a04]:=by rw [hu0];exact PA.raw i0
 have s_u0:Sv 6 u0:=Pu0.sv (by decide)
 obtain ⟨u1,hu1⟩:∃ v,v=pv4 (Z n11 a11,Z n12 a12,Z n13 a13,Z n14 a14):=⟨_,rfl⟩
 have Pu1:PA 6 u1 [b_ n11,s_ a11,b_ n12,s_ a12,b_ n13,s_ a13,b_ n14,s_ a14]:=by rw [hu1];exact PA.raw i1
 have s_u1:Sv 6 u1:=Pu1.sv (by decide)
 obtain ⟨x2,hx2⟩:∃ v,v=qv n21 a21 b21:=⟨_,rfl⟩
 have Px2:RI 6 x2 [b_ n21,s_ a21,s_ b21]:=by rw [hx2];exact i2x
 have s_x2:Sq 6 x2:=Px2.sq (by decide)
 obtain ⟨y2,hy2⟩:∃ v,v=qv n22 a22 b22:=⟨_,rfl⟩
 have Py2:RI 6 y2 [b_ n22,s_ a22,s_ b22]:=by rw [hy2];exact i2y
 have s_y2:Sq 6 y2:=Py2.sq (by decide)
 obtain ⟨z2,hz2⟩:∃ v,v=qv n23 a23 b23:=⟨_,rfl⟩
 have Pz2:RI 6 z2 [b_ n23,s_ a23,s_ b23]:=by rw [hz2];exact i2z
 have s_z2:Sq 6 z2:=Pz2.sq (by decide)
 obtain ⟨t3,ht3⟩:∃ v,v=qv n31 a31 b31:=⟨_,rfl⟩
 have Pt3:RI 6 t3 [b_ n31,s_ a31,s_ b31]:=by rw [ht3];exact i3x
 have s_t3:Sq 6 t3:=Pt3.sq (by decide)
 have c4:aEp ([b_ n01,s_ a01,b_ n02,s_ a02,b_ n03,s_ a03,b_ n04,s_ a04]++[b_ n11,s_ a11,b_ n12,s_ a12,b_ n13,s_ a13,b_ n14,s_ a14])=some [i_ (lex u0 u1)]:=aSp Pu0 Pu1 (by decide) (by decide)
 obtain ⟨p5,hp5⟩:∃ v,v=vadd u0 (x2,y2,z2):=⟨_,rfl⟩
 have s_p5:Sv 13 p5:=by rw [hp5];exact Sv.vadd s_u0 (show Sv 6 (x2,y2,z2) from ⟨s_x2,s_y2,s_z2⟩)
 have c6:aCQ ([b_ n01,s_ a01,b_ n02,s_ a02,b_ n03,s_ a03,b_ n04,s_ a04]++([b_ n21,s_ a21,s_ b21]++([b_ n22,s_ a22,s_ b22]++[b_ n23,s_ a23,s_ b23])))=some (aAB p5):=by rw [hp5];exact aSq Pu0 (VI.mk (Px2) (Py2) (Pz2)) (by decide) (by decide)
 obtain ⟨p7,hp7⟩:∃ v,v=vmid u0 u1 t3:=⟨_,rfl⟩
 have s_p7:Sv 26 p7:=by rw [hp7];exact Sv.vmid s_u0 s_u1 s_t3
 have c8:aCC ([b_ n01,s_ a01,b_ n02,s_ a02,b_ n03,s_ a03,b_ n04,s_ a04]++([b_ n11,s_ a11,b_ n12,s_ a12,b_ n13,s_ a13,b_ n14,s_ a14]++[b_ n31,s_ a31,s_ b31]))=some (aAB p7):=by rw [hp7];exact aMf Pu0 Pu1 Pt3 (by decide) (by decide) (by decide)
 clear hu0 hu1 hx2 hy2 hz2 ht3 hp5 hp7
 refine gC aEp c4 ?_
 refine gC aEp c4 ?_
 refine gP (aBc _ _ .i64 (lex u0 u1) (lex u0 u1)) ?_
 refine aDe (b:=(lex u0 u1) == (lex u0 u1)) (by kernel_rfl) (beq_self_eq_true _) ?_
 refine gC aCQ c6 ?_
 refine gC aCQ c6 ?_
 refine aAe (by kernel_rfl) (aKO _ p5 p5) ?_
 refine aDe (b:=decide (p5=p5)) (by kernel_rfl) (decide_eq_true rfl) ?_
 refine gC aCC c8 ?_
 refine gC aCC c8 ?_
 refine aAe (by kernel_rfl) (aKO _ p7 p7) ?_
 rw [decide_eq_true (rfl:p7=p7)]
 exact aAc (by kernel_rfl)
end Go.Proofs.YtjefbecmeobegaaGreatDoor.Sp
