import Derived.Test.YtjefbecmeobegaaGreatDoorSpB
import Derived.Test.YtjefbecmeobegaaGreatDoorSpU
import Derived.Test.YtjefbecmeobegaaGreatDoorTr1
namespace Go.Proofs.YtjefbecmeobegaaGreatDoor.Sp
open Go Go.RowKit Sx NatA NatB NatC NatD NatI NatJ IntZ RatZ PtZ
def aGS (x y z:Rat):V3:=pv4 (x.num*((y.den:Int)*z.den),y.num*((x.den:Int)*z.den),z.num*((x.den:Int)*y.den),(x.den:Int)*y.den*z.den)
theorem aMW (x y z:Rat):aGS x y z=(x,y,z):=by
 have hD:(x.den:Int)*y.den*z.den≠0:=Int.mul_ne_zero (Int.mul_ne_zero (aBo x) (aBo y)) (aBo z)
 unfold aGS pv4 pv w1
 dsimp only
 rw [if_neg hD]
 exact aOC (x,y,z)
set_option maxHeartbeats 2000000 in
theorem aKo:Sx.Good Tryz.prog X.G 20 ⟨[.agg 8],.v1 (.agg 8)⟩ aBd:=aAe aOE (λ _ _=>X.G_below) 400 kK (by kernel_rfl:_=some aGL) λ ds rs h=>by
 obtain ⟨p,hp,rfl⟩:=Fo.inv (aAv 2500) h
 obtain ⟨n1,a1,n2,a2,n3,a3,n4,a4,rfl,h1,h2,h3,h4,rfl⟩:=hp.inv
 obtain ⟨x,ex⟩:∃ x,x=Z n1 a1:=⟨_,rfl⟩
 obtain ⟨y,ey⟩:∃ x,x=Z n2 a2:=⟨_,rfl⟩
 obtain ⟨z,ez⟩:∃ x,x=Z n3 a3:=⟨_,rfl⟩
 obtain ⟨w,ew⟩:∃ x,x=Z n4 a4:=⟨_,rfl⟩
 have sx:Sz 2500 x:=by rw [ex];exact .of h1
 have sy:Sz 2500 y:=by rw [ey];exact .of h2
 have sz:Sz 2500 z:=by rw [ez];exact .of h3
 have sw:Sz 2500 w:=by rw [ew];exact .of h4
 show ∃ kk,aGL.run _ _ kk _ _=some (enc4 (pt (pv (Z n1 a1) (Z n2 a2) (Z n3 a3) (Z n4 a4))))
 have k1:aAj [b_ n1,s_ a1]=some (enc x):=by rw [ex];exact I1.eq kJ
 have k2:aAj [b_ n2,s_ a2]=some (enc y):=by rw [ey];exact I1.eq kJ
 have k3:aAj [b_ n3,s_ a3]=some (enc z):=by rw [ez];exact I1.eq kJ
 have k4:aAj [b_ n4,s_ a4]=some (enc w):=by rw [ew];exact I1.eq kJ
 have k5:aAx (enc w)=some [i_ (sgn w)]:=I1.can (sw.le kQ)
 have hpt:pt (pv x y z w)=nrm (x,y,z,w1 w):=(aPS (aSk w)).symm
 rw [<- ex,<- ey,<- ez,<- ew,hpt]
 clear hpt ex ey ez ew
 refine ⟨0,?_⟩
 refine gC aAj k1 (gC aAj k2 (gC aAj k3 (gC aAj k4 (gC aAx k5 (gP (aAz _ _ .i64 (sgn w) 0) ?_)))))
 refine aAw (b:=sgn w == 0) kK (λ hz=>?_) (λ hz=>?_)
 ·have hw:w=0:=by rw [aBI] at hz;exact of_decide_eq_true hz
  obtain ⟨o,ho⟩:∃ o,o=(1:Int):=⟨_,rfl⟩
  have so:Sz 2500 o:=by rw [ho];exact Sz.one.le kQ
  have k6:F_ifrom [i_ 1]=some (enc o):=by rw [ho];exact F_ifrom.eq kQ kQ
  have hw1:w1 w=o:=by rw [ho];exact if_pos hw
  rw [hw1]
  refine gC F_ifrom k6 ?_
  have hw0:o≠0:=by rw [ho];decide
  have lx:=aAW sx
  have ly:=aAW sy
  have lz:=aAW sz
  have lw:=aAW so
  have l1:=aBE lx ly
  have l2:=aBE l1 lz
  have l3:=aBE l2 lw
  have c1:=aF6 lx kQ
  have c2:=aBH lx ly kQ
  have c3:=aBH l1 lz kQ
  have c4:=aBH l2 lw kQ
  have hgp:0 < g4 x y z o:=aGn hw0
  obtain ⟨e1,e2,e3,e4⟩:=aEE x y z o
  have hr:=aIN x y z o
  obtain ⟨g,hg⟩:∃ g,g=g4 x y z o:=⟨_,rfl⟩
  have hg':Nat.gcd (Nat.gcd (Nat.gcd x.natAbs y.natAbs) z.natAbs) o.natAbs=g:=hg.symm
  rw [hg'] at c4 l3
  rw [<- hg] at e1 e2 e3 e4 hr
  have sg':Sz 2500 (g:Int):=aA9 l3
  have g0:(g:Int)≠0:=by omega
  have c5:aAj [b_ false,s_ (N g)]=some (enc (g:Int)):=aGq (Nat.le_trans ((aAH _ _).2 l3) kQ)
  rw [<- Int.neg_ediv_of_dvd e1,<- Int.neg_ediv_of_dvd e2,<- Int.neg_ediv_of_dvd e3,<- Int.neg_ediv_of_dvd e4] at hr
  have i4:aAx (enc o)=some [i_ (sgn o)]:=I1.can (so.le kQ)
  rw [hr]
  obtain ⟨x0,hx0⟩:∃ v,v=-x:=⟨_,rfl⟩
  have sx0:Sz 2500 x0:=by rw [hx0];exact sx.neg
  have mx:aAs (enc x)=some (enc x0):=by rw [hx0];exact I1.can (sx.le kQ)
  rw [<- hx0]
  obtain ⟨x1,hx1⟩:∃ v,v=x0 / (g:Int):=⟨_,rfl⟩
  obtain ⟨x2,nx⟩:∃ v,aAh (enc x0++enc (g:Int))=some (enc x1++enc v++[b_ true]):=⟨_,by rw [hx1];exact aA1 sx0 sg' kQ g0⟩
  obtain ⟨x3,hx3⟩:∃ v,v=x / (g:Int):=⟨_,rfl⟩
  obtain ⟨x4,dx⟩:∃ v,aAh (enc x++enc (g:Int))=some (enc x3++enc v++[b_ true]):=⟨_,by rw [hx3];exact aA1 sx sg' kQ g0⟩
  rw [<- hx1,<- hx3]
  obtain ⟨y0,hy0⟩:∃ v,v=-y:=⟨_,rfl⟩
  have sy0:Sz 2500 y0:=by rw [hy0];exact sy.neg
  have my:aAs (enc y)=some (enc y0):=by rw [hy0];exact I1.can (sy.le kQ)
  rw [<- hy0]
  obtain ⟨y1,hy1⟩:∃ v,v=y0 / (g:Int):=⟨_,rfl⟩
  obtain ⟨y2,ny⟩:∃ v,aAh (enc y0++enc (g:Int))=some (enc y1++enc v++[b_ true]):=⟨_,by rw [hy1];exact aA1 sy0 sg' kQ g0⟩
  obtain ⟨y3,hy3⟩:∃ v,v=y / (g:Int):=⟨_,rfl⟩
  obtain ⟨y4,dy⟩:∃ v,aAh (enc y++enc (g:Int))=some (enc y3++enc v++[b_ true]):=⟨_,by rw [hy3];exact aA1 sy sg' kQ g0⟩
  rw [<- hy1,<- hy3]
  obtain ⟨z0,hz0⟩:∃ v,v=-z:=⟨_,rfl⟩
  have sz0:Sz 2500 z0:=by rw [hz0];exact sz.neg
  have mz:aAs (enc z)=some (enc z0):=by rw [hz0];exact I1.can (sz.le kQ)
  rw [<- hz0]
  obtain ⟨z1,hz1⟩:∃ v,v=z0 / (g:Int):=⟨_,rfl⟩
  obtain ⟨z2,nz⟩:∃ v,aAh (enc z0++enc (g:Int))=some (enc z1++enc v++[b_ true]):=⟨_,by rw [hz1];exact aA1 sz0 sg' kQ g0⟩
  obtain ⟨z3,hz3⟩:∃ v,v=z / (g:Int):=⟨_,rfl⟩
  obtain ⟨z4,dz⟩:∃ v,aAh (enc z++enc (g:Int))=some (enc z3++enc v++[b_ true]):=⟨_,by rw [hz3];exact aA1 sz sg' kQ g0⟩
  rw [<- hz1,<- hz3]
  obtain ⟨w0,hw0⟩:∃ v,v=-o:=⟨_,rfl⟩
  have sw0:Sz 2500 w0:=by rw [hw0];exact so.neg
  have mw:aAs (enc o)=some (enc w0):=by rw [hw0];exact I1.can (so.le kQ)
  rw [<- hw0]
  obtain ⟨w1,hw1⟩:∃ v,v=w0 / (g:Int):=⟨_,rfl⟩
  obtain ⟨w2,nw⟩:∃ v,aAh (enc w0++enc (g:Int))=some (enc w1++enc v++[b_ true]):=⟨_,by rw [hw1];exact aA1 sw0 sg' kQ g0⟩
  obtain ⟨w3,hw3⟩:∃ v,v=o / (g:Int):=⟨_,rfl⟩
  obtain ⟨w4,dw⟩:∃ v,aAh (enc o++enc (g:Int))=some (enc w3++enc v++[b_ true]):=⟨_,by rw [hw3];exact aA1 so sg' kQ g0⟩
  rw [<- hw1,<- hw3]
  have hs:=aHI o
  generalize sgn o=S at *
  clear hr hg hg'
  refine gC aAx i4 (gP (aAi _ _ .i64 S 0) ?_)
  refine gC aA6 c1 (gC aA6 c2 (gC aA6 c3 (gC aA6 c4 (gC aAj c5 (aAw (b:=decide (S < 0)) kK (λ ht=>?_) (λ ht=>?_))))))
  ·rw [if_pos (hs.1 (of_decide_eq_true ht))]
   exact gC aAs mx (gC aAh nx (gC aAs my (gC aAh ny (gC aAs mz (gC aAh nz (gC aAs mw (gC aAh nw (aAc kK))))))))
  ·rw [if_neg (λ hh=>of_decide_eq_false ht (hs.2 hh))]
   exact gC aAh dx (gC aAh dy (gC aAh dz (gC aAh dw (aAc kK))))
 ·have hw:w≠0:=λ hh=>by rw [hh] at hz;exact absurd hz kQ
  have hw1:w1 w=w:=if_neg hw
  rw [hw1]
  have hw0:w≠0:=hw
  have lx:=aAW sx
  have ly:=aAW sy
  have lz:=aAW sz
  have lw:=aAW sw
  have l1:=aBE lx ly
  have l2:=aBE l1 lz
  have l3:=aBE l2 lw
  have c1:=aF6 lx kQ
  have c2:=aBH lx ly kQ
  have c3:=aBH l1 lz kQ
  have c4:=aBH l2 lw kQ
  have hgp:0 < g4 x y z w:=aGn hw0
  obtain ⟨e1,e2,e3,e4⟩:=aEE x y z w
  have hr:=aIN x y z w
  obtain ⟨g,hg⟩:∃ g,g=g4 x y z w:=⟨_,rfl⟩
  have hg':Nat.gcd (Nat.gcd (Nat.gcd x.natAbs y.natAbs) z.natAbs) w.natAbs=g:=hg.symm
  rw [hg'] at c4 l3
  rw [<- hg] at e1 e2 e3 e4 hr
  have sg':Sz 2500 (g:Int):=aA9 l3
  have g0:(g:Int)≠0:=by omega
  have c5:aAj [b_ false,s_ (N g)]=some (enc (g:Int)):=aGq (Nat.le_trans ((aAH _ _).2 l3) kQ)
  rw [<- Int.neg_ediv_of_dvd e1,<- Int.neg_ediv_of_dvd e2,<- Int.neg_ediv_of_dvd e3,<- Int.neg_ediv_of_dvd e4] at hr
  have i4:aAx (enc w)=some [i_ (sgn w)]:=I1.can (sw.le kQ)
  rw [hr]
  obtain ⟨x0,hx0⟩:∃ v,v=-x:=⟨_,rfl⟩
  have sx0:Sz 2500 x0:=by rw [hx0];exact sx.neg
  have mx:aAs (enc x)=some (enc x0):=by rw [hx0];exact I1.can (sx.le kQ)
  rw [<- hx0]
  obtain ⟨x1,hx1⟩:∃ v,v=x0 / (g:Int):=⟨_,rfl⟩
  obtain ⟨x2,nx⟩:∃ v,aAh (enc x0++enc (g:Int))=some (enc x1++enc v++[b_ true]):=⟨_,by rw [hx1];exact aA1 sx0 sg' kQ g0⟩
  obtain ⟨x3,hx3⟩:∃ v,v=x / (g:Int):=⟨_,rfl⟩
  obtain ⟨x4,dx⟩:∃ v,aAh (enc x++enc (g:Int))=some (enc x3++enc v++[b_ true]):=⟨_,by rw [hx3];exact aA1 sx sg' kQ g0⟩
  rw [<- hx1,<- hx3]
  obtain ⟨y0,hy0⟩:∃ v,v=-y:=⟨_,rfl⟩
  have sy0:Sz 2500 y0:=by rw [hy0];exact sy.neg
  have my:aAs (enc y)=some (enc y0):=by rw [hy0];exact I1.can (sy.le kQ)
  rw [<- hy0]
  obtain ⟨y1,hy1⟩:∃ v,v=y0 / (g:Int):=⟨_,rfl⟩
  obtain ⟨y2,ny⟩:∃ v,aAh (enc y0++enc (g:Int))=some (enc y1++enc v++[b_ true]):=⟨_,by rw [hy1];exact aA1 sy0 sg' kQ g0⟩
  obtain ⟨y3,hy3⟩:∃ v,v=y / (g:Int):=⟨_,rfl⟩
  obtain ⟨y4,dy⟩:∃ v,aAh (enc y++enc (g:Int))=some (enc y3++enc v++[b_ true]):=⟨_,by rw [hy3];exact aA1 sy sg' kQ g0⟩
  rw [<- hy1,<- hy3]
  obtain ⟨z0,hz0⟩:∃ v,v=-z:=⟨_,rfl⟩
  have sz0:Sz 2500 z0:=by rw [hz0];exact sz.neg
  have mz:aAs (enc z)=some (enc z0):=by rw [hz0];exact I1.can (sz.le kQ)
  rw [<- hz0]
  obtain ⟨z1,hz1⟩:∃ v,v=z0 / (g:Int):=⟨_,rfl⟩
  obtain ⟨z2,nz⟩:∃ v,aAh (enc z0++enc (g:Int))=some (enc z1++enc v++[b_ true]):=⟨_,by rw [hz1];exact aA1 sz0 sg' kQ g0⟩
  obtain ⟨z3,hz3⟩:∃ v,v=z / (g:Int):=⟨_,rfl⟩
  obtain ⟨z4,dz⟩:∃ v,aAh (enc z++enc (g:Int))=some (enc z3++enc v++[b_ true]):=⟨_,by rw [hz3];exact aA1 sz sg' kQ g0⟩
  rw [<- hz1,<- hz3]
  obtain ⟨w0,hw0⟩:∃ v,v=-w:=⟨_,rfl⟩
  have sw0:Sz 2500 w0:=by rw [hw0];exact sw.neg
  have mw:aAs (enc w)=some (enc w0):=by rw [hw0];exact I1.can (sw.le kQ)
  rw [<- hw0]
  obtain ⟨w1,hw1⟩:∃ v,v=w0 / (g:Int):=⟨_,rfl⟩
  obtain ⟨w2,nw⟩:∃ v,aAh (enc w0++enc (g:Int))=some (enc w1++enc v++[b_ true]):=⟨_,by rw [hw1];exact aA1 sw0 sg' kQ g0⟩
  obtain ⟨w3,hw3⟩:∃ v,v=w / (g:Int):=⟨_,rfl⟩
  obtain ⟨w4,dw⟩:∃ v,aAh (enc w++enc (g:Int))=some (enc w3++enc v++[b_ true]):=⟨_,by rw [hw3];exact aA1 sw sg' kQ g0⟩
  rw [<- hw1,<- hw3]
  have hs:=aHI w
  generalize sgn w=S at *
  clear hr hg hg'
  refine gC aAx i4 (gP (aAi _ _ .i64 S 0) ?_)
  refine gC aA6 c1 (gC aA6 c2 (gC aA6 c3 (gC aA6 c4 (gC aAj c5 (aAw (b:=decide (S < 0)) kK (λ ht=>?_) (λ ht=>?_))))))
  ·rw [if_pos (hs.1 (of_decide_eq_true ht))]
   exact gC aAs mx (gC aAh nx (gC aAs my (gC aAh ny (gC aAs mz (gC aAh nz (gC aAs mw (gC aAh nw (aAc kK))))))))
  ·rw [if_neg (λ hh=>of_decide_eq_false ht (hs.2 hh))]
   exact gC aAh dx (gC aAh dy (gC aAh dz (gC aAh dw (aAc kK))))
def tbD0:Tb:=(20,aBd)::aSq
theorem okD0:TbOk Tryz.prog X.G tbD0:=.cons kK aKo aUS
set_option maxHeartbeats 2000000 in
theorem aTz:Sx.Good Tryz.prog X.G 26 ⟨[.agg 9],.v1 (.agg 8)⟩ aA2:=aAe okD0 (λ _ _=>X.G_below) 400 kK (by kernel_rfl:_=some aGM) λ ds rs h=>by
 obtain ⟨p,hp,rfl⟩:=Fo.inv (aDs 600) h
 obtain ⟨n,a,b,m,c,d,l,e,f,rfl,ha,hb,hc,hd,he,hf,rfl⟩:=hp.inv
 obtain ⟨x,hx⟩:∃ x,x=qv n a b:=⟨_,rfl⟩
 obtain ⟨y,hy⟩:∃ x,x=qv m c d:=⟨_,rfl⟩
 obtain ⟨z,hz⟩:∃ x,x=qv l e f:=⟨_,rfl⟩
 have sx:Sq 600 x:=by rw [hx];exact .qv kQ ha hb
 have sy:Sq 600 y:=by rw [hy];exact .qv kQ hc hd
 have sz:Sq 600 z:=by rw [hz];exact .qv kQ he hf
 rw [<- hx,<- hy,<- hz]
 have k1:aAr [b_ n,s_ a,s_ b]=some (enc x.num++enc x.den):=by rw [hx];exact R1.eq kJ kJ
 have k2:aAr [b_ m,s_ c,s_ d]=some (enc y.num++enc y.den):=by rw [hy];exact R1.eq kJ kJ
 have k3:aAr [b_ l,s_ e,s_ f]=some (enc z.num++enc z.den):=by rw [hz];exact R1.eq kJ kJ
 clear hx hy hz
 have hv:aGS x y z=(x,y,z):=aMW x y z
 obtain ⟨⟨t1,t2⟩,⟨t3,t4⟩,⟨t5,t6⟩⟩:=And.intro sx (And.intro sy sz)
 unfold aGS at hv
 rw [<- hv]
 clear hv
 generalize x.num=xn at *
 generalize (x.den:Int)=xd at *
 generalize y.num=yn at *
 generalize (y.den:Int)=yd at *
 generalize z.num=zn at *
 generalize (z.den:Int)=zd at *
 obtain ⟨ab,q1⟩:∃ v,v=xd*yd:=⟨_,rfl⟩
 have w1:Sz 1200 ab:=by rw [q1];exact (t2.mul t4).le kQ
 have m1:aAd (enc xd++enc yd)=some (enc ab):=by rw [q1];exact I2.can (t2.le kQ) (t4.le kQ)
 obtain ⟨bc,q2⟩:∃ v,v=yd*zd:=⟨_,rfl⟩
 have w2:Sz 1200 bc:=by rw [q2];exact (t4.mul t6).le kQ
 have m2:aAd (enc yd++enc zd)=some (enc bc):=by rw [q2];exact I2.can (t4.le kQ) (t6.le kQ)
 obtain ⟨x1,q3⟩:∃ v,v=xn*bc:=⟨_,rfl⟩
 have w3:Sz 1800 x1:=by rw [q3];exact (t1.mul w2).le kQ
 have m3:aAd (enc xn++enc bc)=some (enc x1):=by rw [q3];exact I2.can (t1.le kQ) (w2.le kQ)
 obtain ⟨ac,q4⟩:∃ v,v=xd*zd:=⟨_,rfl⟩
 have w4:Sz 1200 ac:=by rw [q4];exact (t2.mul t6).le kQ
 have m4:aAd (enc xd++enc zd)=some (enc ac):=by rw [q4];exact I2.can (t2.le kQ) (t6.le kQ)
 obtain ⟨y1,q5⟩:∃ v,v=yn*ac:=⟨_,rfl⟩
 have w5:Sz 1800 y1:=by rw [q5];exact (t3.mul w4).le kQ
 have m5:aAd (enc yn++enc ac)=some (enc y1):=by rw [q5];exact I2.can (t3.le kQ) (w4.le kQ)
 obtain ⟨z1,q6⟩:∃ v,v=zn*ab:=⟨_,rfl⟩
 have w6:Sz 1800 z1:=by rw [q6];exact (t5.mul w1).le kQ
 have m6:aAd (enc zn++enc ab)=some (enc z1):=by rw [q6];exact I2.can (t5.le kQ) (w1.le kQ)
 obtain ⟨v1,q7⟩:∃ v,v=ab*zd:=⟨_,rfl⟩
 have w7:Sz 1800 v1:=by rw [q7];exact (w1.mul t6).le kQ
 have m7:aAd (enc ab++enc zd)=some (enc v1):=by rw [q7];exact I2.can (w1.le kQ) (t6.le kQ)
 rw [<- q1,<- q2,<- q4,<- q3,<- q5,<- q6,<- q7]
 clear q1 q2 q3 q4 q5 q6 q7
 have fin:aBd (enc4 (x1,y1,z1,v1))=some (aAB (pv4 (x1,y1,z1,v1))):=Fo.eq (aAv 2500) (PI.can ⟨w3.le kQ,w5.le kQ,w6.le kQ,w7.le kQ⟩)
 obtain ⟨P,hP⟩:∃ P,P=pt (pv4 (x1,y1,z1,v1)):=⟨_,rfl⟩
 have hP':aAB (pv4 (x1,y1,z1,v1))=enc4 P:=by rw [hP]
 rw [hP'] at fin ⊢
 clear hP hP'
 refine ⟨0,?_⟩
 refine gC aAr k1 (gC aAr k2 (gC aAr k3 ?_))
 refine gC aAd m1 (gC aAd m2 (gC aAd m3 (gC aAd m4 (gC aAd m5 (gC aAd m6 (gC aAd m7 (gC aBd fin (aAc kK))))))))
def tbDc:Tb:=(20,aBd)::aRm
theorem okDc:TbOk Tryz.prog X.G tbDc:=.cons kK aKo aRn
set_option maxHeartbeats 2000000 in
theorem aPY:Sx.Good Tryz.prog X.G 22 ⟨[.agg 8],.v1 (.agg 9)⟩ aA3:=aAe okDc (λ _ _=>X.G_below) 400 kK (by kernel_rfl:_=some aFP) λ ds rs h=>by
 obtain ⟨p,hp,rfl⟩:=Fo.inv (aAv 1500) h
 obtain ⟨n1,a1,n2,a2,n3,a3,n4,a4,rfl,h1,h2,h3,h4,rfl⟩:=hp.inv
 obtain ⟨v,hv⟩:∃ v,v=pv4 (Z n1 a1,Z n2 a2,Z n3 a3,Z n4 a4):=⟨_,rfl⟩
 have k1:aBd [b_ n1,s_ a1,b_ n2,s_ a2,b_ n3,s_ a3,b_ n4,s_ a4]=some (aAB v):=by
  rw [hv]
  exact Fo.eq (aAv 2500) (PI.mk (.raw n1 kJ) (.raw n2 kJ) (.raw n3 kJ) (.raw n4 kJ))
 have sv:Sv 1500 v:=by rw [hv];exact Sv.pv4 kQ ⟨.of h1,.of h2,.of h3,.of h4⟩
 rw [<- hv]
 clear hv
 obtain ⟨z1,z2,z3,z4⟩:=S4.pt sv
 have hw:=aD5 v
 have hco:=aE3 v
 have hp:aAB v=enc4 (pt v):=rfl
 rw [hp] at k1
 generalize pt v=p at *
 obtain ⟨x,y,z,w⟩:=p
 dsimp only at z1 z2 z3 z4 hw
 have r1:aAm (enc x++enc w)=some (encR (Rat.divInt x w)++[b_ (!decide (w=0))]):=I2.can (z1.le kQ) (z4.le kQ)
 have r2:aAm (enc y++enc w)=some (encR (Rat.divInt y w)++[b_ (!decide (w=0))]):=I2.can (z2.le kQ) (z4.le kQ)
 have r3:aAm (enc z++enc w)=some (encR (Rat.divInt z w)++[b_ (!decide (w=0))]):=I2.can (z3.le kQ) (z4.le kQ)
 have hco:(Rat.divInt x w,Rat.divInt y w,Rat.divInt z w)=v:=hco
 rw [<- hco]
 clear hco
 generalize Rat.divInt x w=a at *
 generalize Rat.divInt y w=b at *
 generalize Rat.divInt z w=c at *
 exact ⟨0,gC aBd k1 (gC aAm r1 (gC aAm r2 (gC aAm r3 (aAc kK))))⟩
end Go.Proofs.YtjefbecmeobegaaGreatDoor.Sp
