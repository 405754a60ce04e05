import Derived.Test.YtjefbecmeobegaaGreatDoorSpB
import Derived.Test.YtjefbecmeobegaaGreatDoorSpU
import Derived.Test.YtjefbecmeobegaaGreatDoorTr1
namespace Go.Proofs.YtjefbecmeobegaaGreatDoor.Sp
open Go Go.RowKit Sx NatA NatB NatC NatD NatI NatJ IntZ RatZ PtZ
def aFW (x y z:Rat):V3:=pv4 (x.num*((y.den:Int)*z.den),y.num*((x.den:Int)*z.den),z.num*((x.den:Int)*y.den),(x.den:Int)*y.den*z.den)
theorem aMl (x y z:Rat):aFW x y z=(x,y,z):=by
 have hD:(x.den:Int)*y.den*z.den≠0:=Int.mul_ne_zero (Int.mul_ne_zero (aB1 x) (aB1 y)) (aB1 z)
 unfold aFW pv4 pv w1
 dsimp only
 rw [if_neg hD]
 exact aNW (x,y,z)
set_option maxHeartbeats 2000000 in
theorem aRv:Sx.Good Tryz.prog X.G 20 ⟨[.agg 8],.v1 (.agg 8)⟩ aAS:=aAd aRi (fun _ _=>X.G_below) 400 (by kernel_rfl) (by kernel_rfl:_=some aG3) fun ds rs h=>by
 obtain ⟨p,hp,rfl⟩:=Fo.inv (aA5 2500) h
 obtain ⟨n1,a1,n2,a2,n3,a3,n4,a4,rfl,h1,h2,h3,h4,rfl⟩:=hp.inv
 obtain ⟨x,ex⟩:∃ x,x=Z n1 a1:=⟨_,rfl⟩
 obtain ⟨y,ey⟩:∃ x,x=Z n2 a2:=⟨_,rfl⟩
 obtain ⟨z,ez⟩:∃ x,x=Z n3 a3:=⟨_,rfl⟩
 obtain ⟨w,ew⟩:∃ x,x=Z n4 a4:=⟨_,rfl⟩
 have sx:Sz 2500 x:=by rw [ex];exact .of h1
 have sy:Sz 2500 y:=by rw [ey];exact .of h2
 have sz:Sz 2500 z:=by rw [ez];exact .of h3
 have sw:Sz 2500 w:=by rw [ew];exact .of h4
 show ∃ kk,aG3.run _ _ kk _ _=some (enc4 (pt (pv (Z n1 a1) (Z n2 a2) (Z n3 a3) (Z n4 a4))))
 have k1:aAh [b_ n1,s_ a1]=some (enc x):=by rw [ex];exact I1.eq (by omega)
 have k2:aAh [b_ n2,s_ a2]=some (enc y):=by rw [ey];exact I1.eq (by omega)
 have k3:aAh [b_ n3,s_ a3]=some (enc z):=by rw [ez];exact I1.eq (by omega)
 have k4:aAh [b_ n4,s_ a4]=some (enc w):=by rw [ew];exact I1.eq (by omega)
 have k5:aAO (enc w)=some [i_ (sgn w)]:=I1.can (sw.le (by decide))
 have hpt:pt (pv x y z w)=nrm (x,y,z,w1 w):=(aLR (aRb w)).symm
 rw [← ex,← ey,← ez,← ew,hpt]
 clear hpt ex ey ez ew
 refine ⟨0,?_⟩
 refine gC aAh k1 (gC aAh k2 (gC aAh k3 (gC aAh k4 (gC aAO k5 (gP (aBc _ _ .i64 (sgn w) 0) ?_)))))
 refine aA0 (b:=sgn w == 0) (by kernel_rfl) (fun hz=>?_) (fun hz=>?_)
 ·have hw:w=0:=by rw [aEQ] at hz;exact of_decide_eq_true hz
  obtain ⟨o,ho⟩:∃ o,o=(1:Int):=⟨_,rfl⟩
  have so:Sz 2500 o:=by rw [ho];exact Sz.one.le (by decide)
  have k6:F_ifrom [i_ 1]=some (enc o):=by rw [ho];exact F_ifrom.eq (by decide) (by decide)
  have hw1:w1 w=o:=by rw [ho];exact if_pos hw
  rw [hw1]
  refine gC F_ifrom k6 ?_
  have hw0:o≠0:=by rw [ho];decide
  have lx:=aAP sx
  have ly:=aAP sy
  have lz:=aAP sz
  have lw:=aAP so
  have l1:=aC7 lx ly
  have l2:=aC7 l1 lz
  have l3:=aC7 l2 lw
  have c1:=aFl lx (by decide)
  have c2:=aB2 lx ly (by decide)
  have c3:=aB2 l1 lz (by decide)
  have c4:=aB2 l2 lw (by decide)
  have hgp:0 < g4 x y z o:=aFU hw0
  obtain ⟨e1,e2,e3,e4⟩:=aH2 x y z o
  have hr:=aI0 x y z o
  obtain ⟨g,hg⟩:∃ g,g=g4 x y z o:=⟨_,rfl⟩
  have hg':Nat.gcd (Nat.gcd (Nat.gcd x.natAbs y.natAbs) z.natAbs) o.natAbs=g:=hg.symm
  rw [hg'] at c4 l3
  rw [← hg] at e1 e2 e3 e4 hr
  have sg':Sz 2500 (g:Int):=aAU l3
  have g0:(g:Int)≠0:=by omega
  have c5:aAh [b_ false,s_ (N g)]=some (enc (g:Int)):=aLV (Nat.le_trans ((aA9 _ _).2 l3) (by decide))
  rw [← Int.neg_ediv_of_dvd e1,← Int.neg_ediv_of_dvd e2,← Int.neg_ediv_of_dvd e3,← Int.neg_ediv_of_dvd e4] at hr
  have i4:aAO (enc o)=some [i_ (sgn o)]:=I1.can (so.le (by decide))
  rw [hr]
  obtain ⟨x0,hx0⟩:∃ v,v=-x:=⟨_,rfl⟩
  have sx0:Sz 2500 x0:=by rw [hx0];exact sx.neg
  have mx:aAz (enc x)=some (enc x0):=by rw [hx0];exact I1.can (sx.le (by decide))
  rw [← hx0]
  obtain ⟨x1,hx1⟩:∃ v,v=x0 / (g:Int):=⟨_,rfl⟩
  obtain ⟨x2,nx⟩:∃ v,aAj (enc x0++enc (g:Int))=some (enc x1++enc v++[b_ true]):=⟨_,by rw [hx1];exact aAy sx0 sg' (by decide) g0⟩
  obtain ⟨x3,hx3⟩:∃ v,v=x / (g:Int):=⟨_,rfl⟩
  obtain ⟨x4,dx⟩:∃ v,aAj (enc x++enc (g:Int))=some (enc x3++enc v++[b_ true]):=⟨_,by rw [hx3];exact aAy sx sg' (by decide) g0⟩
  rw [← hx1,← hx3]
  obtain ⟨y0,hy0⟩:∃ v,v=-y:=⟨_,rfl⟩
  have sy0:Sz 2500 y0:=by rw [hy0];exact sy.neg
  have my:aAz (enc y)=some (enc y0):=by rw [hy0];exact I1.can (sy.le (by decide))
  rw [← hy0]
  obtain ⟨y1,hy1⟩:∃ v,v=y0 / (g:Int):=⟨_,rfl⟩
  obtain ⟨y2,ny⟩:∃ v,aAj (enc y0++enc (g:Int))=some (enc y1++enc v++[b_ true]):=⟨_,by rw [hy1];exact aAy sy0 sg' (by decide) g0⟩
  obtain ⟨y3,hy3⟩:∃ v,v=y / (g:Int):=⟨_,rfl⟩
  obtain ⟨y4,dy⟩:∃ v,aAj (enc y++enc (g:Int))=some (enc y3++enc v++[b_ true]):=⟨_,by rw [hy3];exact aAy sy sg' (by decide) g0⟩
  rw [← hy1,← hy3]
  obtain ⟨z0,hz0⟩:∃ v,v=-z:=⟨_,rfl⟩
  have sz0:Sz 2500 z0:=by rw [hz0];exact sz.neg
  have mz:aAz (enc z)=some (enc z0):=by rw [hz0];exact I1.can (sz.le (by decide))
  rw [← hz0]
  obtain ⟨z1,hz1⟩:∃ v,v=z0 / (g:Int):=⟨_,rfl⟩
  obtain ⟨z2,nz⟩:∃ v,aAj (enc z0++enc (g:Int))=some (enc z1++enc v++[b_ true]):=⟨_,by rw [hz1];exact aAy sz0 sg' (by decide) g0⟩
  obtain ⟨z3,hz3⟩:∃ v,v=z / (g:Int):=⟨_,rfl⟩
  obtain ⟨z4,dz⟩:∃ v,aAj (enc z++enc (g:Int))=some (enc z3++enc v++[b_ true]):=⟨_,by rw [hz3];exact aAy sz sg' (by decide) g0⟩
  rw [← hz1,← hz3]
  obtain ⟨w0,hw0⟩:∃ v,v=-o:=⟨_,rfl⟩
  have sw0:Sz 2500 w0:=by rw [hw0];exact so.neg
  have mw:aAz (enc o)=some (enc w0):=by rw [hw0];exact I1.can (so.le (by decide))
  rw [← hw0]
  obtain ⟨w1,hw1⟩:∃ v,v=w0 / (g:Int):=⟨_,rfl⟩
  obtain ⟨w2,nw⟩:∃ v,aAj (enc w0++enc (g:Int))=some (enc w1++enc v++[b_ true]):=⟨_,by rw [hw1];exact aAy sw0 sg' (by decide) g0⟩
  obtain ⟨w3,hw3⟩:∃ v,v=o / (g:Int):=⟨_,rfl⟩
  obtain ⟨w4,dw⟩:∃ v,aAj (enc o++enc (g:Int))=some (enc w3++enc v++[b_ true]):=⟨_,by rw [hw3];exact aAy so sg' (by decide) g0⟩
  rw [← hw1,← hw3]
  have hs:=aJd o
  generalize sgn o=S at *
  clear hr hg hg'
  refine gC aAO i4 (gP (aAg _ _ .i64 S 0) ?_)
  refine gC aBh c1 (gC aBh c2 (gC aBh c3 (gC aBh c4 (gC aAh c5 (aA0 (b:=decide (S < 0)) (by kernel_rfl) (fun ht=>?_) (fun ht=>?_))))))
  ·rw [if_pos (hs.1 (of_decide_eq_true ht))]
   exact gC aAz mx (gC aAj nx (gC aAz my (gC aAj ny (gC aAz mz (gC aAj nz (gC aAz mw (gC aAj nw (aAc (by kernel_rfl)))))))))
  ·rw [if_neg (fun hh=>of_decide_eq_false ht (hs.2 hh))]
   exact gC aAj dx (gC aAj dy (gC aAj dz (gC aAj dw (aAc (by kernel_rfl)))))
 ·have hw:w≠0:=fun hh=>by rw [hh] at hz;exact absurd hz (by decide)
  have hw1:w1 w=w:=if_neg hw
  rw [hw1]
  have hw0:w≠0:=hw
  have lx:=aAP sx
  have ly:=aAP sy
  have lz:=aAP sz
  have lw:=aAP sw
  have l1:=aC7 lx ly
  have l2:=aC7 l1 lz
  have l3:=aC7 l2 lw
  have c1:=aFl lx (by decide)
  have c2:=aB2 lx ly (by decide)
  have c3:=aB2 l1 lz (by decide)
  have c4:=aB2 l2 lw (by decide)
  have hgp:0 < g4 x y z w:=aFU hw0
  obtain ⟨e1,e2,e3,e4⟩:=aH2 x y z w
  have hr:=aI0 x y z w
  obtain ⟨g,hg⟩:∃ g,g=g4 x y z w:=⟨_,rfl⟩
  have hg':Nat.gcd (Nat.gcd (Nat.gcd x.natAbs y.natAbs) z.natAbs) w.natAbs=g:=hg.symm
  rw [hg'] at c4 l3
  rw [← hg] at e1 e2 e3 e4 hr
  have sg':Sz 2500 (g:Int):=aAU l3
  have g0:(g:Int)≠0:=by omega
  have c5:aAh [b_ false,s_ (N g)]=some (enc (g:Int)):=aLV (Nat.le_trans ((aA9 _ _).2 l3) (by decide))
  rw [← Int.neg_ediv_of_dvd e1,← Int.neg_ediv_of_dvd e2,← Int.neg_ediv_of_dvd e3,← Int.neg_ediv_of_dvd e4] at hr
  have i4:aAO (enc w)=some [i_ (sgn w)]:=I1.can (sw.le (by decide))
  rw [hr]
  obtain ⟨x0,hx0⟩:∃ v,v=-x:=⟨_,rfl⟩
  have sx0:Sz 2500 x0:=by rw [hx0];exact sx.neg
  have mx:aAz (enc x)=some (enc x0):=by rw [hx0];exact I1.can (sx.le (by decide))
  rw [← hx0]
  obtain ⟨x1,hx1⟩:∃ v,v=x0 / (g:Int):=⟨_,rfl⟩
  obtain ⟨x2,nx⟩:∃ v,aAj (enc x0++enc (g:Int))=some (enc x1++enc v++[b_ true]):=⟨_,by rw [hx1];exact aAy sx0 sg' (by decide) g0⟩
  obtain ⟨x3,hx3⟩:∃ v,v=x / (g:Int):=⟨_,rfl⟩
  obtain ⟨x4,dx⟩:∃ v,aAj (enc x++enc (g:Int))=some (enc x3++enc v++[b_ true]):=⟨_,by rw [hx3];exact aAy sx sg' (by decide) g0⟩
  rw [← hx1,← hx3]
  obtain ⟨y0,hy0⟩:∃ v,v=-y:=⟨_,rfl⟩
  have sy0:Sz 2500 y0:=by rw [hy0];exact sy.neg
  have my:aAz (enc y)=some (enc y0):=by rw [hy0];exact I1.can (sy.le (by decide))
  rw [← hy0]
  obtain ⟨y1,hy1⟩:∃ v,v=y0 / (g:Int):=⟨_,rfl⟩
  obtain ⟨y2,ny⟩:∃ v,aAj (enc y0++enc (g:Int))=some (enc y1++enc v++[b_ true]):=⟨_,by rw [hy1];exact aAy sy0 sg' (by decide) g0⟩
  obtain ⟨y3,hy3⟩:∃ v,v=y / (g:Int):=⟨_,rfl⟩
  obtain ⟨y4,dy⟩:∃ v,aAj (enc y++enc (g:Int))=some (enc y3++enc v++[b_ true]):=⟨_,by rw [hy3];exact aAy sy sg' (by decide) g0⟩
  rw [← hy1,← hy3]
  obtain ⟨z0,hz0⟩:∃ v,v=-z:=⟨_,rfl⟩
  have sz0:Sz 2500 z0:=by rw [hz0];exact sz.neg
  have mz:aAz (enc z)=some (enc z0):=by rw [hz0];exact I1.can (sz.le (by decide))
  rw [← hz0]
  obtain ⟨z1,hz1⟩:∃ v,v=z0 / (g:Int):=⟨_,rfl⟩
  obtain ⟨z2,nz⟩:∃ v,aAj (enc z0++enc (g:Int))=some (enc z1++enc v++[b_ true]):=⟨_,by rw [hz1];exact aAy sz0 sg' (by decide) g0⟩
  obtain ⟨z3,hz3⟩:∃ v,v=z / (g:Int):=⟨_,rfl⟩
  obtain ⟨z4,dz⟩:∃ v,aAj (enc z++enc (g:Int))=some (enc z3++enc v++[b_ true]):=⟨_,by rw [hz3];exact aAy sz sg' (by decide) g0⟩
  rw [← hz1,← hz3]
  obtain ⟨w0,hw0⟩:∃ v,v=-w:=⟨_,rfl⟩
  have sw0:Sz 2500 w0:=by rw [hw0];exact sw.neg
  have mw:aAz (enc w)=some (enc w0):=by rw [hw0];exact I1.can (sw.le (by decide))
  rw [← hw0]
  obtain ⟨w1,hw1⟩:∃ v,v=w0 / (g:Int):=⟨_,rfl⟩
  obtain ⟨w2,nw⟩:∃ v,aAj (enc w0++enc (g:Int))=some (enc w1++enc v++[b_ true]):=⟨_,by rw [hw1];exact aAy sw0 sg' (by decide) g0⟩
  obtain ⟨w3,hw3⟩:∃ v,v=w / (g:Int):=⟨_,rfl⟩
  obtain ⟨w4,dw⟩:∃ v,aAj (enc w++enc (g:Int))=some (enc w3++enc v++[b_ true]):=⟨_,by rw [hw3];exact aAy sw sg' (by decide) g0⟩
  rw [← hw1,← hw3]
  have hs:=aJd w
  generalize sgn w=S at *
  clear hr hg hg'
  refine gC aAO i4 (gP (aAg _ _ .i64 S 0) ?_)
  refine gC aBh c1 (gC aBh c2 (gC aBh c3 (gC aBh c4 (gC aAh c5 (aA0 (b:=decide (S < 0)) (by kernel_rfl) (fun ht=>?_) (fun ht=>?_))))))
  ·rw [if_pos (hs.1 (of_decide_eq_true ht))]
   exact gC aAz mx (gC aAj nx (gC aAz my (gC aAj ny (gC aAz mz (gC aAj nz (gC aAz mw (gC aAj nw (aAc (by kernel_rfl)))))))))
  ·rw [if_neg (fun hh=>of_decide_eq_false ht (hs.2 hh))]
   exact gC aAj dx (gC aAj dy (gC aAj dz (gC aAj dw (aAc (by kernel_rfl)))))
def tbD0:Tb:=(20,aAS)::aRh
theorem okD0:TbOk Tryz.prog X.G tbD0:=.cons (by kernel_rfl) aRv aRi
set_option maxHeartbeats 2000000 in
theorem aRw:Sx.Good Tryz.prog X.G 26 ⟨[.agg 9],.v1 (.agg 8)⟩ aAN:=aAd okD0 (fun _ _=>X.G_below) 400 (by kernel_rfl) (by kernel_rfl:_=some aG4) fun ds rs h=>by
 obtain ⟨p,hp,rfl⟩:=Fo.inv (aDT 600) h
 obtain ⟨n,a,b,m,c,d,l,e,f,rfl,ha,hb,hc,hd,he,hf,rfl⟩:=hp.inv
 obtain ⟨x,hx⟩:∃ x,x=qv n a b:=⟨_,rfl⟩
 obtain ⟨y,hy⟩:∃ x,x=qv m c d:=⟨_,rfl⟩
 obtain ⟨z,hz⟩:∃ x,x=qv l e f:=⟨_,rfl⟩
 have sx:Sq 600 x:=by rw [hx];exact .qv (by decide) ha hb
 have sy:Sq 600 y:=by rw [hy];exact .qv (by decide) hc hd
 have sz:Sq 600 z:=by rw [hz];exact .qv (by decide) he hf
 rw [← hx,← hy,← hz]
 have k1:aAR [b_ n,s_ a,s_ b]=some (enc x.num++enc x.den):=by rw [hx];exact R1.eq (by omega) (by omega)
 have k2:aAR [b_ m,s_ c,s_ d]=some (enc y.num++enc y.den):=by rw [hy];exact R1.eq (by omega) (by omega)
 have k3:aAR [b_ l,s_ e,s_ f]=some (enc z.num++enc z.den):=by rw [hz];exact R1.eq (by omega) (by omega)
 clear hx hy hz
 have hv:aFW x y z=(x,y,z):=aMl x y z
 obtain ⟨⟨t1,t2⟩,⟨t3,t4⟩,⟨t5,t6⟩⟩:=And.intro sx (And.intro sy sz)
 unfold aFW at hv
 rw [← hv]
 clear hv
 generalize x.num=xn at *
 generalize (x.den:Int)=xd at *
 generalize y.num=yn at *
 generalize (y.den:Int)=yd at *
 generalize z.num=zn at *
 generalize (z.den:Int)=zd at *
 obtain ⟨ab,q1⟩:∃ v,v=xd*yd:=⟨_,rfl⟩
 have w1:Sz 1200 ab:=by rw [q1];exact (t2.mul t4).le (by decide)
 have m1:aAn (enc xd++enc yd)=some (enc ab):=by rw [q1];exact I2.can (t2.le (by decide)) (t4.le (by decide))
 obtain ⟨bc,q2⟩:∃ v,v=yd*zd:=⟨_,rfl⟩
 have w2:Sz 1200 bc:=by rw [q2];exact (t4.mul t6).le (by decide)
 have m2:aAn (enc yd++enc zd)=some (enc bc):=by rw [q2];exact I2.can (t4.le (by decide)) (t6.le (by decide))
 obtain ⟨x1,q3⟩:∃ v,v=xn*bc:=⟨_,rfl⟩
 have w3:Sz 1800 x1:=by rw [q3];exact (t1.mul w2).le (by decide)
 have m3:aAn (enc xn++enc bc)=some (enc x1):=by rw [q3];exact I2.can (t1.le (by decide)) (w2.le (by decide))
 obtain ⟨ac,q4⟩:∃ v,v=xd*zd:=⟨_,rfl⟩
 have w4:Sz 1200 ac:=by rw [q4];exact (t2.mul t6).le (by decide)
 have m4:aAn (enc xd++enc zd)=some (enc ac):=by rw [q4];exact I2.can (t2.le (by decide)) (t6.le (by decide))
 obtain ⟨y1,q5⟩:∃ v,v=yn*ac:=⟨_,rfl⟩
 have w5:Sz 1800 y1:=by rw [q5];exact (t3.mul w4).le (by decide)
 have m5:aAn (enc yn++enc ac)=some (enc y1):=by rw [q5];exact I2.can (t3.le (by decide)) (w4.le (by decide))
 obtain ⟨z1,q6⟩:∃ v,v=zn*ab:=⟨_,rfl⟩
 have w6:Sz 1800 z1:=by rw [q6];exact (t5.mul w1).le (by decide)
 have m6:aAn (enc zn++enc ab)=some (enc z1):=by rw [q6];exact I2.can (t5.le (by decide)) (w1.le (by decide))
 obtain ⟨v1,q7⟩:∃ v,v=ab*zd:=⟨_,rfl⟩
 have w7:Sz 1800 v1:=by rw [q7];exact (w1.mul t6).le (by decide)
 have m7:aAn (enc ab++enc zd)=some (enc v1):=by rw [q7];exact I2.can (w1.le (by decide)) (t6.le (by decide))
 rw [← q1,← q2,← q4,← q3,← q5,← q6,← q7]
 clear q1 q2 q3 q4 q5 q6 q7
 have fin:aAS (enc4 (x1,y1,z1,v1))=some (aAB (pv4 (x1,y1,z1,v1))):=Fo.eq (aA5 2500) (PI.can ⟨w3.le (by decide),w5.le (by decide),w6.le (by decide),w7.le (by decide)⟩)
 obtain ⟨P,hP⟩:∃ P,P=pt (pv4 (x1,y1,z1,v1)):=⟨_,rfl⟩
 have hP':aAB (pv4 (x1,y1,z1,v1))=enc4 P:=by rw [hP]
 rw [hP'] at fin ⊢
 clear hP hP'
 refine ⟨0,?_⟩
 refine gC aAR k1 (gC aAR k2 (gC aAR k3 ?_))
 refine gC aAn m1 (gC aAn m2 (gC aAn m3 (gC aAn m4 (gC aAn m5 (gC aAn m6 (gC aAn m7 (gC aAS fin (aAc (by kernel_rfl)))))))))
def tbD1:Tb:=(26,aAN)::tbD0
theorem okD1:TbOk Tryz.prog X.G tbD1:=.cons (by kernel_rfl) aRw okD0
set_option maxHeartbeats 2000000 in
theorem aOq:Sx.Good Tryz.prog X.G 22 ⟨[.agg 8],.v1 (.agg 9)⟩ aAm:=aAd okD1 (fun _ _=>X.G_below) 400 (by kernel_rfl) (by kernel_rfl:_=some aF7) fun ds rs h=>by
 obtain ⟨p,hp,rfl⟩:=Fo.inv (aA5 1500) h
 obtain ⟨n1,a1,n2,a2,n3,a3,n4,a4,rfl,h1,h2,h3,h4,rfl⟩:=hp.inv
 obtain ⟨v,hv⟩:∃ v,v=pv4 (Z n1 a1,Z n2 a2,Z n3 a3,Z n4 a4):=⟨_,rfl⟩
 have k1:aAS [b_ n1,s_ a1,b_ n2,s_ a2,b_ n3,s_ a3,b_ n4,s_ a4]=some (aAB v):=by
  rw [hv]
  exact Fo.eq (aA5 2500) (PI.mk (.raw n1 (by omega)) (.raw n2 (by omega)) (.raw n3 (by omega)) (.raw n4 (by omega)))
 have sv:Sv 1500 v:=by rw [hv];exact Sv.pv4 (by decide) ⟨.of h1,.of h2,.of h3,.of h4⟩
 rw [← hv]
 clear hv
 obtain ⟨z1,z2,z3,z4⟩:=S4.pt sv
 have hw:=aDP v
 have hco:=aDQ v
 have hp:aAB v=enc4 (pt v):=rfl
 rw [hp] at k1
 generalize pt v=p at *
 obtain ⟨x,y,z,w⟩:=p
 dsimp only at z1 z2 z3 z4 hw
 have r1:aAZ (enc x++enc w)=some (encR (Rat.divInt x w)++[b_ (!decide (w=0))]):=I2.can (z1.le (by decide)) (z4.le (by decide))
 have r2:aAZ (enc y++enc w)=some (encR (Rat.divInt y w)++[b_ (!decide (w=0))]):=I2.can (z2.le (by decide)) (z4.le (by decide))
 have r3:aAZ (enc z++enc w)=some (encR (Rat.divInt z w)++[b_ (!decide (w=0))]):=I2.can (z3.le (by decide)) (z4.le (by decide))
 have hco:(Rat.divInt x w,Rat.divInt y w,Rat.divInt z w)=v:=hco
 rw [← hco]
 clear hco
 generalize Rat.divInt x w=a at *
 generalize Rat.divInt y w=b at *
 generalize Rat.divInt z w=c at *
 exact ⟨0,gC aAS k1 (gC aAZ r1 (gC aAZ r2 (gC aAZ r3 (aAc (by kernel_rfl)))))⟩
def tbD2:Tb:=(22,aAm)::tbD1
theorem okD2:TbOk Tryz.prog X.G tbD2:=.cons (by kernel_rfl) aOq okD1
set_option maxHeartbeats 2000000 in
theorem aS0:Sx.Good Tryz.prog X.G 28 ⟨[.agg 8,.agg 8],.v1 .one⟩ aEp:=aAd okD2 (fun _ _=>X.G_below) 400 (by kernel_rfl) (by kernel_rfl:_=some aGU) fun ds rs h=>by
 obtain ⟨⟨p,q⟩,⟨e1,e2,hp,hq,rfl⟩,rfl⟩:=Fo.inv (aHY 200) h
 obtain ⟨n1,a1,n2,a2,n3,a3,n4,a4,rfl,h1,h2,h3,h4,rfl⟩:=PI.inv hp
 obtain ⟨m1,b1,m2,b2,m3,b3,m4,b4,rfl,g1,g2,g3,g4,rfl⟩:=PI.inv hq
 obtain ⟨u,hu⟩:∃ v,v=pv4 (Z n1 a1,Z n2 a2,Z n3 a3,Z n4 a4):=⟨_,rfl⟩
 have su:Sv 200 u:=by rw [hu];exact Sv.pv4 (by decide) ⟨.of h1,.of h2,.of h3,.of h4⟩
 obtain ⟨v,hv⟩:∃ v,v=pv4 (Z m1 b1,Z m2 b2,Z m3 b3,Z m4 b4):=⟨_,rfl⟩
 have sv:Sv 200 v:=by rw [hv];exact Sv.pv4 (by decide) ⟨.of g1,.of g2,.of g3,.of g4⟩
 have k1:aAm [b_ n1,s_ a1,b_ n2,s_ a2,b_ n3,s_ a3,b_ n4,s_ a4]=some (aCi u):=by rw [hu];exact Fo.eq (aA5 1500) (PI.mk (.raw n1 (by omega)) (.raw n2 (by omega)) (.raw n3 (by omega)) (.raw n4 (by omega)))
 have k2:aAm [b_ m1,s_ b1,b_ m2,s_ b2,b_ m3,s_ b3,b_ m4,s_ b4]=some (aCi v):=by rw [hv];exact Fo.eq (aA5 1500) (PI.mk (.raw m1 (by omega)) (.raw m2 (by omega)) (.raw m3 (by omega)) (.raw m4 (by omega)))
 show ∃ kk,aGU.run _ _ kk _ _=some [i_ (lex (pv4 (Z n1 a1,Z n2 a2,Z n3 a3,Z n4 a4)) (pv4 (Z m1 b1,Z m2 b2,Z m3 b3,Z m4 b4)))]
 rw [← hu,← hv,aMz]
 clear hu hv
 obtain ⟨x,y,z⟩:=u
 obtain ⟨x',y',z'⟩:=v
 have k1:aAm [b_ n1,s_ a1,b_ n2,s_ a2,b_ n3,s_ a3,b_ n4,s_ a4]=some (encR x++(encR y++encR z)):=k1
 have k2:aAm [b_ m1,s_ b1,b_ m2,s_ b2,b_ m3,s_ b3,b_ m4,s_ b4]=some (encR x'++(encR y'++encR z')):=k2
 have c1:aDp (encR x++encR x')=some [i_ (sgn (x - x').num)]:=R2.can (su.1.le (by decide)) (sv.1.le (by decide))
 have c2:aDp (encR y++encR y')=some [i_ (sgn (y - y').num)]:=R2.can (su.2.1.le (by decide)) (sv.2.1.le (by decide))
 have c3:aDp (encR z++encR z')=some [i_ (sgn (z - z').num)]:=R2.can (su.2.2.le (by decide)) (sv.2.2.le (by decide))
 dsimp only
 generalize sgn (x - x').num=r at *
 generalize sgn (y - y').num=s at *
 generalize sgn (z - z').num=t at *
 refine ⟨0,?_⟩
 refine gC aAm k1 (gC aAm k2 (gC aDp c1 (gP (aD2 _ _ .i64 r 0) (aA0 (b:=r != 0) (by kernel_rfl) (fun hz=>?_) (fun hz=>?_)))))
 ·rw [if_pos (bne_iff_ne.1 hz)]
  exact aAc (by kernel_rfl)
 ·have hz:r=0:=by simpa using hz
  rw [if_neg (fun hh=>hh hz)]
  refine gC aDp c2 (gP (aD2 _ _ .i64 s 0) (aA0 (b:=s != 0) (by kernel_rfl) (fun hy=>?_) (fun hy=>?_)))
  ·rw [if_pos (bne_iff_ne.1 hy)]
   exact aAc (by kernel_rfl)
  ·have hy:s=0:=by simpa using hy
   rw [if_neg (fun hh=>hh hy)]
   refine gC aDp c3 (gP (aD2 _ _ .i64 t 0) (aA0 (b:=t != 0) (by kernel_rfl) (fun hx=>?_) (fun hx=>?_)))
   ·exact aAc (by kernel_rfl)
   ·have hx:t=0:=by simpa using hx
    rw [hx]
    exact aAc (by kernel_rfl)
def tbD3:Tb:=(28,aEp)::tbD2
theorem okD3:TbOk Tryz.prog X.G tbD3:=.cons (by kernel_rfl) aS0 okD2
set_option maxHeartbeats 2000000 in
theorem aS1:Sx.Good Tryz.prog X.G 30 ⟨[.agg 8,.agg 9],.v1 (.agg 8)⟩ aCQ:=aAd okD3 (fun _ _=>X.G_below) 400 (by kernel_rfl) (by kernel_rfl:_=some aGV) fun ds rs h=>by
 obtain ⟨⟨p,q⟩,⟨e1,e2,hp,hq,rfl⟩,rfl⟩:=Fo.inv (aFX 200) h
 obtain ⟨n1,a1,n2,a2,n3,a3,n4,a4,rfl,h1,h2,h3,h4,rfl⟩:=PI.inv hp
 obtain ⟨n,a,b,m,c,d,l,e,f,rfl,ha,hb,hc,hd,he,hf,rfl⟩:=VI.inv hq
 obtain ⟨u,hu⟩:∃ v,v=pv4 (Z n1 a1,Z n2 a2,Z n3 a3,Z n4 a4):=⟨_,rfl⟩
 have su:Sv 200 u:=by rw [hu];exact Sv.pv4 (by decide) ⟨.of h1,.of h2,.of h3,.of h4⟩
 obtain ⟨x,hx⟩:∃ x,x=qv n a b:=⟨_,rfl⟩
 obtain ⟨y,hy⟩:∃ x,x=qv m c d:=⟨_,rfl⟩
 obtain ⟨z,hz⟩:∃ x,x=qv l e f:=⟨_,rfl⟩
 have sx:Sq 200 x:=by rw [hx];exact .qv (by decide) ha hb
 have sy:Sq 200 y:=by rw [hy];exact .qv (by decide) hc hd
 have sz:Sq 200 z:=by rw [hz];exact .qv (by decide) he hf
 have k1:aAm [b_ n1,s_ a1,b_ n2,s_ a2,b_ n3,s_ a3,b_ n4,s_ a4]=some (aCi u):=by rw [hu];exact Fo.eq (aA5 1500) (PI.mk (.raw n1 (by omega)) (.raw n2 (by omega)) (.raw n3 (by omega)) (.raw n4 (by omega)))
 obtain ⟨r,s,t⟩:=u
 have k2:aAW (encR r++[b_ n,s_ a,s_ b])=some (encR (r+x)):=by rw [hx];exact R2.right (by omega) (by omega) (su.1.le (by decide))
 have k3:aAW (encR s++[b_ m,s_ c,s_ d])=some (encR (s+y)):=by rw [hy];exact R2.right (by omega) (by omega) (su.2.1.le (by decide))
 have k4:aAW (encR t++[b_ l,s_ e,s_ f])=some (encR (t+z)):=by rw [hz];exact R2.right (by omega) (by omega) (su.2.2.le (by decide))
 have q1:Sq 401 (r+x):=Sq.add su.1 sx
 have q2:Sq 401 (s+y):=Sq.add su.2.1 sy
 have q3:Sq 401 (t+z):=Sq.add su.2.2 sz
 show ∃ kk,aGV.run _ _ kk _ _=some (aAB (vadd (pv4 (Z n1 a1,Z n2 a2,Z n3 a3,Z n4 a4)) (qv n a b,qv m c d,qv l e f)))
 rw [← hu,← hx,← hy,← hz]
 have hvv:vadd (r,s,t) (x,y,z)=(r+x,s+y,t+z):=rfl
 rw [hvv]
 clear hu hx hy hz hvv
 have k1:aAm [b_ n1,s_ a1,b_ n2,s_ a2,b_ n3,s_ a3,b_ n4,s_ a4]=some (encR r++(encR s++encR t)):=k1
 generalize r+x=A at *
 generalize s+y=B at *
 generalize t+z=C at *
 have k5:aAN (aCi (A,B,C))=some (aAB (A,B,C)):=Fo.eq (aDT 600) (VI.can ⟨q1.le (by decide),q2.le (by decide),q3.le (by decide)⟩)
 have k5:aAN (encR A++(encR B++encR C))=some (enc4 (pt (A,B,C))):=k5
 show ∃ kk,aGV.run _ _ kk _ _=some (enc4 (pt (A,B,C)))
 generalize pt (A,B,C)=P at *
 exact ⟨0,gC aAm k1 (gC aAW k2 (gC aAW k3 (gC aAW k4 (gC aAN k5 (aAc (by kernel_rfl))))))⟩
def tbD4:Tb:=(30,aCQ)::tbD3
theorem okD4:TbOk Tryz.prog X.G tbD4:=.cons (by kernel_rfl) aS1 okD3
set_option maxHeartbeats 2000000 in
theorem aS2:Sx.Good Tryz.prog X.G 32 ⟨[.agg 8,.agg 8,.agg 3],.v1 (.agg 8)⟩ aCC:=aAd okD4 (fun _ _=>X.G_below) 400 (by kernel_rfl) (by kernel_rfl:_=some aGW) fun ds rs h=>by
 obtain ⟨⟨p,q,qq⟩,⟨e1,e2,hp,⟨e3,e4,hq,hr,rfl⟩,rfl⟩,rfl⟩:=Fo.inv (aGX 66) h
 obtain ⟨n1,a1,n2,a2,n3,a3,n4,a4,rfl,h1,h2,h3,h4,rfl⟩:=PI.inv hp
 obtain ⟨m1,b1,m2,b2,m3,b3,m4,b4,rfl,g1,g2,g3,g4,rfl⟩:=PI.inv hq
 obtain ⟨n,a,b,rfl,ha,hb,rfl⟩:=hr
 obtain ⟨u,hu⟩:∃ v,v=pv4 (Z n1 a1,Z n2 a2,Z n3 a3,Z n4 a4):=⟨_,rfl⟩
 have su:Sv 66 u:=by rw [hu];exact Sv.pv4 (by decide) ⟨.of h1,.of h2,.of h3,.of h4⟩
 obtain ⟨v,hv⟩:∃ v,v=pv4 (Z m1 b1,Z m2 b2,Z m3 b3,Z m4 b4):=⟨_,rfl⟩
 have sv:Sv 66 v:=by rw [hv];exact Sv.pv4 (by decide) ⟨.of g1,.of g2,.of g3,.of g4⟩
 obtain ⟨x,hx⟩:∃ x,x=qv n a b:=⟨_,rfl⟩
 have sx:Sq 66 x:=by rw [hx];exact .qv (by decide) ha hb
 have k1:aAm [b_ n1,s_ a1,b_ n2,s_ a2,b_ n3,s_ a3,b_ n4,s_ a4]=some (aCi u):=by rw [hu];exact Fo.eq (aA5 1500) (PI.mk (.raw n1 (by omega)) (.raw n2 (by omega)) (.raw n3 (by omega)) (.raw n4 (by omega)))
 have k2:aAm [b_ m1,s_ b1,b_ m2,s_ b2,b_ m3,s_ b3,b_ m4,s_ b4]=some (aCi v):=by rw [hv];exact Fo.eq (aA5 1500) (PI.mk (.raw m1 (by omega)) (.raw m2 (by omega)) (.raw m3 (by omega)) (.raw m4 (by omega)))
 obtain ⟨r,s,t⟩:=u
 obtain ⟨r',s',t'⟩:=v
 have d1:aB6 (encR r'++encR r)=some (encR (r' - r)):=R2.can (sv.1.le (by decide)) (su.1.le (by decide))
 have q1:Sq 133 (r' - r):=aDR sv.1 su.1
 have j1:aBD ([b_ n,s_ a,s_ b]++encR (r' - r))=some (encR (x*(r' - r))):=by rw [hx];exact R2.left (by omega) (by omega) (q1.le (by decide))
 have p1:Sq 199 (x*(r' - r)):=Sq.mul (by decide) sx q1
 have l1:aAW (encR r++encR (x*(r' - r)))=some (encR (r+x*(r' - r))):=R2.can (su.1.le (by decide)) (p1.le (by decide))
 have o1:Sq 266 (r+x*(r' - r)):=Sq.add su.1 p1
 have d2:aB6 (encR s'++encR s)=some (encR (s' - s)):=R2.can (sv.2.1.le (by decide)) (su.2.1.le (by decide))
 have q2:Sq 133 (s' - s):=aDR sv.2.1 su.2.1
 have j2:aBD ([b_ n,s_ a,s_ b]++encR (s' - s))=some (encR (x*(s' - s))):=by rw [hx];exact R2.left (by omega) (by omega) (q2.le (by decide))
 have p2:Sq 199 (x*(s' - s)):=Sq.mul (by decide) sx q2
 have l2:aAW (encR s++encR (x*(s' - s)))=some (encR (s+x*(s' - s))):=R2.can (su.2.1.le (by decide)) (p2.le (by decide))
 have o2:Sq 266 (s+x*(s' - s)):=Sq.add su.2.1 p2
 have d3:aB6 (encR t'++encR t)=some (encR (t' - t)):=R2.can (sv.2.2.le (by decide)) (su.2.2.le (by decide))
 have q3:Sq 133 (t' - t):=aDR sv.2.2 su.2.2
 have j3:aBD ([b_ n,s_ a,s_ b]++encR (t' - t))=some (encR (x*(t' - t))):=by rw [hx];exact R2.left (by omega) (by omega) (q3.le (by decide))
 have p3:Sq 199 (x*(t' - t)):=Sq.mul (by decide) sx q3
 have l3:aAW (encR t++encR (x*(t' - t)))=some (encR (t+x*(t' - t))):=R2.can (su.2.2.le (by decide)) (p3.le (by decide))
 have o3:Sq 266 (t+x*(t' - t)):=Sq.add su.2.2 p3
 show ∃ kk,aGW.run _ _ kk _ _=some (aAB (vmid (pv4 (Z n1 a1,Z n2 a2,Z n3 a3,Z n4 a4)) (pv4 (Z m1 b1,Z m2 b2,Z m3 b3,Z m4 b4)) (qv n a b)))
 have hvv:vmid (r,s,t) (r',s',t') x=(r+x*(r' - r),s+x*(s' - s),t+x*(t' - t)):=rfl
 rw [← hu,← hv,← hx,hvv]
 clear hu hv hx hvv
 have k1:aAm [b_ n1,s_ a1,b_ n2,s_ a2,b_ n3,s_ a3,b_ n4,s_ a4]=some (encR r++(encR s++encR t)):=k1
 have k2:aAm [b_ m1,s_ b1,b_ m2,s_ b2,b_ m3,s_ b3,b_ m4,s_ b4]=some (encR r'++(encR s'++encR t')):=k2
 generalize r+x*(r' - r)=A2 at *
 generalize x*(r' - r)=A1 at *
 generalize r' - r=A0 at *
 generalize s+x*(s' - s)=B2 at *
 generalize x*(s' - s)=B1 at *
 generalize s' - s=B0 at *
 generalize t+x*(t' - t)=C2 at *
 generalize x*(t' - t)=C1 at *
 generalize t' - t=C0 at *
 have k5:aAN (aCi (A2,B2,C2))=some (aAB (A2,B2,C2)):=Fo.eq (aDT 600) (VI.can ⟨o1.le (by decide),o2.le (by decide),o3.le (by decide)⟩)
 have k5:aAN (encR A2++(encR B2++encR C2))=some (enc4 (pt (A2,B2,C2))):=k5
 show ∃ kk,aGW.run _ _ kk _ _=some (enc4 (pt (A2,B2,C2)))
 generalize pt (A2,B2,C2)=P at *
 exact ⟨0,gC aAm k1 (gC aAm k2 (gC aB6 d1 (gC aBD j1 (gC aAW l1 (gC aB6 d2 (gC aBD j2 (gC aAW l2 (gC aB6 d3 (gC aBD j3 (gC aAW l3 (gC aAN k5 (aAc (by kernel_rfl)))))))))))))⟩
def aPx:Tb:=(32,aCC)::tbD4
theorem okD5:TbOk Tryz.prog X.G aPx:=.cons (by kernel_rfl) aS2 okD4
end Go.Proofs.YtjefbecmeobegaaGreatDoor.Sp
