import Derived.Test.YtjefbecmeobegaaGreatDoorSpPl
import Derived.Test.YtjefbecmeobegaaGreatDoorSpD
import Derived.Test.YtjefbecmeobegaaGreatDoorTr1
namespace Go.Proofs.YtjefbecmeobegaaGreatDoor.Sp
open Go Go.RowKit Sx NatA NatB NatC NatD NatI NatJ IntZ RatZ PtZ PlZ
set_option maxHeartbeats 2000000 in
theorem aJ2:Sx.Good Tryz.prog X.G 41 ⟨[.agg 8],.tup [.agg 8,.one]⟩ aAA:=aAe aKm (fun _ _=>X.G_below) 400 (by kernel_rfl) (by kernel_rfl:_=some aGC) fun ds rs h=>by
 obtain ⟨p,hp,rfl⟩:=Fo.inv (aAx 2500) h
 obtain ⟨n1,a1,n2,a2,n3,a3,n4,a4,rfl,h1,h2,h3,h4,rfl⟩:=hp.inv
 show ∃ kk,aGC.run _ _ kk _ _=some (aBr (plz (Z n1 a1,Z n2 a2,Z n3 a3,Z n4 a4)))
 obtain ⟨x,hx⟩:∃ v,v=Z n1 a1:=⟨_,rfl⟩
 have ix:ZI 2500 x [b_ n1,s_ a1]:=by rw [hx];exact .raw n1 h1
 have sx:Sz 2500 x:=ix.sz
 obtain ⟨y,hy⟩:∃ v,v=Z n2 a2:=⟨_,rfl⟩
 have iy:ZI 2500 y [b_ n2,s_ a2]:=by rw [hy];exact .raw n2 h2
 have sy:Sz 2500 y:=iy.sz
 obtain ⟨z,hz⟩:∃ v,v=Z n3 a3:=⟨_,rfl⟩
 have iz:ZI 2500 z [b_ n3,s_ a3]:=by rw [hz];exact .raw n3 h3
 have sz:Sz 2500 z:=iz.sz
 obtain ⟨w,hw⟩:∃ v,v=Z n4 a4:=⟨_,rfl⟩
 have iw:ZI 2500 w [b_ n4,s_ a4]:=by rw [hw];exact .raw n4 h4
 have sw:Sz 2500 w:=iw.sz
 have vx:V a1=x.natAbs:=by rw [hx,aBu]
 have vy:V a2=y.natAbs:=by rw [hy,aBu]
 have vz:V a3=z.natAbs:=by rw [hz,aBu]
 have vw:V a4=w.natAbs:=by rw [hw,aBu]
 have q1:=aFy h1
 have q2:=aFy h2
 have q3:=aFy h3
 have q4:=aFy h4
 rw [vx] at q1
 rw [vy] at q2
 rw [vz] at q3
 rw [vw] at q4
 have l1:=aBF q1 q2
 have l2:=aBF l1 q3
 have l3:=aBF l2 q4
 have c1:=aLq h1 (by decide)
 rw [vx] at c1
 have c2:=aDR q1 h2 (by decide)
 rw [vy] at c2
 have c3:=aDR l1 h3 (by decide)
 rw [vz] at c3
 have c4:=aDR l2 h4 (by decide)
 rw [vw] at c4
 rw [← hx,← hy,← hz,← hw]
 clear vx vy vz vw hx hy hz hw
 have hfl:Nat.gcd (Nat.gcd x.natAbs y.natAbs) z.natAbs=0 ↔ x=0∧y=0∧z=0:=by
  rw [Nat.gcd_eq_zero_iff,Nat.gcd_eq_zero_iff]
  omega
 refine ⟨0,?_⟩
 have k1:aAv [b_ n1,s_ a1]=some [i_ (sgn x)]:=I1.at ix (by decide)
 have k2:aAv [b_ n2,s_ a2]=some [i_ (sgn y)]:=I1.at iy (by decide)
 have k3:aAv [b_ n3,s_ a3]=some [i_ (sgn z)]:=I1.at iz (by decide)
 refine gC aAv k1 (gP (aAD _ _ .i64 (sgn x) 0) (aAt (b:=sgn x == 0) (by kernel_rfl) (fun ex=>?_) (fun ex=>?_)))
 ·rw [aBJ] at ex
  refine gC aAv k2 (gP (aAD _ _ .i64 (sgn y) 0) (aAt (b:=sgn y == 0) (by kernel_rfl) (fun ey=>?_) (fun ey=>?_)))
  ·rw [aBJ] at ey
   refine gC aAv k3 (gP (aAD _ _ .i64 (sgn z) 0) (aAt (b:=sgn z == 0) (by kernel_rfl) (fun ez=>?_) (fun ez=>?_)))
   ·rw [aBJ] at ez
    have hp:plz (x,y,z,w)=((0,0,0,0),false):=if_pos ⟨of_decide_eq_true ex,of_decide_eq_true ey,of_decide_eq_true ez⟩
    rw [hp,aHd]
    exact aAc (by kernel_rfl)
   ·rw [aBJ] at ez
    have hf:¬ Flat (x,y,z,w):=fun hh=>of_decide_eq_false ez hh.2.2
    have hg:0 < (g4 x y z w:Int):=aEY (p:=(x,y,z,w)) hf
    have hp:plz (x,y,z,w)=(quo (x,y,z,w),true):=if_neg hf
    have hq:quo (x,y,z,w)=(x / (g4 x y z w:Int),y / (g4 x y z w:Int),z / (g4 x y z w:Int),w / (g4 x y z w:Int)):=rfl
    rw [hp,hq]
    obtain ⟨g,hgg⟩:∃ g,g=g4 x y z w:=⟨_,rfl⟩
    have hg':Nat.gcd (Nat.gcd (Nat.gcd x.natAbs y.natAbs) z.natAbs) w.natAbs=g:=hgg.symm
    rw [hg'] at c4 l3
    rw [← hgg] at hg ⊢
    have sg':Sz 2500 (g:Int):=aA7 l3
    have g0:(g:Int)≠0:=by omega
    have c5:aAj [b_ false,s_ (N g)]=some (enc (g:Int)):=aGj (Nat.le_trans ((aAG _ _).2 l3) (by decide))
    obtain ⟨x1,hx1⟩:∃ v,v=x / (g:Int):=⟨_,rfl⟩
    obtain ⟨y1,hy1⟩:∃ v,v=y / (g:Int):=⟨_,rfl⟩
    obtain ⟨z1,hz1⟩:∃ v,v=z / (g:Int):=⟨_,rfl⟩
    obtain ⟨v1,hv1⟩:∃ v,v=w / (g:Int):=⟨_,rfl⟩
    obtain ⟨x2,d1⟩:∃ v,aAg ([b_ n1,s_ a1]++enc (g:Int))=some (enc x1++enc v++[b_ true]):=⟨_,by rw [hx1];exact aBn ix (ZI.can sg') (by decide) (by decide) g0⟩
    obtain ⟨y2,d2⟩:∃ v,aAg ([b_ n2,s_ a2]++enc (g:Int))=some (enc y1++enc v++[b_ true]):=⟨_,by rw [hy1];exact aBn iy (ZI.can sg') (by decide) (by decide) g0⟩
    obtain ⟨z2,d3⟩:∃ v,aAg ([b_ n3,s_ a3]++enc (g:Int))=some (enc z1++enc v++[b_ true]):=⟨_,by rw [hz1];exact aBn iz (ZI.can sg') (by decide) (by decide) g0⟩
    obtain ⟨v2,d4⟩:∃ v,aAg ([b_ n4,s_ a4]++enc (g:Int))=some (enc v1++enc v++[b_ true]):=⟨_,by rw [hv1];exact aBn iw (ZI.can sg') (by decide) (by decide) g0⟩
    rw [← hx1,← hy1,← hz1,← hv1]
    clear hx1 hy1 hz1 hv1 hp hq hgg hg' hf
    exact gC aA4 c1 (gC aA4 c2 (gC aA4 c3 (gC aA4 c4 (gC aAj c5 (gC aAg d1 (gC aAg d2 (gC aAg d3 (gC aAg d4 (aAc (by kernel_rfl))))))))))
  ·rw [aBJ] at ey
   have hf:¬ Flat (x,y,z,w):=fun hh=>of_decide_eq_false ey hh.2.1
   have hg:0 < (g4 x y z w:Int):=aEY (p:=(x,y,z,w)) hf
   have hp:plz (x,y,z,w)=(quo (x,y,z,w),true):=if_neg hf
   have hq:quo (x,y,z,w)=(x / (g4 x y z w:Int),y / (g4 x y z w:Int),z / (g4 x y z w:Int),w / (g4 x y z w:Int)):=rfl
   rw [hp,hq]
   obtain ⟨g,hgg⟩:∃ g,g=g4 x y z w:=⟨_,rfl⟩
   have hg':Nat.gcd (Nat.gcd (Nat.gcd x.natAbs y.natAbs) z.natAbs) w.natAbs=g:=hgg.symm
   rw [hg'] at c4 l3
   rw [← hgg] at hg ⊢
   have sg':Sz 2500 (g:Int):=aA7 l3
   have g0:(g:Int)≠0:=by omega
   have c5:aAj [b_ false,s_ (N g)]=some (enc (g:Int)):=aGj (Nat.le_trans ((aAG _ _).2 l3) (by decide))
   obtain ⟨x1,hx1⟩:∃ v,v=x / (g:Int):=⟨_,rfl⟩
   obtain ⟨y1,hy1⟩:∃ v,v=y / (g:Int):=⟨_,rfl⟩
   obtain ⟨z1,hz1⟩:∃ v,v=z / (g:Int):=⟨_,rfl⟩
   obtain ⟨v1,hv1⟩:∃ v,v=w / (g:Int):=⟨_,rfl⟩
   obtain ⟨x2,d1⟩:∃ v,aAg ([b_ n1,s_ a1]++enc (g:Int))=some (enc x1++enc v++[b_ true]):=⟨_,by rw [hx1];exact aBn ix (ZI.can sg') (by decide) (by decide) g0⟩
   obtain ⟨y2,d2⟩:∃ v,aAg ([b_ n2,s_ a2]++enc (g:Int))=some (enc y1++enc v++[b_ true]):=⟨_,by rw [hy1];exact aBn iy (ZI.can sg') (by decide) (by decide) g0⟩
   obtain ⟨z2,d3⟩:∃ v,aAg ([b_ n3,s_ a3]++enc (g:Int))=some (enc z1++enc v++[b_ true]):=⟨_,by rw [hz1];exact aBn iz (ZI.can sg') (by decide) (by decide) g0⟩
   obtain ⟨v2,d4⟩:∃ v,aAg ([b_ n4,s_ a4]++enc (g:Int))=some (enc v1++enc v++[b_ true]):=⟨_,by rw [hv1];exact aBn iw (ZI.can sg') (by decide) (by decide) g0⟩
   rw [← hx1,← hy1,← hz1,← hv1]
   clear hx1 hy1 hz1 hv1 hp hq hgg hg' hf
   exact gC aA4 c1 (gC aA4 c2 (gC aA4 c3 (gC aA4 c4 (gC aAj c5 (gC aAg d1 (gC aAg d2 (gC aAg d3 (gC aAg d4 (aAc (by kernel_rfl))))))))))
 ·rw [aBJ] at ex
  have hf:¬ Flat (x,y,z,w):=fun hh=>of_decide_eq_false ex hh.1
  have hg:0 < (g4 x y z w:Int):=aEY (p:=(x,y,z,w)) hf
  have hp:plz (x,y,z,w)=(quo (x,y,z,w),true):=if_neg hf
  have hq:quo (x,y,z,w)=(x / (g4 x y z w:Int),y / (g4 x y z w:Int),z / (g4 x y z w:Int),w / (g4 x y z w:Int)):=rfl
  rw [hp,hq]
  obtain ⟨g,hgg⟩:∃ g,g=g4 x y z w:=⟨_,rfl⟩
  have hg':Nat.gcd (Nat.gcd (Nat.gcd x.natAbs y.natAbs) z.natAbs) w.natAbs=g:=hgg.symm
  rw [hg'] at c4 l3
  rw [← hgg] at hg ⊢
  have sg':Sz 2500 (g:Int):=aA7 l3
  have g0:(g:Int)≠0:=by omega
  have c5:aAj [b_ false,s_ (N g)]=some (enc (g:Int)):=aGj (Nat.le_trans ((aAG _ _).2 l3) (by decide))
  obtain ⟨x1,hx1⟩:∃ v,v=x / (g:Int):=⟨_,rfl⟩
  obtain ⟨y1,hy1⟩:∃ v,v=y / (g:Int):=⟨_,rfl⟩
  obtain ⟨z1,hz1⟩:∃ v,v=z / (g:Int):=⟨_,rfl⟩
  obtain ⟨v1,hv1⟩:∃ v,v=w / (g:Int):=⟨_,rfl⟩
  obtain ⟨x2,d1⟩:∃ v,aAg ([b_ n1,s_ a1]++enc (g:Int))=some (enc x1++enc v++[b_ true]):=⟨_,by rw [hx1];exact aBn ix (ZI.can sg') (by decide) (by decide) g0⟩
  obtain ⟨y2,d2⟩:∃ v,aAg ([b_ n2,s_ a2]++enc (g:Int))=some (enc y1++enc v++[b_ true]):=⟨_,by rw [hy1];exact aBn iy (ZI.can sg') (by decide) (by decide) g0⟩
  obtain ⟨z2,d3⟩:∃ v,aAg ([b_ n3,s_ a3]++enc (g:Int))=some (enc z1++enc v++[b_ true]):=⟨_,by rw [hz1];exact aBn iz (ZI.can sg') (by decide) (by decide) g0⟩
  obtain ⟨v2,d4⟩:∃ v,aAg ([b_ n4,s_ a4]++enc (g:Int))=some (enc v1++enc v++[b_ true]):=⟨_,by rw [hv1];exact aBn iw (ZI.can sg') (by decide) (by decide) g0⟩
  rw [← hx1,← hy1,← hz1,← hv1]
  clear hx1 hy1 hz1 hv1 hp hq hgg hg' hf
  exact gC aA4 c1 (gC aA4 c2 (gC aA4 c3 (gC aA4 c4 (gC aAj c5 (gC aAg d1 (gC aAg d2 (gC aAg d3 (gC aAg d4 (aAc (by kernel_rfl))))))))))
def tbPm:Tb:=[(41,aAA)]++aQV
theorem okPm:TbOk Tryz.prog X.G tbPm:=(.cons (by kernel_rfl) aJ2 aQW)
set_option maxHeartbeats 2000000 in
theorem aMT:Sx.Good Tryz.prog X.G 43 ⟨[.agg 9,.agg 3],.tup [.agg 8,.one]⟩ aBm:=aAe okPm (fun _ _=>X.G_below) 400 (by kernel_rfl) (by kernel_rfl:_=some aGD) fun ds rs h=>by
 obtain ⟨⟨pv,pd⟩,⟨ev,ed,hv,hd,rfl⟩,rfl⟩:=Fo.inv (aDz 600) h
 obtain ⟨n1,a1,b1,n2,a2,b2,n3,a3,b3,rfl,h1,g1,h2,g2,h3,g3,rfl⟩:=VI.inv hv
 obtain ⟨n4,a4,b4,rfl,h4,g4,rfl⟩:=hd
 show ∃ kk,aGD.run _ _ kk _ _=some (aBr (plv (qv n1 a1 b1,qv n2 a2 b2,qv n3 a3 b3,qv n4 a4 b4)))
 obtain ⟨x,hx⟩:∃ v,v=qv n1 a1 b1:=⟨_,rfl⟩
 have ix:RI 600 x [b_ n1,s_ a1,s_ b1]:=by rw [hx];exact .raw n1 h1 g1
 have sx:Sq 600 x:=ix.sq (by decide)
 obtain ⟨y,hy⟩:∃ v,v=qv n2 a2 b2:=⟨_,rfl⟩
 have iy:RI 600 y [b_ n2,s_ a2,s_ b2]:=by rw [hy];exact .raw n2 h2 g2
 have sy:Sq 600 y:=iy.sq (by decide)
 obtain ⟨z,hz⟩:∃ v,v=qv n3 a3 b3:=⟨_,rfl⟩
 have iz:RI 600 z [b_ n3,s_ a3,s_ b3]:=by rw [hz];exact .raw n3 h3 g3
 have sz:Sq 600 z:=iz.sq (by decide)
 obtain ⟨w,hw⟩:∃ v,v=qv n4 a4 b4:=⟨_,rfl⟩
 have iw:RI 600 w [b_ n4,s_ a4,s_ b4]:=by rw [hw];exact .raw n4 h4 g4
 have sw:Sq 600 w:=iw.sq (by decide)
 rw [← hx,← hy,← hz,← hw]
 clear hx hy hz hw
 have kx:aAo [b_ n1,s_ a1,s_ b1]=some (enc x.num++enc (x.den:Int)):=R1.at ix (by decide)
 have ky:aAo [b_ n2,s_ a2,s_ b2]=some (enc y.num++enc (y.den:Int)):=R1.at iy (by decide)
 have kz:aAo [b_ n3,s_ a3,s_ b3]=some (enc z.num++enc (z.den:Int)):=R1.at iz (by decide)
 have kw:aAo [b_ n4,s_ a4,s_ b4]=some (enc w.num++enc (w.den:Int)):=R1.at iw (by decide)
 have hv:plv (x,y,z,w)=plz (x.num*((y.den:Int)*z.den*w.den),y.num*((x.den:Int)*z.den*w.den),z.num*((x.den:Int)*y.den*w.den),w.num*((x.den:Int)*y.den*z.den)):=rfl
 rw [hv]
 clear hv
 have nx:=aB6 x
 obtain ⟨tx,ux⟩:=sx
 generalize x.num=mx at *
 generalize (x.den:Int)=dx at *
 have ny:=aB6 y
 obtain ⟨ty,uy⟩:=sy
 generalize y.num=my at *
 generalize (y.den:Int)=dy at *
 have nz:=aB6 z
 obtain ⟨tz,uz⟩:=sz
 generalize z.num=mz at *
 generalize (z.den:Int)=dz at *
 have nw:=aB6 w
 obtain ⟨tw,uw⟩:=sw
 generalize w.num=mw at *
 generalize (w.den:Int)=dw at *
 obtain ⟨o,ho⟩:∃ o,o=(1:Int):=⟨_,rfl⟩
 have so:Sz 1 o:=by rw [ho];exact Sz.one
 have co:F_ifrom [i_ 1]=some (enc o):=by rw [ho];exact F_ifrom.eq (by decide) (by decide)
 obtain ⟨r1,hr1⟩:∃ v,v=o*dx:=⟨_,rfl⟩
 have sr1:Sz 601 r1:=by rw [hr1];exact so.mul ux
 have cr1:aAd (enc o++enc dx)=some (enc r1):=by rw [hr1];exact I2.at (ZI.can so) (ZI.can ux) (by decide) (by decide)
 obtain ⟨r2,hr2⟩:∃ v,v=r1*dy:=⟨_,rfl⟩
 have sr2:Sz 1201 r2:=by rw [hr2];exact sr1.mul uy
 have cr2:aAd (enc r1++enc dy)=some (enc r2):=by rw [hr2];exact I2.at (ZI.can sr1) (ZI.can uy) (by decide) (by decide)
 obtain ⟨r3,hr3⟩:∃ v,v=r2*dz:=⟨_,rfl⟩
 have sr3:Sz 1801 r3:=by rw [hr3];exact sr2.mul uz
 have cr3:aAd (enc r2++enc dz)=some (enc r3):=by rw [hr3];exact I2.at (ZI.can sr2) (ZI.can uz) (by decide) (by decide)
 obtain ⟨r4,hr4⟩:∃ v,v=r3*dw:=⟨_,rfl⟩
 have sr4:Sz 2401 r4:=by rw [hr4];exact sr3.mul uw
 have cr4:aAd (enc r3++enc dw)=some (enc r4):=by rw [hr4];exact I2.at (ZI.can sr3) (ZI.can uw) (by decide) (by decide)
 obtain ⟨q5,hq5⟩:∃ v,v=r4 / dx:=⟨_,rfl⟩
 have sq5:Sz 2401 q5:=by rw [hq5];exact aBe sr4
 obtain ⟨q5',cq5⟩:∃ v,aAg (enc r4++enc dx)=some (enc q5++enc v++[b_ true]):=⟨_,by rw [hq5];exact aBn (ZI.can sr4) (ZI.can ux) (by decide) (by decide) nx⟩
 have eq5:q5=dy*dz*dw:=by rw [hq5,hr4,hr3,hr2,hr1,ho,show 1*dx*dy*dz*dw=dx*(dy*dz*dw) by grind];exact Int.mul_ediv_cancel_left _ nx
 obtain ⟨r6,hr6⟩:∃ v,v=mx*q5:=⟨_,rfl⟩
 have sr6:Sz 3001 r6:=by rw [hr6];exact tx.mul sq5
 have cr6:aAd (enc mx++enc q5)=some (enc r6):=by rw [hr6];exact I2.at (ZI.can tx) (ZI.can sq5) (by decide) (by decide)
 obtain ⟨q7,hq7⟩:∃ v,v=r4 / dy:=⟨_,rfl⟩
 have sq7:Sz 2401 q7:=by rw [hq7];exact aBe sr4
 obtain ⟨q7',cq7⟩:∃ v,aAg (enc r4++enc dy)=some (enc q7++enc v++[b_ true]):=⟨_,by rw [hq7];exact aBn (ZI.can sr4) (ZI.can uy) (by decide) (by decide) ny⟩
 have eq7:q7=dx*dz*dw:=by rw [hq7,hr4,hr3,hr2,hr1,ho,show 1*dx*dy*dz*dw=dy*(dx*dz*dw) by grind];exact Int.mul_ediv_cancel_left _ ny
 obtain ⟨r8,hr8⟩:∃ v,v=my*q7:=⟨_,rfl⟩
 have sr8:Sz 3001 r8:=by rw [hr8];exact ty.mul sq7
 have cr8:aAd (enc my++enc q7)=some (enc r8):=by rw [hr8];exact I2.at (ZI.can ty) (ZI.can sq7) (by decide) (by decide)
 obtain ⟨q9,hq9⟩:∃ v,v=r4 / dz:=⟨_,rfl⟩
 have sq9:Sz 2401 q9:=by rw [hq9];exact aBe sr4
 obtain ⟨q9',cq9⟩:∃ v,aAg (enc r4++enc dz)=some (enc q9++enc v++[b_ true]):=⟨_,by rw [hq9];exact aBn (ZI.can sr4) (ZI.can uz) (by decide) (by decide) nz⟩
 have eq9:q9=dx*dy*dw:=by rw [hq9,hr4,hr3,hr2,hr1,ho,show 1*dx*dy*dz*dw=dz*(dx*dy*dw) by grind];exact Int.mul_ediv_cancel_left _ nz
 obtain ⟨r10,hr10⟩:∃ v,v=mz*q9:=⟨_,rfl⟩
 have sr10:Sz 3001 r10:=by rw [hr10];exact tz.mul sq9
 have cr10:aAd (enc mz++enc q9)=some (enc r10):=by rw [hr10];exact I2.at (ZI.can tz) (ZI.can sq9) (by decide) (by decide)
 obtain ⟨q11,hq11⟩:∃ v,v=r4 / dw:=⟨_,rfl⟩
 have sq11:Sz 2401 q11:=by rw [hq11];exact aBe sr4
 obtain ⟨q11',cq11⟩:∃ v,aAg (enc r4++enc dw)=some (enc q11++enc v++[b_ true]):=⟨_,by rw [hq11];exact aBn (ZI.can sr4) (ZI.can uw) (by decide) (by decide) nw⟩
 have eq11:q11=dx*dy*dz:=by rw [hq11,hr4,hr3,hr2,hr1,ho,show 1*dx*dy*dz*dw=dw*(dx*dy*dz) by grind];exact Int.mul_ediv_cancel_left _ nw
 obtain ⟨r12,hr12⟩:∃ v,v=mw*q11:=⟨_,rfl⟩
 have sr12:Sz 3001 r12:=by rw [hr12];exact tw.mul sq11
 have cr12:aAd (enc mw++enc q11)=some (enc r12):=by rw [hr12];exact I2.at (ZI.can tw) (ZI.can sq11) (by decide) (by decide)
 have Ex:r6=mx*(dy*dz*dw):=by rw [hr6,eq5]
 have Gx:Sz 2400 r6:=by rw [Ex];exact tx.mul ((uy.mul uz).mul uw)
 have Ey:r8=my*(dx*dz*dw):=by rw [hr8,eq7]
 have Gy:Sz 2400 r8:=by rw [Ey];exact ty.mul ((ux.mul uz).mul uw)
 have Ez:r10=mz*(dx*dy*dw):=by rw [hr10,eq9]
 have Gz:Sz 2400 r10:=by rw [Ez];exact tz.mul ((ux.mul uy).mul uw)
 have Ew:r12=mw*(dx*dy*dz):=by rw [hr12,eq11]
 have Gw:Sz 2400 r12:=by rw [Ew];exact tw.mul ((ux.mul uy).mul uz)
 rw [← Ex,← Ey,← Ez,← Ew]
 clear Ex Ey Ez Ew
 clear eq5 eq7 eq9 eq11
 clear ho hr1 hr2 hr3 hr4 hq5 hr6 hq7 hr8 hq9 hr10 hq11 hr12
 have fin:aAA (enc4 (r6,r8,r10,r12))=some (aBr (plz (r6,r8,r10,r12))):=Fo.eq (aAx 2500) (PI.can ⟨Gx.le (by decide),Gy.le (by decide),Gz.le (by decide),Gw.le (by decide)⟩)
 generalize plz (r6,r8,r10,r12)=Q at *
 obtain ⟨Q,k⟩:=Q
 refine ⟨0,?_⟩
 refine gC F_ifrom co ?_
 refine gC aAo kx ?_
 refine gC aAd cr1 ?_
 refine gC aAo ky ?_
 refine gC aAd cr2 ?_
 refine gC aAo kz ?_
 refine gC aAd cr3 ?_
 refine gC aAo kw ?_
 refine gC aAd cr4 ?_
 refine gC aAo kx ?_
 refine gC aAg cq5 ?_
 refine gC aAd cr6 ?_
 refine gC aAo ky ?_
 refine gC aAg cq7 ?_
 refine gC aAd cr8 ?_
 refine gC aAo kz ?_
 refine gC aAg cq9 ?_
 refine gC aAd cr10 ?_
 refine gC aAo kw ?_
 refine gC aAg cq11 ?_
 refine gC aAd cr12 ?_
 refine gC aAA fin ?_
 exact aAc (by kernel_rfl)
def tbPt:Tb:=[(43,aBm),(22,aA5)]++tbU9
theorem okPt:TbOk Tryz.prog X.G tbPt:=(.cons (by kernel_rfl) aMT (.cons (by kernel_rfl) aPQ okU9))
set_option maxHeartbeats 2000000 in
theorem aSl:Sx.Good Tryz.prog X.G 50 ⟨[.agg 8,.agg 8,.agg 8],.tup [.agg 8,.one]⟩ aAV:=aAe okPt (fun _ _=>X.G_below) 400 (by kernel_rfl) (by kernel_rfl:_=some aFx) fun ds rs h=>by
 obtain ⟨⟨pa,pb,pc⟩,⟨ea,eb',⟨ha,wa⟩,⟨eb,ec,⟨hb,wb⟩,⟨hc,wc⟩,rfl⟩,rfl⟩,rfl⟩:=Fo.inv (aHe 20) h
 obtain ⟨na1,ea1,na2,ea2,na3,ea3,na4,ea4,rfl,za1,za2,za3,za4,rfl⟩:=PI.inv ha
 obtain ⟨nb1,eb1,nb2,eb2,nb3,eb3,nb4,eb4,rfl,zb1,zb2,zb3,zb4,rfl⟩:=PI.inv hb
 obtain ⟨nc1,ec1,nc2,ec2,nc3,ec3,nc4,ec4,rfl,zc1,zc2,zc3,zc4,rfl⟩:=PI.inv hc
 show ∃ kk,aFx.run _ _ kk _ _=some (aBr (plv (thr (co (Z na1 ea1,Z na2 ea2,Z na3 ea3,Z na4 ea4)) (co (Z nb1 eb1,Z nb2 eb2,Z nb3 eb3,Z nb4 eb4)) (co (Z nc1 ec1,Z nc2 ec2,Z nc3 ec3,Z nc4 ec4)))))
 have wa:=of_decide_eq_true wa
 dsimp only at wa
 have ja:pv4 (Z na1 ea1,Z na2 ea2,Z na3 ea3,Z na4 ea4)=co (Z na1 ea1,Z na2 ea2,Z na3 ea3,Z na4 ea4):=by unfold pv4 pv w1;dsimp only;rw [if_neg (by omega)]
 obtain ⟨ua,hua⟩:∃ v,v=co (Z na1 ea1,Z na2 ea2,Z na3 ea3,Z na4 ea4):=⟨_,rfl⟩
 have sa:Sv 20 ua:=by rw [hua,← ja];exact Sv.pv4 (by decide) ⟨.of za1,.of za2,.of za3,.of za4⟩
 have ka:aA5 [b_ na1,s_ ea1,b_ na2,s_ ea2,b_ na3,s_ ea3,b_ na4,s_ ea4]=some (aFa ua):=by rw [hua,← ja];exact Fo.eq (aAx 1500) (PI.mk (.raw na1 (by omega)) (.raw na2 (by omega)) (.raw na3 (by omega)) (.raw na4 (by omega)))
 rw [← hua]
 clear hua ja wa
 obtain ⟨a1,a2,a3⟩:=ua
 obtain ⟨Sa1,Sa2,Sa3⟩:=sa
 dsimp only at Sa1 Sa2 Sa3
 have ka:aA5 [b_ na1,s_ ea1,b_ na2,s_ ea2,b_ na3,s_ ea3,b_ na4,s_ ea4]=some (encR a1++(encR a2++encR a3)):=ka
 have wb:=of_decide_eq_true wb
 dsimp only at wb
 have jb:pv4 (Z nb1 eb1,Z nb2 eb2,Z nb3 eb3,Z nb4 eb4)=co (Z nb1 eb1,Z nb2 eb2,Z nb3 eb3,Z nb4 eb4):=by unfold pv4 pv w1;dsimp only;rw [if_neg (by omega)]
 obtain ⟨ub,hub⟩:∃ v,v=co (Z nb1 eb1,Z nb2 eb2,Z nb3 eb3,Z nb4 eb4):=⟨_,rfl⟩
 have sb:Sv 20 ub:=by rw [hub,← jb];exact Sv.pv4 (by decide) ⟨.of zb1,.of zb2,.of zb3,.of zb4⟩
 have kb:aA5 [b_ nb1,s_ eb1,b_ nb2,s_ eb2,b_ nb3,s_ eb3,b_ nb4,s_ eb4]=some (aFa ub):=by rw [hub,← jb];exact Fo.eq (aAx 1500) (PI.mk (.raw nb1 (by omega)) (.raw nb2 (by omega)) (.raw nb3 (by omega)) (.raw nb4 (by omega)))
 rw [← hub]
 clear hub jb wb
 obtain ⟨b1,b2,b3⟩:=ub
 obtain ⟨Sb1,Sb2,Sb3⟩:=sb
 dsimp only at Sb1 Sb2 Sb3
 have kb:aA5 [b_ nb1,s_ eb1,b_ nb2,s_ eb2,b_ nb3,s_ eb3,b_ nb4,s_ eb4]=some (encR b1++(encR b2++encR b3)):=kb
 have wc:=of_decide_eq_true wc
 dsimp only at wc
 have jc:pv4 (Z nc1 ec1,Z nc2 ec2,Z nc3 ec3,Z nc4 ec4)=co (Z nc1 ec1,Z nc2 ec2,Z nc3 ec3,Z nc4 ec4):=by unfold pv4 pv w1;dsimp only;rw [if_neg (by omega)]
 obtain ⟨uc,huc⟩:∃ v,v=co (Z nc1 ec1,Z nc2 ec2,Z nc3 ec3,Z nc4 ec4):=⟨_,rfl⟩
 have sc:Sv 20 uc:=by rw [huc,← jc];exact Sv.pv4 (by decide) ⟨.of zc1,.of zc2,.of zc3,.of zc4⟩
 have kc:aA5 [b_ nc1,s_ ec1,b_ nc2,s_ ec2,b_ nc3,s_ ec3,b_ nc4,s_ ec4]=some (aFa uc):=by rw [huc,← jc];exact Fo.eq (aAx 1500) (PI.mk (.raw nc1 (by omega)) (.raw nc2 (by omega)) (.raw nc3 (by omega)) (.raw nc4 (by omega)))
 rw [← huc]
 clear huc jc wc
 obtain ⟨c1,c2,c3⟩:=uc
 obtain ⟨Sc1,Sc2,Sc3⟩:=sc
 dsimp only at Sc1 Sc2 Sc3
 have kc:aA5 [b_ nc1,s_ ec1,b_ nc2,s_ ec2,b_ nc3,s_ ec3,b_ nc4,s_ ec4]=some (encR c1++(encR c2++encR c3)):=kc
 obtain ⟨r1,hr1⟩:∃ v,v=b1 - a1:=⟨_,rfl⟩
 have sr1:Sq 41 r1:=by rw [hr1];exact aBl Sb1 Sa1
 have cr1:aAQ (encR b1++encR a1)=some (encR r1):=by rw [hr1];exact R2.at (RI.can Sb1) (RI.can Sa1) (by decide) (by decide)
 obtain ⟨r2,hr2⟩:∃ v,v=b2 - a2:=⟨_,rfl⟩
 have sr2:Sq 41 r2:=by rw [hr2];exact aBl Sb2 Sa2
 have cr2:aAQ (encR b2++encR a2)=some (encR r2):=by rw [hr2];exact R2.at (RI.can Sb2) (RI.can Sa2) (by decide) (by decide)
 obtain ⟨r3,hr3⟩:∃ v,v=b3 - a3:=⟨_,rfl⟩
 have sr3:Sq 41 r3:=by rw [hr3];exact aBl Sb3 Sa3
 have cr3:aAQ (encR b3++encR a3)=some (encR r3):=by rw [hr3];exact R2.at (RI.can Sb3) (RI.can Sa3) (by decide) (by decide)
 obtain ⟨r4,hr4⟩:∃ v,v=c1 - a1:=⟨_,rfl⟩
 have sr4:Sq 41 r4:=by rw [hr4];exact aBl Sc1 Sa1
 have cr4:aAQ (encR c1++encR a1)=some (encR r4):=by rw [hr4];exact R2.at (RI.can Sc1) (RI.can Sa1) (by decide) (by decide)
 obtain ⟨r5,hr5⟩:∃ v,v=c2 - a2:=⟨_,rfl⟩
 have sr5:Sq 41 r5:=by rw [hr5];exact aBl Sc2 Sa2
 have cr5:aAQ (encR c2++encR a2)=some (encR r5):=by rw [hr5];exact R2.at (RI.can Sc2) (RI.can Sa2) (by decide) (by decide)
 obtain ⟨r6,hr6⟩:∃ v,v=c3 - a3:=⟨_,rfl⟩
 have sr6:Sq 41 r6:=by rw [hr6];exact aBl Sc3 Sa3
 have cr6:aAQ (encR c3++encR a3)=some (encR r6):=by rw [hr6];exact R2.at (RI.can Sc3) (RI.can Sa3) (by decide) (by decide)
 obtain ⟨r7,hr7⟩:∃ v,v=r2*r6:=⟨_,rfl⟩
 have sr7:Sq 82 r7:=by rw [hr7];exact Sq.mul (by decide) sr2 sr6
 have cr7:aAC (encR r2++encR r6)=some (encR r7):=by rw [hr7];exact R2.at (RI.can sr2) (RI.can sr6) (by decide) (by decide)
 obtain ⟨r8,hr8⟩:∃ v,v=r3*r5:=⟨_,rfl⟩
 have sr8:Sq 82 r8:=by rw [hr8];exact Sq.mul (by decide) sr3 sr5
 have cr8:aAC (encR r3++encR r5)=some (encR r8):=by rw [hr8];exact R2.at (RI.can sr3) (RI.can sr5) (by decide) (by decide)
 obtain ⟨r9,hr9⟩:∃ v,v=r7 - r8:=⟨_,rfl⟩
 have sr9:Sq 165 r9:=by rw [hr9];exact aBl sr7 sr8
 have cr9:aAQ (encR r7++encR r8)=some (encR r9):=by rw [hr9];exact R2.at (RI.can sr7) (RI.can sr8) (by decide) (by decide)
 obtain ⟨r10,hr10⟩:∃ v,v=r3*r4:=⟨_,rfl⟩
 have sr10:Sq 82 r10:=by rw [hr10];exact Sq.mul (by decide) sr3 sr4
 have cr10:aAC (encR r3++encR r4)=some (encR r10):=by rw [hr10];exact R2.at (RI.can sr3) (RI.can sr4) (by decide) (by decide)
 obtain ⟨r11,hr11⟩:∃ v,v=r1*r6:=⟨_,rfl⟩
 have sr11:Sq 82 r11:=by rw [hr11];exact Sq.mul (by decide) sr1 sr6
 have cr11:aAC (encR r1++encR r6)=some (encR r11):=by rw [hr11];exact R2.at (RI.can sr1) (RI.can sr6) (by decide) (by decide)
 obtain ⟨r12,hr12⟩:∃ v,v=r10 - r11:=⟨_,rfl⟩
 have sr12:Sq 165 r12:=by rw [hr12];exact aBl sr10 sr11
 have cr12:aAQ (encR r10++encR r11)=some (encR r12):=by rw [hr12];exact R2.at (RI.can sr10) (RI.can sr11) (by decide) (by decide)
 obtain ⟨r13,hr13⟩:∃ v,v=r1*r5:=⟨_,rfl⟩
 have sr13:Sq 82 r13:=by rw [hr13];exact Sq.mul (by decide) sr1 sr5
 have cr13:aAC (encR r1++encR r5)=some (encR r13):=by rw [hr13];exact R2.at (RI.can sr1) (RI.can sr5) (by decide) (by decide)
 obtain ⟨r14,hr14⟩:∃ v,v=r2*r4:=⟨_,rfl⟩
 have sr14:Sq 82 r14:=by rw [hr14];exact Sq.mul (by decide) sr2 sr4
 have cr14:aAC (encR r2++encR r4)=some (encR r14):=by rw [hr14];exact R2.at (RI.can sr2) (RI.can sr4) (by decide) (by decide)
 obtain ⟨r15,hr15⟩:∃ v,v=r13 - r14:=⟨_,rfl⟩
 have sr15:Sq 165 r15:=by rw [hr15];exact aBl sr13 sr14
 have cr15:aAQ (encR r13++encR r14)=some (encR r15):=by rw [hr15];exact R2.at (RI.can sr13) (RI.can sr14) (by decide) (by decide)
 obtain ⟨zz,hzz⟩:∃ v,v=(0:Rat):=⟨_,rfl⟩
 have izz:RI 1 zz [b_ false,s_ (⟨#[]⟩:ByteArray),s_ (⟨#[]⟩:ByteArray)]:=by rw [hzz,show (0:Rat)=qv false (⟨#[]⟩:ByteArray) (⟨#[]⟩:ByteArray) from rfl];exact .raw false (by decide) (by decide)
 have szz:Sq 1 zz:=izz.sq (by decide)
 obtain ⟨r16,hr16⟩:∃ v,v=r9*a1:=⟨_,rfl⟩
 have sr16:Sq 185 r16:=by rw [hr16];exact Sq.mul (by decide) sr9 Sa1
 have cr16:aAC (encR r9++encR a1)=some (encR r16):=by rw [hr16];exact R2.at (RI.can sr9) (RI.can Sa1) (by decide) (by decide)
 obtain ⟨r17,hr17⟩:∃ v,v=zz+r16:=⟨_,rfl⟩
 have sr17:Sq 187 r17:=by rw [hr17];exact Sq.add szz sr16
 have cr17:aBh ([b_ false,s_ (⟨#[]⟩:ByteArray),s_ (⟨#[]⟩:ByteArray)]++encR r16)=some (encR r17):=by rw [hr17];exact R2.at izz (RI.can sr16) (by decide) (by decide)
 obtain ⟨r18,hr18⟩:∃ v,v=r12*a2:=⟨_,rfl⟩
 have sr18:Sq 185 r18:=by rw [hr18];exact Sq.mul (by decide) sr12 Sa2
 have cr18:aAC (encR r12++encR a2)=some (encR r18):=by rw [hr18];exact R2.at (RI.can sr12) (RI.can Sa2) (by decide) (by decide)
 obtain ⟨r19,hr19⟩:∃ v,v=r17+r18:=⟨_,rfl⟩
 have sr19:Sq 373 r19:=by rw [hr19];exact Sq.add sr17 sr18
 have cr19:aBh (encR r17++encR r18)=some (encR r19):=by rw [hr19];exact R2.at (RI.can sr17) (RI.can sr18) (by decide) (by decide)
 obtain ⟨r20,hr20⟩:∃ v,v=r15*a3:=⟨_,rfl⟩
 have sr20:Sq 185 r20:=by rw [hr20];exact Sq.mul (by decide) sr15 Sa3
 have cr20:aAC (encR r15++encR a3)=some (encR r20):=by rw [hr20];exact R2.at (RI.can sr15) (RI.can Sa3) (by decide) (by decide)
 obtain ⟨r21,hr21⟩:∃ v,v=r19+r20:=⟨_,rfl⟩
 have sr21:Sq 559 r21:=by rw [hr21];exact Sq.add sr19 sr20
 have cr21:aBh (encR r19++encR r20)=some (encR r21):=by rw [hr21];exact R2.at (RI.can sr19) (RI.can sr20) (by decide) (by decide)
 have E:thr (a1,a2,a3) (b1,b2,b3) (c1,c2,c3)=(r9,r12,r15,r21):=by rw [hr21,hr20,hr19,hr18,hr17,hr16,hzz,hr15,hr14,hr13,hr12,hr11,hr10,hr9,hr8,hr7,hr6,hr5,hr4,hr3,hr2,hr1];unfold thr nrv;dsimp only;rw [Rat.zero_add]
 rw [E]
 clear E hr1 hr2 hr3 hr4 hr5 hr6 hr7 hr8 hr9 hr10 hr11 hr12 hr13 hr14 hr15 hzz hr16 hr17 hr18 hr19 hr20 hr21
 have fin:aBm ((encR r9++(encR r12++encR r15))++encR r21)=some (aBr (plv (r9,r12,r15,r21))):=Fo.eq (v:=((r9,r12,r15),r21)) (aDz 600) (And2.mk' (VI.can ⟨sr9.le (by decide),sr12.le (by decide),sr15.le (by decide)⟩) (RI.can (sr21.le (by decide))))
 generalize plv (r9,r12,r15,r21)=Q at *
 obtain ⟨Q,k⟩:=Q
 refine ⟨0,?_⟩
 refine gC aA5 ka ?_
 refine gC aA5 kb ?_
 refine gC aA5 kc ?_
 refine gC aAQ cr1 ?_
 refine gC aAQ cr2 ?_
 refine gC aAQ cr3 ?_
 refine gC aAQ cr4 ?_
 refine gC aAQ cr5 ?_
 refine gC aAQ cr6 ?_
 refine gC aAC cr7 ?_
 refine gC aAC cr8 ?_
 refine gC aAQ cr9 ?_
 refine gC aAC cr10 ?_
 refine gC aAC cr11 ?_
 refine gC aAQ cr12 ?_
 refine gC aAC cr13 ?_
 refine gC aAC cr14 ?_
 refine gC aAQ cr15 ?_
 refine gC aAC cr16 ?_
 refine gC aBh cr17 ?_
 refine gC aAC cr18 ?_
 refine gC aBh cr19 ?_
 refine gC aAC cr20 ?_
 refine gC aBh cr21 ?_
 refine gC aBm fin ?_
 exact aAc (by kernel_rfl)
set_option maxHeartbeats 2000000 in
theorem aSm:Sx.Good Tryz.prog X.G 54 ⟨[.agg 8],.v1 (.agg 8)⟩ aBH:=aAe aKm (fun _ _=>X.G_below) 400 (by kernel_rfl) (by kernel_rfl:_=some aGE) fun ds rs h=>by
 obtain ⟨p,hp,rfl⟩:=Fo.inv (aAx 2500) h
 obtain ⟨n1,a1,n2,a2,n3,a3,n4,a4,rfl,h1,h2,h3,h4,rfl⟩:=hp.inv
 show ∃ kk,aGE.run _ _ kk _ _=some (enc4 (aBE (Z n1 a1,Z n2 a2,Z n3 a3,Z n4 a4)))
 obtain ⟨x,hx⟩:∃ v,v=Z n1 a1:=⟨_,rfl⟩
 have ix:ZI 2500 x [b_ n1,s_ a1]:=by rw [hx];exact .raw n1 h1
 have sx:Sz 2500 x:=ix.sz
 obtain ⟨y,hy⟩:∃ v,v=Z n2 a2:=⟨_,rfl⟩
 have iy:ZI 2500 y [b_ n2,s_ a2]:=by rw [hy];exact .raw n2 h2
 have sy:Sz 2500 y:=iy.sz
 obtain ⟨z,hz⟩:∃ v,v=Z n3 a3:=⟨_,rfl⟩
 have iz:ZI 2500 z [b_ n3,s_ a3]:=by rw [hz];exact .raw n3 h3
 have sz:Sz 2500 z:=iz.sz
 obtain ⟨w,hw⟩:∃ v,v=Z n4 a4:=⟨_,rfl⟩
 have iw:ZI 2500 w [b_ n4,s_ a4]:=by rw [hw];exact .raw n4 h4
 have sw:Sz 2500 w:=iw.sz
 rw [← hx,← hy,← hz,← hw]
 clear hx hy hz hw
 have cx:aAn [b_ n1,s_ a1]=some (enc (-x)):=I1.at ix (by decide)
 have cy:aAn [b_ n2,s_ a2]=some (enc (-y)):=I1.at iy (by decide)
 have cz:aAn [b_ n3,s_ a3]=some (enc (-z)):=I1.at iz (by decide)
 have cw:aAn [b_ n4,s_ a4]=some (enc (-w)):=I1.at iw (by decide)
 show ∃ kk,aGE.run _ _ kk _ _=some (enc4 (-x,-y,-z,-w))
 generalize -x=x' at *
 generalize -y=y' at *
 generalize -z=z' at *
 generalize -w=w' at *
 refine ⟨0,?_⟩
 refine gC aAn cx ?_
 refine gC aAn cy ?_
 refine gC aAn cz ?_
 refine gC aAn cw ?_
 exact aAc (by kernel_rfl)
set_option maxHeartbeats 2000000 in
theorem aSn:Sx.Good Tryz.prog X.G 53 ⟨[.agg 8,.agg 8],.v1 .one⟩ aBw:=aAe aKm (fun _ _=>X.G_below) 400 (by kernel_rfl) (by kernel_rfl:_=some aGF) fun ds rs h=>by
 obtain ⟨⟨p,q⟩,⟨e1,e2,hp,hq,rfl⟩,rfl⟩:=Fo.inv (aGl 1000) h
 obtain ⟨n1,a1,n2,a2,n3,a3,n4,a4,rfl,h1,h2,h3,h4,rfl⟩:=PI.inv hp
 obtain ⟨m1,b1,m2,b2,m3,b3,m4,b4,rfl,g1,g2,g3,g4,rfl⟩:=PI.inv hq
 show ∃ kk,aGF.run _ _ kk _ _=some [i_ (sgn (sdz (Z n1 a1,Z n2 a2,Z n3 a3,Z n4 a4) (Z m1 b1,Z m2 b2,Z m3 b3,Z m4 b4)))]
 obtain ⟨x,hx⟩:∃ v,v=Z n1 a1:=⟨_,rfl⟩
 have ix:ZI 1000 x [b_ n1,s_ a1]:=by rw [hx];exact .raw n1 h1
 have sx:Sz 1000 x:=ix.sz
 obtain ⟨y,hy⟩:∃ v,v=Z n2 a2:=⟨_,rfl⟩
 have iy:ZI 1000 y [b_ n2,s_ a2]:=by rw [hy];exact .raw n2 h2
 have sy:Sz 1000 y:=iy.sz
 obtain ⟨z,hz⟩:∃ v,v=Z n3 a3:=⟨_,rfl⟩
 have iz:ZI 1000 z [b_ n3,s_ a3]:=by rw [hz];exact .raw n3 h3
 have sz:Sz 1000 z:=iz.sz
 obtain ⟨w,hw⟩:∃ v,v=Z n4 a4:=⟨_,rfl⟩
 have iw:ZI 1000 w [b_ n4,s_ a4]:=by rw [hw];exact .raw n4 h4
 have sw:Sz 1000 w:=iw.sz
 obtain ⟨x',hx'⟩:∃ v,v=Z m1 b1:=⟨_,rfl⟩
 have ix':ZI 1000 x' [b_ m1,s_ b1]:=by rw [hx'];exact .raw m1 g1
 have sx':Sz 1000 x':=ix'.sz
 obtain ⟨y',hy'⟩:∃ v,v=Z m2 b2:=⟨_,rfl⟩
 have iy':ZI 1000 y' [b_ m2,s_ b2]:=by rw [hy'];exact .raw m2 g2
 have sy':Sz 1000 y':=iy'.sz
 obtain ⟨z',hz'⟩:∃ v,v=Z m3 b3:=⟨_,rfl⟩
 have iz':ZI 1000 z' [b_ m3,s_ b3]:=by rw [hz'];exact .raw m3 g3
 have sz':Sz 1000 z':=iz'.sz
 obtain ⟨w',hw'⟩:∃ v,v=Z m4 b4:=⟨_,rfl⟩
 have iw':ZI 1000 w' [b_ m4,s_ b4]:=by rw [hw'];exact .raw m4 g4
 have sw':Sz 1000 w':=iw'.sz
 rw [← hx,← hy,← hz,← hw,← hx',← hy',← hz',← hw']
 clear hx hy hz hw hx' hy' hz' hw'
 obtain ⟨r1,hr1⟩:∃ v,v=w*w':=⟨_,rfl⟩
 have sr1:Sz 2000 r1:=by rw [hr1];exact sw.mul sw'
 have cr1:aAd ([b_ n4,s_ a4]++[b_ m4,s_ b4])=some (enc r1):=by rw [hr1];exact I2.at iw iw' (by decide) (by decide)
 obtain ⟨r2,hr2⟩:∃ v,v=-r1:=⟨_,rfl⟩
 have sr2:Sz 2000 r2:=by rw [hr2];exact sr1.neg
 have cr2:aAn (enc r1)=some (enc r2):=by rw [hr2];exact I1.at (ZI.can sr1) (by decide)
 obtain ⟨r3,hr3⟩:∃ v,v=x*x':=⟨_,rfl⟩
 have sr3:Sz 2000 r3:=by rw [hr3];exact sx.mul sx'
 have cr3:aAd ([b_ n1,s_ a1]++[b_ m1,s_ b1])=some (enc r3):=by rw [hr3];exact I2.at ix ix' (by decide) (by decide)
 obtain ⟨r4,hr4⟩:∃ v,v=r2+r3:=⟨_,rfl⟩
 have sr4:Sz 4001 r4:=by rw [hr4];exact sr2.add sr3
 have cr4:aBi (enc r2++enc r3)=some (enc r4):=by rw [hr4];exact I2.at (ZI.can sr2) (ZI.can sr3) (by decide) (by decide)
 obtain ⟨r5,hr5⟩:∃ v,v=y*y':=⟨_,rfl⟩
 have sr5:Sz 2000 r5:=by rw [hr5];exact sy.mul sy'
 have cr5:aAd ([b_ n2,s_ a2]++[b_ m2,s_ b2])=some (enc r5):=by rw [hr5];exact I2.at iy iy' (by decide) (by decide)
 obtain ⟨r6,hr6⟩:∃ v,v=r4+r5:=⟨_,rfl⟩
 have sr6:Sz 6002 r6:=by rw [hr6];exact sr4.add sr5
 have cr6:aBi (enc r4++enc r5)=some (enc r6):=by rw [hr6];exact I2.at (ZI.can sr4) (ZI.can sr5) (by decide) (by decide)
 obtain ⟨r7,hr7⟩:∃ v,v=z*z':=⟨_,rfl⟩
 have sr7:Sz 2000 r7:=by rw [hr7];exact sz.mul sz'
 have cr7:aAd ([b_ n3,s_ a3]++[b_ m3,s_ b3])=some (enc r7):=by rw [hr7];exact I2.at iz iz' (by decide) (by decide)
 obtain ⟨r8,hr8⟩:∃ v,v=r6+r7:=⟨_,rfl⟩
 have sr8:Sz 8003 r8:=by rw [hr8];exact sr6.add sr7
 have cr8:aBi (enc r6++enc r7)=some (enc r8):=by rw [hr8];exact I2.at (ZI.can sr6) (ZI.can sr7) (by decide) (by decide)
 have fin:aAv (enc r8)=some [i_ (sgn r8)]:=I1.at (ZI.can sr8) (by decide)
 have E:sdz (x,y,z,w) (x',y',z',w')=r8:=by rw [hr8,hr7,hr6,hr5,hr4,hr3,hr2,hr1];unfold sdz;dsimp only;grind
 rw [E]
 clear E hr1 hr2 hr3 hr4 hr5 hr6 hr7 hr8
 generalize sgn (r8)=S at *
 refine ⟨0,?_⟩
 refine gC aAd cr1 ?_
 refine gC aAn cr2 ?_
 refine gC aAd cr3 ?_
 refine gC aBi cr4 ?_
 refine gC aAd cr5 ?_
 refine gC aBi cr6 ?_
 refine gC aAd cr7 ?_
 refine gC aBi cr8 ?_
 refine gC aAv fin ?_
 exact aAc (by kernel_rfl)
end Go.Proofs.YtjefbecmeobegaaGreatDoor.Sp
