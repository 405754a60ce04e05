/- MERGED by merge.py: SpPr SpPj -/
import Derived.Test.YtjefbecmeobegaaGreatDoorSpPl
import Derived.Test.YtjefbecmeobegaaGreatDoorSpD
import Derived.Test.YtjefbecmeobegaaGreatDoorTr1
namespace Go.Proofs.YtjefbecmeobegaaGreatDoor.Sp
open Go Go.RowKit Sx NatA NatB NatC NatD NatI NatJ IntZ RatZ PtZ PlZ
set_option maxHeartbeats 2000000 in
theorem aMS:Sx.Good Tryz.prog X.G 41 ⟨[.agg 8],.tup [.agg 8,.one]⟩ aBs:=aAe aKo (λ _ _=>X.G_below) 400 kK (by kernel_rfl:_=some aGK) λ ds rs h=>by
 obtain ⟨p,hp,rfl⟩:=Fo.inv (aAt 2500) h
 obtain ⟨n1,a1,n2,a2,n3,a3,n4,a4,rfl,h1,h2,h3,h4,rfl⟩:=hp.inv
 show ∃ kk,aGK.run _ _ kk _ _=some (aBR (plz (Z n1 a1,Z n2 a2,Z n3 a3,Z n4 a4)))
 obtain ⟨x,hx⟩:∃ v,v=Z n1 a1:=⟨_,rfl⟩
 have ix:ZI 2500 x [b_ n1,s_ a1]:=by rw [hx];exact .raw n1 h1
 have sx:Sz 2500 x:=ix.sz
 obtain ⟨y,hy⟩:∃ v,v=Z n2 a2:=⟨_,rfl⟩
 have iy:ZI 2500 y [b_ n2,s_ a2]:=by rw [hy];exact .raw n2 h2
 have sy:Sz 2500 y:=iy.sz
 obtain ⟨z,hz⟩:∃ v,v=Z n3 a3:=⟨_,rfl⟩
 have iz:ZI 2500 z [b_ n3,s_ a3]:=by rw [hz];exact .raw n3 h3
 have sz:Sz 2500 z:=iz.sz
 obtain ⟨w,hw⟩:∃ v,v=Z n4 a4:=⟨_,rfl⟩
 have iw:ZI 2500 w [b_ n4,s_ a4]:=by rw [hw];exact .raw n4 h4
 have sw:Sz 2500 w:=iw.sz
 have vx:V a1=x.natAbs:=by rw [hx,aAN]
 have vy:V a2=y.natAbs:=by rw [hy,aAN]
 have vz:V a3=z.natAbs:=by rw [hz,aAN]
 have vw:V a4=w.natAbs:=by rw [hw,aAN]
 have q1:=aF2 h1
 have q2:=aF2 h2
 have q3:=aF2 h3
 have q4:=aF2 h4
 rw [vx] at q1
 rw [vy] at q2
 rw [vz] at q3
 rw [vw] at q4
 have l1:=aBD q1 q2
 have l2:=aBD l1 q3
 have l3:=aBD l2 q4
 have c1:=aLr h1 kQ
 rw [vx] at c1
 have c2:=aEc q1 h2 kQ
 rw [vy] at c2
 have c3:=aEc l1 h3 kQ
 rw [vz] at c3
 have c4:=aEc l2 h4 kQ
 rw [vw] at c4
 rw [<- hx,<- hy,<- hz,<- hw]
 clear vx vy vz vw hx hy hz hw
 have hfl:Nat.gcd (Nat.gcd x.natAbs y.natAbs) z.natAbs=0 ↔ x=0/\y=0/\z=0:=by
  rw [Nat.gcd_eq_zero_iff,Nat.gcd_eq_zero_iff]
  omega
 refine ⟨0,?_⟩
 have k1:aAq [b_ n1,s_ a1]=some [i_ (sgn x)]:=I1.at ix kQ
 have k2:aAq [b_ n2,s_ a2]=some [i_ (sgn y)]:=I1.at iy kQ
 have k3:aAq [b_ n3,s_ a3]=some [i_ (sgn z)]:=I1.at iz kQ
 refine gC aAq k1 (gP (aAU _ _ .i64 (sgn x) 0) (aAy (b:=sgn x == 0) kK (λ ex=>?_) (λ ex=>?_)))
 ·rw [aBI] at ex
  refine gC aAq k2 (gP (aAU _ _ .i64 (sgn y) 0) (aAy (b:=sgn y == 0) kK (λ ey=>?_) (λ ey=>?_)))
  ·rw [aBI] at ey
   refine gC aAq k3 (gP (aAU _ _ .i64 (sgn z) 0) (aAy (b:=sgn z == 0) kK (λ ez=>?_) (λ ez=>?_)))
   ·rw [aBI] at ez
    have hp:plz (x,y,z,w)=((0,0,0,0),false):=if_pos ⟨of_decide_eq_true ex,of_decide_eq_true ey,of_decide_eq_true ez⟩
    rw [hp,aHo]
    exact aAc kK
   ·rw [aBI] at ez
    have hf:¬ Flat (x,y,z,w):=λ hh=>of_decide_eq_false ez hh.2.2
    have hg:0 < (g4 x y z w:Int):=aFd (p:=(x,y,z,w)) hf
    have hp:plz (x,y,z,w)=(quo (x,y,z,w),true):=if_neg hf
    have hq:quo (x,y,z,w)=(x / (g4 x y z w:Int),y / (g4 x y z w:Int),z / (g4 x y z w:Int),w / (g4 x y z w:Int)):=rfl
    rw [hp,hq]
    obtain ⟨g,hgg⟩:∃ g,g=g4 x y z w:=⟨_,rfl⟩
    have hg':Nat.gcd (Nat.gcd (Nat.gcd x.natAbs y.natAbs) z.natAbs) w.natAbs=g:=hgg.symm
    rw [hg'] at c4 l3
    rw [<- hgg] at hg ⊢
    have sg':Sz 2500 (g:Int):=aA9 l3
    have g0:(g:Int)≠0:=by omega
    have c5:aAk [b_ false,s_ (N g)]=some (enc (g:Int)):=aGo (Nat.le_trans ((aAH _ _).2 l3) kQ)
    obtain ⟨x1,hx1⟩:∃ v,v=x / (g:Int):=⟨_,rfl⟩
    obtain ⟨y1,hy1⟩:∃ v,v=y / (g:Int):=⟨_,rfl⟩
    obtain ⟨z1,hz1⟩:∃ v,v=z / (g:Int):=⟨_,rfl⟩
    obtain ⟨v1,hv1⟩:∃ v,v=w / (g:Int):=⟨_,rfl⟩
    obtain ⟨x2,d1⟩:∃ v,aAg ([b_ n1,s_ a1]++enc (g:Int))=some (enc x1++enc v++[b_ true]):=⟨_,by rw [hx1];exact aBn ix (ZI.can sg') kQ kQ g0⟩
    obtain ⟨y2,d2⟩:∃ v,aAg ([b_ n2,s_ a2]++enc (g:Int))=some (enc y1++enc v++[b_ true]):=⟨_,by rw [hy1];exact aBn iy (ZI.can sg') kQ kQ g0⟩
    obtain ⟨z2,d3⟩:∃ v,aAg ([b_ n3,s_ a3]++enc (g:Int))=some (enc z1++enc v++[b_ true]):=⟨_,by rw [hz1];exact aBn iz (ZI.can sg') kQ kQ g0⟩
    obtain ⟨v2,d4⟩:∃ v,aAg ([b_ n4,s_ a4]++enc (g:Int))=some (enc v1++enc v++[b_ true]):=⟨_,by rw [hv1];exact aBn iw (ZI.can sg') kQ kQ g0⟩
    rw [<- hx1,<- hy1,<- hz1,<- hv1]
    clear hx1 hy1 hz1 hv1 hp hq hgg hg' hf
    exact gC aA6 c1 (gC aA6 c2 (gC aA6 c3 (gC aA6 c4 (gC aAk c5 (gC aAg d1 (gC aAg d2 (gC aAg d3 (gC aAg d4 (aAc kK)))))))))
  ·rw [aBI] at ey
   have hf:¬ Flat (x,y,z,w):=λ hh=>of_decide_eq_false ey hh.2.1
   have hg:0 < (g4 x y z w:Int):=aFd (p:=(x,y,z,w)) hf
   have hp:plz (x,y,z,w)=(quo (x,y,z,w),true):=if_neg hf
   have hq:quo (x,y,z,w)=(x / (g4 x y z w:Int),y / (g4 x y z w:Int),z / (g4 x y z w:Int),w / (g4 x y z w:Int)):=rfl
   rw [hp,hq]
   obtain ⟨g,hgg⟩:∃ g,g=g4 x y z w:=⟨_,rfl⟩
   have hg':Nat.gcd (Nat.gcd (Nat.gcd x.natAbs y.natAbs) z.natAbs) w.natAbs=g:=hgg.symm
   rw [hg'] at c4 l3
   rw [<- hgg] at hg ⊢
   have sg':Sz 2500 (g:Int):=aA9 l3
   have g0:(g:Int)≠0:=by omega
   have c5:aAk [b_ false,s_ (N g)]=some (enc (g:Int)):=aGo (Nat.le_trans ((aAH _ _).2 l3) kQ)
   obtain ⟨x1,hx1⟩:∃ v,v=x / (g:Int):=⟨_,rfl⟩
   obtain ⟨y1,hy1⟩:∃ v,v=y / (g:Int):=⟨_,rfl⟩
   obtain ⟨z1,hz1⟩:∃ v,v=z / (g:Int):=⟨_,rfl⟩
   obtain ⟨v1,hv1⟩:∃ v,v=w / (g:Int):=⟨_,rfl⟩
   obtain ⟨x2,d1⟩:∃ v,aAg ([b_ n1,s_ a1]++enc (g:Int))=some (enc x1++enc v++[b_ true]):=⟨_,by rw [hx1];exact aBn ix (ZI.can sg') kQ kQ g0⟩
   obtain ⟨y2,d2⟩:∃ v,aAg ([b_ n2,s_ a2]++enc (g:Int))=some (enc y1++enc v++[b_ true]):=⟨_,by rw [hy1];exact aBn iy (ZI.can sg') kQ kQ g0⟩
   obtain ⟨z2,d3⟩:∃ v,aAg ([b_ n3,s_ a3]++enc (g:Int))=some (enc z1++enc v++[b_ true]):=⟨_,by rw [hz1];exact aBn iz (ZI.can sg') kQ kQ g0⟩
   obtain ⟨v2,d4⟩:∃ v,aAg ([b_ n4,s_ a4]++enc (g:Int))=some (enc v1++enc v++[b_ true]):=⟨_,by rw [hv1];exact aBn iw (ZI.can sg') kQ kQ g0⟩
   rw [<- hx1,<- hy1,<- hz1,<- hv1]
   clear hx1 hy1 hz1 hv1 hp hq hgg hg' hf
   exact gC aA6 c1 (gC aA6 c2 (gC aA6 c3 (gC aA6 c4 (gC aAk c5 (gC aAg d1 (gC aAg d2 (gC aAg d3 (gC aAg d4 (aAc kK)))))))))
 ·rw [aBI] at ex
  have hf:¬ Flat (x,y,z,w):=λ hh=>of_decide_eq_false ex hh.1
  have hg:0 < (g4 x y z w:Int):=aFd (p:=(x,y,z,w)) hf
  have hp:plz (x,y,z,w)=(quo (x,y,z,w),true):=if_neg hf
  have hq:quo (x,y,z,w)=(x / (g4 x y z w:Int),y / (g4 x y z w:Int),z / (g4 x y z w:Int),w / (g4 x y z w:Int)):=rfl
  rw [hp,hq]
  obtain ⟨g,hgg⟩:∃ g,g=g4 x y z w:=⟨_,rfl⟩
  have hg':Nat.gcd (Nat.gcd (Nat.gcd x.natAbs y.natAbs) z.natAbs) w.natAbs=g:=hgg.symm
  rw [hg'] at c4 l3
  rw [<- hgg] at hg ⊢
  have sg':Sz 2500 (g:Int):=aA9 l3
  have g0:(g:Int)≠0:=by omega
  have c5:aAk [b_ false,s_ (N g)]=some (enc (g:Int)):=aGo (Nat.le_trans ((aAH _ _).2 l3) kQ)
  obtain ⟨x1,hx1⟩:∃ v,v=x / (g:Int):=⟨_,rfl⟩
  obtain ⟨y1,hy1⟩:∃ v,v=y / (g:Int):=⟨_,rfl⟩
  obtain ⟨z1,hz1⟩:∃ v,v=z / (g:Int):=⟨_,rfl⟩
  obtain ⟨v1,hv1⟩:∃ v,v=w / (g:Int):=⟨_,rfl⟩
  obtain ⟨x2,d1⟩:∃ v,aAg ([b_ n1,s_ a1]++enc (g:Int))=some (enc x1++enc v++[b_ true]):=⟨_,by rw [hx1];exact aBn ix (ZI.can sg') kQ kQ g0⟩
  obtain ⟨y2,d2⟩:∃ v,aAg ([b_ n2,s_ a2]++enc (g:Int))=some (enc y1++enc v++[b_ true]):=⟨_,by rw [hy1];exact aBn iy (ZI.can sg') kQ kQ g0⟩
  obtain ⟨z2,d3⟩:∃ v,aAg ([b_ n3,s_ a3]++enc (g:Int))=some (enc z1++enc v++[b_ true]):=⟨_,by rw [hz1];exact aBn iz (ZI.can sg') kQ kQ g0⟩
  obtain ⟨v2,d4⟩:∃ v,aAg ([b_ n4,s_ a4]++enc (g:Int))=some (enc v1++enc v++[b_ true]):=⟨_,by rw [hv1];exact aBn iw (ZI.can sg') kQ kQ g0⟩
  rw [<- hx1,<- hy1,<- hz1,<- hv1]
  clear hx1 hy1 hz1 hv1 hp hq hgg hg' hf
  exact gC aA6 c1 (gC aA6 c2 (gC aA6 c3 (gC aA6 c4 (gC aAk c5 (gC aAg d1 (gC aAg d2 (gC aAg d3 (gC aAg d4 (aAc kK)))))))))
def tbPm:Tb:=[(41,aBs)]++aQU
theorem okPm:TbOk Tryz.prog X.G tbPm:=(.cons kK aMS aQV)
set_option maxHeartbeats 2000000 in
theorem aSr:Sx.Good Tryz.prog X.G 43 ⟨[.agg 9,.agg 3],.tup [.agg 8,.one]⟩ aB8:=aAe okPm (λ _ _=>X.G_below) 400 kK (by kernel_rfl:_=some aGL) λ ds rs h=>by
 obtain ⟨⟨pv,pd⟩,⟨ev,ed,hv,hd,rfl⟩,rfl⟩:=Fo.inv (aDe 600) h
 obtain ⟨n1,a1,b1,n2,a2,b2,n3,a3,b3,rfl,h1,g1,h2,g2,h3,g3,rfl⟩:=VI.inv hv
 obtain ⟨n4,a4,b4,rfl,h4,g4,rfl⟩:=hd
 show ∃ kk,aGL.run _ _ kk _ _=some (aBR (plv (qv n1 a1 b1,qv n2 a2 b2,qv n3 a3 b3,qv n4 a4 b4)))
 obtain ⟨x,hx⟩:∃ v,v=qv n1 a1 b1:=⟨_,rfl⟩
 have ix:RI 600 x [b_ n1,s_ a1,s_ b1]:=by rw [hx];exact .raw n1 h1 g1
 have sx:Sq 600 x:=ix.sq kQ
 obtain ⟨y,hy⟩:∃ v,v=qv n2 a2 b2:=⟨_,rfl⟩
 have iy:RI 600 y [b_ n2,s_ a2,s_ b2]:=by rw [hy];exact .raw n2 h2 g2
 have sy:Sq 600 y:=iy.sq kQ
 obtain ⟨z,hz⟩:∃ v,v=qv n3 a3 b3:=⟨_,rfl⟩
 have iz:RI 600 z [b_ n3,s_ a3,s_ b3]:=by rw [hz];exact .raw n3 h3 g3
 have sz:Sq 600 z:=iz.sq kQ
 obtain ⟨w,hw⟩:∃ v,v=qv n4 a4 b4:=⟨_,rfl⟩
 have iw:RI 600 w [b_ n4,s_ a4,s_ b4]:=by rw [hw];exact .raw n4 h4 g4
 have sw:Sq 600 w:=iw.sq kQ
 rw [<- hx,<- hy,<- hz,<- hw]
 clear hx hy hz hw
 have kx:aAm [b_ n1,s_ a1,s_ b1]=some (enc x.num++enc (x.den:Int)):=R1.at ix kQ
 have ky:aAm [b_ n2,s_ a2,s_ b2]=some (enc y.num++enc (y.den:Int)):=R1.at iy kQ
 have kz:aAm [b_ n3,s_ a3,s_ b3]=some (enc z.num++enc (z.den:Int)):=R1.at iz kQ
 have kw:aAm [b_ n4,s_ a4,s_ b4]=some (enc w.num++enc (w.den:Int)):=R1.at iw kQ
 have hv:plv (x,y,z,w)=plz (x.num*((y.den:Int)*z.den*w.den),y.num*((x.den:Int)*z.den*w.den),z.num*((x.den:Int)*y.den*w.den),w.num*((x.den:Int)*y.den*z.den)):=rfl
 rw [hv]
 clear hv
 have nx:=aBr x
 obtain ⟨tx,ux⟩:=sx
 generalize x.num=mx at *
 generalize (x.den:Int)=dx at *
 have ny:=aBr y
 obtain ⟨ty,uy⟩:=sy
 generalize y.num=my at *
 generalize (y.den:Int)=dy at *
 have nz:=aBr z
 obtain ⟨tz,uz⟩:=sz
 generalize z.num=mz at *
 generalize (z.den:Int)=dz at *
 have nw:=aBr w
 obtain ⟨tw,uw⟩:=sw
 generalize w.num=mw at *
 generalize (w.den:Int)=dw at *
 obtain ⟨o,ho⟩:∃ o,o=(1:Int):=⟨_,rfl⟩
 have so:Sz 1 o:=by rw [ho];exact Sz.one
 have co:F_ifrom [i_ 1]=some (enc o):=by rw [ho];exact F_ifrom.eq kQ kQ
 obtain ⟨r1,hr1⟩:∃ v,v=o*dx:=⟨_,rfl⟩
 have sr1:Sz 601 r1:=by rw [hr1];exact so.mul ux
 have cr1:aAd (enc o++enc dx)=some (enc r1):=by rw [hr1];exact I2.at (ZI.can so) (ZI.can ux) kQ kQ
 obtain ⟨r2,hr2⟩:∃ v,v=r1*dy:=⟨_,rfl⟩
 have sr2:Sz 1201 r2:=by rw [hr2];exact sr1.mul uy
 have cr2:aAd (enc r1++enc dy)=some (enc r2):=by rw [hr2];exact I2.at (ZI.can sr1) (ZI.can uy) kQ kQ
 obtain ⟨r3,hr3⟩:∃ v,v=r2*dz:=⟨_,rfl⟩
 have sr3:Sz 1801 r3:=by rw [hr3];exact sr2.mul uz
 have cr3:aAd (enc r2++enc dz)=some (enc r3):=by rw [hr3];exact I2.at (ZI.can sr2) (ZI.can uz) kQ kQ
 obtain ⟨r4,hr4⟩:∃ v,v=r3*dw:=⟨_,rfl⟩
 have sr4:Sz 2401 r4:=by rw [hr4];exact sr3.mul uw
 have cr4:aAd (enc r3++enc dw)=some (enc r4):=by rw [hr4];exact I2.at (ZI.can sr3) (ZI.can uw) kQ kQ
 obtain ⟨q5,hq5⟩:∃ v,v=r4 / dx:=⟨_,rfl⟩
 have sq5:Sz 2401 q5:=by rw [hq5];exact aBi sr4
 obtain ⟨q5',cq5⟩:∃ v,aAg (enc r4++enc dx)=some (enc q5++enc v++[b_ true]):=⟨_,by rw [hq5];exact aBn (ZI.can sr4) (ZI.can ux) kQ kQ nx⟩
 have eq5:q5=dy*dz*dw:=by rw [hq5,hr4,hr3,hr2,hr1,ho,show 1*dx*dy*dz*dw=dx*(dy*dz*dw) by grind];exact Int.mul_ediv_cancel_left _ nx
 obtain ⟨r6,hr6⟩:∃ v,v=mx*q5:=⟨_,rfl⟩
 have sr6:Sz 3001 r6:=by rw [hr6];exact tx.mul sq5
 have cr6:aAd (enc mx++enc q5)=some (enc r6):=by rw [hr6];exact I2.at (ZI.can tx) (ZI.can sq5) kQ kQ
 obtain ⟨q7,hq7⟩:∃ v,v=r4 / dy:=⟨_,rfl⟩
 have sq7:Sz 2401 q7:=by rw [hq7];exact aBi sr4
 obtain ⟨q7',cq7⟩:∃ v,aAg (enc r4++enc dy)=some (enc q7++enc v++[b_ true]):=⟨_,by rw [hq7];exact aBn (ZI.can sr4) (ZI.can uy) kQ kQ ny⟩
 have eq7:q7=dx*dz*dw:=by rw [hq7,hr4,hr3,hr2,hr1,ho,show 1*dx*dy*dz*dw=dy*(dx*dz*dw) by grind];exact Int.mul_ediv_cancel_left _ ny
 obtain ⟨r8,hr8⟩:∃ v,v=my*q7:=⟨_,rfl⟩
 have sr8:Sz 3001 r8:=by rw [hr8];exact ty.mul sq7
 have cr8:aAd (enc my++enc q7)=some (enc r8):=by rw [hr8];exact I2.at (ZI.can ty) (ZI.can sq7) kQ kQ
 obtain ⟨q9,hq9⟩:∃ v,v=r4 / dz:=⟨_,rfl⟩
 have sq9:Sz 2401 q9:=by rw [hq9];exact aBi sr4
 obtain ⟨q9',cq9⟩:∃ v,aAg (enc r4++enc dz)=some (enc q9++enc v++[b_ true]):=⟨_,by rw [hq9];exact aBn (ZI.can sr4) (ZI.can uz) kQ kQ nz⟩
 have eq9:q9=dx*dy*dw:=by rw [hq9,hr4,hr3,hr2,hr1,ho,show 1*dx*dy*dz*dw=dz*(dx*dy*dw) by grind];exact Int.mul_ediv_cancel_left _ nz
 obtain ⟨r10,hr10⟩:∃ v,v=mz*q9:=⟨_,rfl⟩
 have sr10:Sz 3001 r10:=by rw [hr10];exact tz.mul sq9
 have cr10:aAd (enc mz++enc q9)=some (enc r10):=by rw [hr10];exact I2.at (ZI.can tz) (ZI.can sq9) kQ kQ
 obtain ⟨q11,hq11⟩:∃ v,v=r4 / dw:=⟨_,rfl⟩
 have sq11:Sz 2401 q11:=by rw [hq11];exact aBi sr4
 obtain ⟨q11',cq11⟩:∃ v,aAg (enc r4++enc dw)=some (enc q11++enc v++[b_ true]):=⟨_,by rw [hq11];exact aBn (ZI.can sr4) (ZI.can uw) kQ kQ nw⟩
 have eq11:q11=dx*dy*dz:=by rw [hq11,hr4,hr3,hr2,hr1,ho,show 1*dx*dy*dz*dw=dw*(dx*dy*dz) by grind];exact Int.mul_ediv_cancel_left _ nw
 obtain ⟨r12,hr12⟩:∃ v,v=mw*q11:=⟨_,rfl⟩
 have sr12:Sz 3001 r12:=by rw [hr12];exact tw.mul sq11
 have cr12:aAd (enc mw++enc q11)=some (enc r12):=by rw [hr12];exact I2.at (ZI.can tw) (ZI.can sq11) kQ kQ
 have Ex:r6=mx*(dy*dz*dw):=by rw [hr6,eq5]
 have Gx:Sz 2400 r6:=by rw [Ex];exact tx.mul ((uy.mul uz).mul uw)
 have Ey:r8=my*(dx*dz*dw):=by rw [hr8,eq7]
 have Gy:Sz 2400 r8:=by rw [Ey];exact ty.mul ((ux.mul uz).mul uw)
 have Ez:r10=mz*(dx*dy*dw):=by rw [hr10,eq9]
 have Gz:Sz 2400 r10:=by rw [Ez];exact tz.mul ((ux.mul uy).mul uw)
 have Ew:r12=mw*(dx*dy*dz):=by rw [hr12,eq11]
 have Gw:Sz 2400 r12:=by rw [Ew];exact tw.mul ((ux.mul uy).mul uz)
 rw [<- Ex,<- Ey,<- Ez,<- Ew]
 clear Ex Ey Ez Ew
 clear eq5 eq7 eq9 eq11
 clear ho hr1 hr2 hr3 hr4 hq5 hr6 hq7 hr8 hq9 hr10 hq11 hr12
 have fin:aBs (enc4 (r6,r8,r10,r12))=some (aBR (plz (r6,r8,r10,r12))):=Fo.eq (aAt 2500) (PI.can ⟨Gx.le kQ,Gy.le kQ,Gz.le kQ,Gw.le kQ⟩)
 generalize plz (r6,r8,r10,r12)=Q at *
 obtain ⟨Q,k⟩:=Q
 refine ⟨0,?_⟩
 refine gC F_ifrom co ?_
 refine gC aAm kx ?_
 refine gC aAd cr1 ?_
 refine gC aAm ky ?_
 refine gC aAd cr2 ?_
 refine gC aAm kz ?_
 refine gC aAd cr3 ?_
 refine gC aAm kw ?_
 refine gC aAd cr4 ?_
 refine gC aAm kx ?_
 refine gC aAg cq5 ?_
 refine gC aAd cr6 ?_
 refine gC aAm ky ?_
 refine gC aAg cq7 ?_
 refine gC aAd cr8 ?_
 refine gC aAm kz ?_
 refine gC aAg cq9 ?_
 refine gC aAd cr10 ?_
 refine gC aAm kw ?_
 refine gC aAg cq11 ?_
 refine gC aAd cr12 ?_
 refine gC aBs fin ?_
 exact aAc kK
theorem aTq:Sx.Good Tryz.prog X.G 112 ⟨[.agg 2,.agg 2],.v1 .one⟩ aBf:=aAe aKo (λ _ _=>X.G_below) 400 kK (by kernel_rfl:_=some aHh) λ ds rs h=>by
 obtain ⟨n,a,m,b,rfl,ha,hb,rfl⟩:=I2.inv h
 obtain ⟨x,hx⟩:∃ v,v=Z n a:=⟨_,rfl⟩
 obtain ⟨y,hy⟩:∃ v,v=Z m b:=⟨_,rfl⟩
 have sx:Sz 9000 x:=by rw [hx];exact .of ha
 have sy:Sz 9000 y:=by rw [hy];exact .of hb
 have c1:aBb [b_ n,s_ a,b_ m,s_ b]=some (enc (x - y)):=by rw [hx,hy];exact I2.eq ha hb
 have c2:aAq (enc (x - y))=some [i_ (sgn (x - y))]:=I1.can ((sx.sub sy).le kQ)
 rw [<- hx,<- hy]
 generalize x - y=v at *
 exact ⟨0,gC aBb c1 (gC aAq c2 (aAc kK))⟩
def tbPc:Tb:=[(112,aBf)]++aQY
theorem okPc:TbOk Tryz.prog X.G tbPc:=(.cons kK aTq aKo)
set_option maxHeartbeats 2000000 in
theorem aJ5:Sx.Good Tryz.prog X.G 60 ⟨[.agg 8],.tup [.one,.one]⟩ aA8:=aAe okPc (λ _ _=>X.G_below) 400 kK (by kernel_rfl:_=some aGM) λ ds rs h=>by
 obtain ⟨p,hp,rfl⟩:=Fo.inv (aAt 2000) h
 obtain ⟨n1,a1,n2,a2,n3,a3,n4,a4,rfl,h1,h2,h3,h4,rfl⟩:=hp.inv
 show ∃ kk,aGM.run _ _ kk _ _=some [i_ (axz (Z n1 a1,Z n2 a2,Z n3 a3,Z n4 a4):Int),b_ (decide (sgn (ix3 (Z n1 a1,Z n2 a2,Z n3 a3,Z n4 a4) (axz (Z n1 a1,Z n2 a2,Z n3 a3,Z n4 a4))) > 0))]
 obtain ⟨x,hx⟩:∃ v,v=Z n1 a1:=⟨_,rfl⟩
 have ix:ZI 2000 x [b_ n1,s_ a1]:=by rw [hx];exact .raw n1 h1
 have sx:Sz 2000 x:=ix.sz
 obtain ⟨y,hy⟩:∃ v,v=Z n2 a2:=⟨_,rfl⟩
 have iy:ZI 2000 y [b_ n2,s_ a2]:=by rw [hy];exact .raw n2 h2
 have sy:Sz 2000 y:=iy.sz
 obtain ⟨z,hz⟩:∃ v,v=Z n3 a3:=⟨_,rfl⟩
 have iz:ZI 2000 z [b_ n3,s_ a3]:=by rw [hz];exact .raw n3 h3
 have sz:Sz 2000 z:=iz.sz
 generalize Z n4 a4=w at *
 have jx:ZI 2000 (x.natAbs:Int) [b_ false,s_ a1]:=by rw [hx,aAN];exact .raw false h1
 have kx:aAq [b_ n1,s_ a1]=some [i_ (sgn x)]:=I1.at ix kQ
 have jy:ZI 2000 (y.natAbs:Int) [b_ false,s_ a2]:=by rw [hy,aAN];exact .raw false h2
 have ky:aAq [b_ n2,s_ a2]=some [i_ (sgn y)]:=I1.at iy kQ
 have jz:ZI 2000 (z.natAbs:Int) [b_ false,s_ a3]:=by rw [hz,aAN];exact .raw false h3
 have kz:aAq [b_ n3,s_ a3]=some [i_ (sgn z)]:=I1.at iz kQ
 rw [<- hx,<- hy,<- hz]
 clear hx hy hz
 have cyz:aBf ([b_ false,s_ a2]++[b_ false,s_ a3])=some [i_ (sgn ((y.natAbs:Int) - (z.natAbs:Int)))]:=I2.at jy jz kQ kQ
 have tyz:sgn ((y.natAbs:Int) - (z.natAbs:Int)) > 0 ↔ z.natAbs < y.natAbs:=by rw [aGm];omega
 generalize sgn ((y.natAbs:Int) - (z.natAbs:Int))=Syz at *
 have cxy:aBf ([b_ false,s_ a1]++[b_ false,s_ a2])=some [i_ (sgn ((x.natAbs:Int) - (y.natAbs:Int)))]:=I2.at jx jy kQ kQ
 have txy:sgn ((x.natAbs:Int) - (y.natAbs:Int)) > 0 ↔ y.natAbs < x.natAbs:=by rw [aGm];omega
 generalize sgn ((x.natAbs:Int) - (y.natAbs:Int))=Sxy at *
 have cxz:aBf ([b_ false,s_ a1]++[b_ false,s_ a3])=some [i_ (sgn ((x.natAbs:Int) - (z.natAbs:Int)))]:=I2.at jx jz kQ kQ
 have txz:sgn ((x.natAbs:Int) - (z.natAbs:Int)) > 0 ↔ z.natAbs < x.natAbs:=by rw [aGm];omega
 generalize sgn ((x.natAbs:Int) - (z.natAbs:Int))=Sxz at *
 refine ⟨0,?_⟩
 refine gC aBf cyz (gP (aAz _ _ .i64 Syz 0) (aAy (b:=decide (Syz > 0)) kK (λ h1=>?_) (λ h1=>?_)))
 ·refine gC aBf cxy (gP (aAz _ _ .i64 Sxy 0) (aAy (b:=decide (Sxy > 0)) kK (λ h2=>?_) (λ h2=>?_)))
  ·have ha:axz (x,y,z,w)=0:=by unfold axz;dsimp only;rw [if_pos (tyz.1 (of_decide_eq_true h1)),if_pos (txy.1 (of_decide_eq_true h2))]
   have hi:ix3 (x,y,z,w) 0=x:=rfl
   rw [ha,hi]
   exact gC aAq kx (gP (aAz _ _ .i64 (sgn x) 0) (aAc kK))
  ·have ha:axz (x,y,z,w)=1:=by unfold axz;dsimp only;rw [if_pos (tyz.1 (of_decide_eq_true h1)),if_neg (mt txy.2 (of_decide_eq_false h2))]
   have hi:ix3 (x,y,z,w) 1=y:=rfl
   rw [ha,hi]
   exact gC aAq ky (gP (aAz _ _ .i64 (sgn y) 0) (aAc kK))
 ·refine gC aBf cxz (gP (aAz _ _ .i64 Sxz 0) (aAy (b:=decide (Sxz > 0)) kK (λ h2=>?_) (λ h2=>?_)))
  ·have ha:axz (x,y,z,w)=0:=by unfold axz;dsimp only;rw [if_neg (mt tyz.2 (of_decide_eq_false h1)),if_pos (txz.1 (of_decide_eq_true h2))]
   have hi:ix3 (x,y,z,w) 0=x:=rfl
   rw [ha,hi]
   exact gC aAq kx (gP (aAz _ _ .i64 (sgn x) 0) (aAc kK))
  ·have ha:axz (x,y,z,w)=2:=by unfold axz;dsimp only;rw [if_neg (mt tyz.2 (of_decide_eq_false h1)),if_neg (mt txz.2 (of_decide_eq_false h2))]
   have hi:ix3 (x,y,z,w) 2=z:=rfl
   rw [ha,hi]
   exact gC aAq kz (gP (aAz _ _ .i64 (sgn z) 0) (aAc kK))
def tbPo:Tb:=[(60,aA8),(43,aB8)]++aQW
theorem okPo:TbOk Tryz.prog X.G tbPo:=(.cons kK aJ5 (.cons kK aSr aQX))
set_option maxHeartbeats 2000000 in
theorem aTr:Sx.Good Tryz.prog X.G 64 ⟨[.agg 8,.agg 3],.v1 (.agg 8)⟩ aDd:=aAe okPo (λ _ _=>X.G_below) 400 kK (by kernel_rfl:_=some aGh) λ ds rs h=>by
 obtain ⟨⟨p,q⟩,⟨e1,e2,hp,hq,rfl⟩,rfl⟩:=Fo.inv (aIt 100) h
 obtain ⟨n1,a1,n2,a2,n3,a3,n4,a4,rfl,h1,h2,h3,h4,rfl⟩:=PI.inv hp
 obtain ⟨n,a,b,rfl,ha,hb,rfl⟩:=hq
 show ∃ kk,aGh.run _ _ kk _ _=some (enc4 (off (Z n1 a1,Z n2 a2,Z n3 a3,Z n4 a4) (qv n a b)).1)
 have k0:aA8 [b_ n1,s_ a1,b_ n2,s_ a2,b_ n3,s_ a3,b_ n4,s_ a4]=some [i_ (axz (Z n1 a1,Z n2 a2,Z n3 a3,Z n4 a4):Int),b_ (decide (sgn (ix3 (Z n1 a1,Z n2 a2,Z n3 a3,Z n4 a4) (axz (Z n1 a1,Z n2 a2,Z n3 a3,Z n4 a4))) > 0))]:=Fo.eq (aAt 2000) (hp.le kQ)
 obtain ⟨x,hx⟩:∃ v,v=Z n1 a1:=⟨_,rfl⟩
 have ix:ZI 100 x [b_ n1,s_ a1]:=by rw [hx];exact .raw n1 h1
 have sx:Sz 100 x:=ix.sz
 obtain ⟨y,hy⟩:∃ v,v=Z n2 a2:=⟨_,rfl⟩
 have iy:ZI 100 y [b_ n2,s_ a2]:=by rw [hy];exact .raw n2 h2
 have sy:Sz 100 y:=iy.sz
 obtain ⟨z,hz⟩:∃ v,v=Z n3 a3:=⟨_,rfl⟩
 have iz:ZI 100 z [b_ n3,s_ a3]:=by rw [hz];exact .raw n3 h3
 have sz:Sz 100 z:=iz.sz
 obtain ⟨w,hw⟩:∃ v,v=Z n4 a4:=⟨_,rfl⟩
 have iw:ZI 100 w [b_ n4,s_ a4]:=by rw [hw];exact .raw n4 h4
 have sw:Sz 100 w:=iw.sz
 obtain ⟨t,ht⟩:∃ v,v=qv n a b:=⟨_,rfl⟩
 have it:RI 100 t [b_ n,s_ a,s_ b]:=by rw [ht];exact .raw n ha hb
 have st:Sq 100 t:=it.sq kQ
 have jx:ZI 100 (x.natAbs:Int) [b_ false,s_ a1]:=by rw [hx,aAN];exact .raw false h1
 have jy:ZI 100 (y.natAbs:Int) [b_ false,s_ a2]:=by rw [hy,aAN];exact .raw false h2
 have jz:ZI 100 (z.natAbs:Int) [b_ false,s_ a3]:=by rw [hz,aAN];exact .raw false h3
 rw [<- hx,<- hy,<- hz,<- hw] at k0 ⊢
 rw [<- ht]
 clear hx hy hz hw ht
 generalize decide (sgn (ix3 (x,y,z,w) (axz (x,y,z,w))) > 0)=up at *
 obtain ⟨o,ho⟩:∃ o,o=(1:Int):=⟨_,rfl⟩
 have so:Sz 1 o:=by rw [ho];exact Sz.one
 have co:F_ifrom [i_ 1]=some (enc o):=by rw [ho];exact F_ifrom.eq kQ kQ
 obtain ⟨r1,hr1⟩:∃ v,v=((x:Int):Rat):=⟨_,rfl⟩
 have sr1:Sq 100 r1:=by rw [hr1];exact aAI kQ sx
 have cr1:aAi ([b_ n1,s_ a1]++enc o)=some (encR r1++[b_ true]):=by rw [hr1,ho];exact aAM ix kQ
 obtain ⟨r2,hr2⟩:∃ v,v=((y:Int):Rat):=⟨_,rfl⟩
 have sr2:Sq 100 r2:=by rw [hr2];exact aAI kQ sy
 have cr2:aAi ([b_ n2,s_ a2]++enc o)=some (encR r2++[b_ true]):=by rw [hr2,ho];exact aAM iy kQ
 obtain ⟨r3,hr3⟩:∃ v,v=((z:Int):Rat):=⟨_,rfl⟩
 have sr3:Sq 100 r3:=by rw [hr3];exact aAI kQ sz
 have cr3:aAi ([b_ n3,s_ a3]++enc o)=some (encR r3++[b_ true]):=by rw [hr3,ho];exact aAM iz kQ
 obtain ⟨r4,hr4⟩:∃ v,v=((w:Int):Rat):=⟨_,rfl⟩
 have sr4:Sq 100 r4:=by rw [hr4];exact aAI kQ sw
 have cr4:aAi ([b_ n4,s_ a4]++enc o)=some (encR r4++[b_ true]):=by rw [hr4,ho];exact aAM iw kQ
 refine ⟨0,?_⟩
 rcases aCA (x,y,z,w) with e | e | e
 ·obtain ⟨nn,hnn⟩:∃ v,v=(x.natAbs:Int):=⟨_,rfl⟩
  have jn:ZI 100 nn [b_ false,s_ a1]:=by rw [hnn];exact jx
  have hab:aEa (x,y,z,w)=((nn:Int):Rat):=by unfold aEa;rw [e,hnn];rfl
  have sn:Sz 100 nn:=jn.sz
  obtain ⟨r22,hr22⟩:∃ v,v=((nn:Int):Rat):=⟨_,rfl⟩
  have sr22:Sq 100 r22:=by rw [hr22];exact aAI kQ sn
  have cr22:aAi ([b_ false,s_ a1]++enc o)=some (encR r22++[b_ true]):=by rw [hr22,ho];exact aAM jn kQ
  obtain ⟨r23,hr23⟩:∃ v,v=t*r22:=⟨_,rfl⟩
  have sr23:Sq 200 r23:=by rw [hr23];exact Sq.mul kQ st sr22
  have cr23:aAx ([b_ n,s_ a,s_ b]++encR r22)=some (encR r23):=by rw [hr23];exact R2.at it (RI.can sr22) kQ kQ
  obtain ⟨r24,hr24⟩:∃ v,v=r4+r23:=⟨_,rfl⟩
  have sr24:Sq 301 r24:=by rw [hr24];exact Sq.add sr4 sr23
  have cr24:aBk (encR r4++encR r23)=some (encR r24):=by rw [hr24];exact R2.at (RI.can sr4) (RI.can sr23) kQ kQ
  have E:off (x,y,z,w) t=plv (r1,r2,r3,r24):=by unfold off;rw [hab,hr1,hr2,hr3,hr24,hr23,hr4,hr22]
  rw [E]
  have fin:aB8 ((encR r1++(encR r2++encR r3))++encR r24)=some (aBR (plv (r1,r2,r3,r24))):=Fo.eq (v:=((r1,r2,r3),r24)) (aDe 600) (And2.mk' (VI.can ⟨sr1.le kQ,sr2.le kQ,sr3.le kQ⟩) (RI.can (sr24.le kQ)))
  generalize plv (r1,r2,r3,r24)=Q at *
  obtain ⟨Q,kq⟩:=Q
  rw [e] at k0
  clear E hab e hnn ho hr1 hr2 hr3 hr4 hr22 hr23 hr24
  refine gC aA8 k0 ?_
  refine gC F_ifrom co ?_
  refine gC aAi cr1 ?_
  refine gC F_ifrom co ?_
  refine gC aAi cr2 ?_
  refine gC F_ifrom co ?_
  refine gC aAi cr3 ?_
  refine gC F_ifrom co ?_
  refine gC aAi cr4 ?_
  refine aD5 (k:=.i64) (i:=11) (j:=0) kK ?_
  refine gC F_ifrom co ?_
  refine gC aAi cr22 ?_
  refine gC aAx cr23 ?_
  refine gC aBk cr24 ?_
  refine gC aB8 fin ?_
  exact aAc kK
 ·obtain ⟨nn,hnn⟩:∃ v,v=(y.natAbs:Int):=⟨_,rfl⟩
  have jn:ZI 100 nn [b_ false,s_ a2]:=by rw [hnn];exact jy
  have hab:aEa (x,y,z,w)=((nn:Int):Rat):=by unfold aEa;rw [e,hnn];rfl
  have sn:Sz 100 nn:=jn.sz
  obtain ⟨r22,hr22⟩:∃ v,v=((nn:Int):Rat):=⟨_,rfl⟩
  have sr22:Sq 100 r22:=by rw [hr22];exact aAI kQ sn
  have cr22:aAi ([b_ false,s_ a2]++enc o)=some (encR r22++[b_ true]):=by rw [hr22,ho];exact aAM jn kQ
  obtain ⟨r23,hr23⟩:∃ v,v=t*r22:=⟨_,rfl⟩
  have sr23:Sq 200 r23:=by rw [hr23];exact Sq.mul kQ st sr22
  have cr23:aAx ([b_ n,s_ a,s_ b]++encR r22)=some (encR r23):=by rw [hr23];exact R2.at it (RI.can sr22) kQ kQ
  obtain ⟨r24,hr24⟩:∃ v,v=r4+r23:=⟨_,rfl⟩
  have sr24:Sq 301 r24:=by rw [hr24];exact Sq.add sr4 sr23
  have cr24:aBk (encR r4++encR r23)=some (encR r24):=by rw [hr24];exact R2.at (RI.can sr4) (RI.can sr23) kQ kQ
  have E:off (x,y,z,w) t=plv (r1,r2,r3,r24):=by unfold off;rw [hab,hr1,hr2,hr3,hr24,hr23,hr4,hr22]
  rw [E]
  have fin:aB8 ((encR r1++(encR r2++encR r3))++encR r24)=some (aBR (plv (r1,r2,r3,r24))):=Fo.eq (v:=((r1,r2,r3),r24)) (aDe 600) (And2.mk' (VI.can ⟨sr1.le kQ,sr2.le kQ,sr3.le kQ⟩) (RI.can (sr24.le kQ)))
  generalize plv (r1,r2,r3,r24)=Q at *
  obtain ⟨Q,kq⟩:=Q
  rw [e] at k0
  clear E hab e hnn ho hr1 hr2 hr3 hr4 hr22 hr23 hr24
  refine gC aA8 k0 ?_
  refine gC F_ifrom co ?_
  refine gC aAi cr1 ?_
  refine gC F_ifrom co ?_
  refine gC aAi cr2 ?_
  refine gC F_ifrom co ?_
  refine gC aAi cr3 ?_
  refine gC F_ifrom co ?_
  refine gC aAi cr4 ?_
  refine aCc (k:=.i64) (n:=1) (i:=11) (j:=0) kK kQ (?_)
  refine aD5 (k:=.i64) (i:=11) (j:=1) kK ?_
  refine gC F_ifrom co ?_
  refine gC aAi cr22 ?_
  refine gC aAx cr23 ?_
  refine gC aBk cr24 ?_
  refine gC aB8 fin ?_
  exact aAc kK
 ·obtain ⟨nn,hnn⟩:∃ v,v=(z.natAbs:Int):=⟨_,rfl⟩
  have jn:ZI 100 nn [b_ false,s_ a3]:=by rw [hnn];exact jz
  have hab:aEa (x,y,z,w)=((nn:Int):Rat):=by unfold aEa;rw [e,hnn];rfl
  have sn:Sz 100 nn:=jn.sz
  obtain ⟨r22,hr22⟩:∃ v,v=((nn:Int):Rat):=⟨_,rfl⟩
  have sr22:Sq 100 r22:=by rw [hr22];exact aAI kQ sn
  have cr22:aAi ([b_ false,s_ a3]++enc o)=some (encR r22++[b_ true]):=by rw [hr22,ho];exact aAM jn kQ
  obtain ⟨r23,hr23⟩:∃ v,v=t*r22:=⟨_,rfl⟩
  have sr23:Sq 200 r23:=by rw [hr23];exact Sq.mul kQ st sr22
  have cr23:aAx ([b_ n,s_ a,s_ b]++encR r22)=some (encR r23):=by rw [hr23];exact R2.at it (RI.can sr22) kQ kQ
  obtain ⟨r24,hr24⟩:∃ v,v=r4+r23:=⟨_,rfl⟩
  have sr24:Sq 301 r24:=by rw [hr24];exact Sq.add sr4 sr23
  have cr24:aBk (encR r4++encR r23)=some (encR r24):=by rw [hr24];exact R2.at (RI.can sr4) (RI.can sr23) kQ kQ
  have E:off (x,y,z,w) t=plv (r1,r2,r3,r24):=by unfold off;rw [hab,hr1,hr2,hr3,hr24,hr23,hr4,hr22]
  rw [E]
  have fin:aB8 ((encR r1++(encR r2++encR r3))++encR r24)=some (aBR (plv (r1,r2,r3,r24))):=Fo.eq (v:=((r1,r2,r3),r24)) (aDe 600) (And2.mk' (VI.can ⟨sr1.le kQ,sr2.le kQ,sr3.le kQ⟩) (RI.can (sr24.le kQ)))
  generalize plv (r1,r2,r3,r24)=Q at *
  obtain ⟨Q,kq⟩:=Q
  rw [e] at k0
  clear E hab e hnn ho hr1 hr2 hr3 hr4 hr22 hr23 hr24
  refine gC aA8 k0 ?_
  refine gC F_ifrom co ?_
  refine gC aAi cr1 ?_
  refine gC F_ifrom co ?_
  refine gC aAi cr2 ?_
  refine gC F_ifrom co ?_
  refine gC aAi cr3 ?_
  refine gC F_ifrom co ?_
  refine gC aAi cr4 ?_
  refine aCc (k:=.i64) (n:=2) (i:=11) (j:=0) kK kQ (aCc (k:=.i64) (n:=2) (i:=11) (j:=1) kK kQ (?_))
  refine aD5 (k:=.i64) (i:=11) (j:=2) kK ?_
  refine gC F_ifrom co ?_
  refine gC aAi cr22 ?_
  refine gC aAx cr23 ?_
  refine gC aBk cr24 ?_
  refine gC aB8 fin ?_
  exact aAc kK
end Go.Proofs.YtjefbecmeobegaaGreatDoor.Sp
namespace Go.Proofs.YtjefbecmeobegaaGreatDoor.Sp
open Go Go.RowKit Sx NatA NatB NatC NatD NatI NatJ IntZ RatZ PtZ PlZ
set_option maxHeartbeats 2000000 in
theorem g_lproj:Sx.Good Tryz.prog X.G 61 ⟨[.agg 8,.agg 8],.v1 (.agg 8)⟩ aCO:=aAe aNH (λ _ _=>X.G_below) 400 kK (by kernel_rfl:_=some aJw) λ ds rs h=>by
 obtain ⟨⟨p,q⟩,⟨e1,e2,hp,hq,rfl⟩,rfl⟩:=Fo.inv (aHp 40 120) h
 obtain ⟨n1,a1,n2,a2,n3,a3,n4,a4,rfl,h1,h2,h3,h4,rfl⟩:=PI.inv hp
 obtain ⟨m1,b1,m2,b2,m3,b3,m4,b4,rfl,g1,g2,g3,g4,rfl⟩:=PI.inv hq
 show ∃ kk,aJw.run _ _ kk _ _=some (aAF (prj (Z n1 a1,Z n2 a2,Z n3 a3,Z n4 a4) (pv4 (Z m1 b1,Z m2 b2,Z m3 b3,Z m4 b4))))
 have k0:aA8 [b_ n1,s_ a1,b_ n2,s_ a2,b_ n3,s_ a3,b_ n4,s_ a4]=some [i_ (axz (Z n1 a1,Z n2 a2,Z n3 a3,Z n4 a4):Int),b_ (decide (sgn (ix3 (Z n1 a1,Z n2 a2,Z n3 a3,Z n4 a4) (axz (Z n1 a1,Z n2 a2,Z n3 a3,Z n4 a4))) > 0))]:=Fo.eq (aAt 2000) (hp.le kQ)
 obtain ⟨u,hu⟩:∃ v,v=pv4 (Z m1 b1,Z m2 b2,Z m3 b3,Z m4 b4):=⟨_,rfl⟩
 have su:Sv 120 u:=by rw [hu];exact Sv.pv4 kQ ⟨.of g1,.of g2,.of g3,.of g4⟩
 have kc:aAr [b_ m1,s_ b1,b_ m2,s_ b2,b_ m3,s_ b3,b_ m4,s_ b4]=some (aCB u):=by rw [hu];exact Fo.eq (aAt 1500) (hq.le kQ)
 rw [<- hu]
 clear hu hp hq
 obtain ⟨u1,u2,u3⟩:=u
 obtain ⟨v1,v2,v3⟩:=su
 dsimp only at v1 v2 v3
 have kc:aAr [b_ m1,s_ b1,b_ m2,s_ b2,b_ m3,s_ b3,b_ m4,s_ b4]=some (encR u1++(encR u2++encR u3)):=kc
 obtain ⟨x,hx⟩:∃ v,v=Z n1 a1:=⟨_,rfl⟩
 have ix:ZI 40 x [b_ n1,s_ a1]:=by rw [hx];exact .raw n1 h1
 have sx:Sz 40 x:=ix.sz
 obtain ⟨y,hy⟩:∃ v,v=Z n2 a2:=⟨_,rfl⟩
 have iy:ZI 40 y [b_ n2,s_ a2]:=by rw [hy];exact .raw n2 h2
 have sy:Sz 40 y:=iy.sz
 obtain ⟨z,hz⟩:∃ v,v=Z n3 a3:=⟨_,rfl⟩
 have iz:ZI 40 z [b_ n3,s_ a3]:=by rw [hz];exact .raw n3 h3
 have sz:Sz 40 z:=iz.sz
 obtain ⟨w,hw⟩:∃ v,v=Z n4 a4:=⟨_,rfl⟩
 have iw:ZI 40 w [b_ n4,s_ a4]:=by rw [hw];exact .raw n4 h4
 have sw:Sz 40 w:=iw.sz
 rw [<- hx,<- hy,<- hz,<- hw] at k0 ⊢
 clear hx hy hz hw
 generalize decide (sgn (ix3 (x,y,z,w) (axz (x,y,z,w))) > 0)=up at *
 obtain ⟨o,ho⟩:∃ o,o=(1:Int):=⟨_,rfl⟩
 have so:Sz 1 o:=by rw [ho];exact Sz.one
 have co:F_ifrom [i_ 1]=some (enc o):=by rw [ho];exact F_ifrom.eq kQ kQ
 obtain ⟨r1,hr1⟩:∃ v,v=((x:Int):Rat):=⟨_,rfl⟩
 have sr1:Sq 40 r1:=by rw [hr1];exact aAI kQ sx
 have cr1:aAi ([b_ n1,s_ a1]++enc o)=some (encR r1++[b_ true]):=by rw [hr1,ho];exact aAM ix kQ
 obtain ⟨r2,hr2⟩:∃ v,v=((y:Int):Rat):=⟨_,rfl⟩
 have sr2:Sq 40 r2:=by rw [hr2];exact aAI kQ sy
 have cr2:aAi ([b_ n2,s_ a2]++enc o)=some (encR r2++[b_ true]):=by rw [hr2,ho];exact aAM iy kQ
 obtain ⟨r3,hr3⟩:∃ v,v=((z:Int):Rat):=⟨_,rfl⟩
 have sr3:Sq 40 r3:=by rw [hr3];exact aAI kQ sz
 have cr3:aAi ([b_ n3,s_ a3]++enc o)=some (encR r3++[b_ true]):=by rw [hr3,ho];exact aAM iz kQ
 obtain ⟨r4,hr4⟩:∃ v,v=((w:Int):Rat):=⟨_,rfl⟩
 have sr4:Sq 40 r4:=by rw [hr4];exact aAI kQ sw
 have cr4:aAi ([b_ n4,s_ a4]++enc o)=some (encR r4++[b_ true]):=by rw [hr4,ho];exact aAM iw kQ
 refine ⟨0,?_⟩
 rcases aCA (x,y,z,w) with e | e | e
 ·rw [e] at k0
  have k0:aA8 [b_ n1,s_ a1,b_ n2,s_ a2,b_ n3,s_ a3,b_ n4,s_ a4]=some [i_ 0,b_ up]:=k0
  obtain ⟨r21,hr21⟩:∃ v,v=r2*u2:=⟨_,rfl⟩
  have sr21:Sq 160 r21:=by rw [hr21];exact Sq.mul kQ sr2 v2
  have cr21:aAx (encR r2++encR u2)=some (encR r21):=by rw [hr21];exact R2.at (RI.can sr2) (RI.can v2) kQ kQ
  obtain ⟨r22,hr22⟩:∃ v,v=r4 - r21:=⟨_,rfl⟩
  have sr22:Sq 201 r22:=by rw [hr22];exact aBm sr4 sr21
  have cr22:aAC (encR r4++encR r21)=some (encR r22):=by rw [hr22];exact R2.at (RI.can sr4) (RI.can sr21) kQ kQ
  obtain ⟨r23,hr23⟩:∃ v,v=r3*u3:=⟨_,rfl⟩
  have sr23:Sq 160 r23:=by rw [hr23];exact Sq.mul kQ sr3 v3
  have cr23:aAx (encR r3++encR u3)=some (encR r23):=by rw [hr23];exact R2.at (RI.can sr3) (RI.can v3) kQ kQ
  obtain ⟨r24,hr24⟩:∃ v,v=r22 - r23:=⟨_,rfl⟩
  have sr24:Sq 362 r24:=by rw [hr24];exact aBm sr22 sr23
  have cr24:aAC (encR r22++encR r23)=some (encR r24):=by rw [hr24];exact R2.at (RI.can sr22) (RI.can sr23) kQ kQ
  obtain ⟨r25,hr25⟩:∃ v,v=r24 / r1:=⟨_,rfl⟩
  have sr25:Sq 402 r25:=by rw [hr25];exact aDY kQ sr24 sr1
  have cr25:aBT (encR r24++encR r1)=some (encR r25++[b_ (!decide (r1=0))]):=by rw [hr25];exact R2.at (RI.can sr24) (RI.can sr1) kQ kQ
  have E:prj (x,y,z,w) (u1,u2,u3)=(r25,u2,u3):=by unfold prj;rw [e];dsimp only;rw [hr25,hr24,hr23,hr22,hr21,hr1,hr2,hr3,hr4];rfl
  rw [E]
  have fin:aAO (aCB (r25,u2,u3))=some (aAF (r25,u2,u3)):=Fo.eq (aCy 600) (VI.can ⟨sr25.le kQ,v2.le kQ,v3.le kQ⟩)
  have fin:aAO (encR r25++(encR u2++encR u3))=some (enc4 (pt (r25,u2,u3))):=fin
  have ep:aAF (r25,u2,u3)=enc4 (pt (r25,u2,u3)):=rfl
  rw [ep]
  generalize pt (r25,u2,u3)=P at *
  clear E e ep ho hr1 hr2 hr3 hr4 hr21 hr22 hr23 hr24 hr25
  refine gC aA8 k0 ?_
  refine gC aAr kc ?_
  refine gC F_ifrom co ?_
  refine gC aAi cr4 ?_
  refine gC F_ifrom co ?_
  refine gC aAi cr1 ?_
  refine gP (aAU _ _ .i64 0 0) (aBG (b:=(0:Int) == 0) kK rfl ?_)
  refine gC F_ifrom co ?_
  refine gC aAi cr2 ?_
  refine gP (aAU _ _ .i64 1 0) (aBp (b:=(1:Int) == 0) kK rfl ?_)
  refine gC aAx cr21 ?_
  refine gC aAC cr22 ?_
  refine gC F_ifrom co ?_
  refine gC aAi cr3 ?_
  refine gP (aAU _ _ .i64 2 0) (aBp (b:=(2:Int) == 0) kK rfl ?_)
  refine gC aAx cr23 ?_
  refine gC aAC cr24 ?_
  refine gC aBT cr25 ?_
  refine aD5 (k:=.i64) (i:=16) (j:=0) kK ?_
  exact gC aAO fin (aAc kK)
 ·rw [e] at k0
  have k0:aA8 [b_ n1,s_ a1,b_ n2,s_ a2,b_ n3,s_ a3,b_ n4,s_ a4]=some [i_ 1,b_ up]:=k0
  obtain ⟨r21,hr21⟩:∃ v,v=r1*u1:=⟨_,rfl⟩
  have sr21:Sq 160 r21:=by rw [hr21];exact Sq.mul kQ sr1 v1
  have cr21:aAx (encR r1++encR u1)=some (encR r21):=by rw [hr21];exact R2.at (RI.can sr1) (RI.can v1) kQ kQ
  obtain ⟨r22,hr22⟩:∃ v,v=r4 - r21:=⟨_,rfl⟩
  have sr22:Sq 201 r22:=by rw [hr22];exact aBm sr4 sr21
  have cr22:aAC (encR r4++encR r21)=some (encR r22):=by rw [hr22];exact R2.at (RI.can sr4) (RI.can sr21) kQ kQ
  obtain ⟨r23,hr23⟩:∃ v,v=r3*u3:=⟨_,rfl⟩
  have sr23:Sq 160 r23:=by rw [hr23];exact Sq.mul kQ sr3 v3
  have cr23:aAx (encR r3++encR u3)=some (encR r23):=by rw [hr23];exact R2.at (RI.can sr3) (RI.can v3) kQ kQ
  obtain ⟨r24,hr24⟩:∃ v,v=r22 - r23:=⟨_,rfl⟩
  have sr24:Sq 362 r24:=by rw [hr24];exact aBm sr22 sr23
  have cr24:aAC (encR r22++encR r23)=some (encR r24):=by rw [hr24];exact R2.at (RI.can sr22) (RI.can sr23) kQ kQ
  obtain ⟨r25,hr25⟩:∃ v,v=r24 / r2:=⟨_,rfl⟩
  have sr25:Sq 402 r25:=by rw [hr25];exact aDY kQ sr24 sr2
  have cr25:aBT (encR r24++encR r2)=some (encR r25++[b_ (!decide (r2=0))]):=by rw [hr25];exact R2.at (RI.can sr24) (RI.can sr2) kQ kQ
  have E:prj (x,y,z,w) (u1,u2,u3)=(u1,r25,u3):=by unfold prj;rw [e];dsimp only;rw [hr25,hr24,hr23,hr22,hr21,hr1,hr2,hr3,hr4];rfl
  rw [E]
  have fin:aAO (aCB (u1,r25,u3))=some (aAF (u1,r25,u3)):=Fo.eq (aCy 600) (VI.can ⟨v1.le kQ,sr25.le kQ,v3.le kQ⟩)
  have fin:aAO (encR u1++(encR r25++encR u3))=some (enc4 (pt (u1,r25,u3))):=fin
  have ep:aAF (u1,r25,u3)=enc4 (pt (u1,r25,u3)):=rfl
  rw [ep]
  generalize pt (u1,r25,u3)=P at *
  clear E e ep ho hr1 hr2 hr3 hr4 hr21 hr22 hr23 hr24 hr25
  refine gC aA8 k0 ?_
  refine gC aAr kc ?_
  refine gC F_ifrom co ?_
  refine gC aAi cr4 ?_
  refine gC F_ifrom co ?_
  refine gC aAi cr1 ?_
  refine gP (aAU _ _ .i64 0 1) (aBp (b:=(0:Int) == 1) kK rfl ?_)
  refine gC aAx cr21 ?_
  refine gC aAC cr22 ?_
  refine gC F_ifrom co ?_
  refine gC aAi cr2 ?_
  refine gP (aAU _ _ .i64 1 1) (aBG (b:=(1:Int) == 1) kK rfl ?_)
  refine gC F_ifrom co ?_
  refine gC aAi cr3 ?_
  refine gP (aAU _ _ .i64 2 1) (aBp (b:=(2:Int) == 1) kK rfl ?_)
  refine gC aAx cr23 ?_
  refine gC aAC cr24 ?_
  refine gC aBT cr25 ?_
  refine aCc (k:=.i64) (n:=1) (i:=16) (j:=0) kK kQ (?_)
  refine aD5 (k:=.i64) (i:=16) (j:=1) kK ?_
  exact gC aAO fin (aAc kK)
 ·rw [e] at k0
  have k0:aA8 [b_ n1,s_ a1,b_ n2,s_ a2,b_ n3,s_ a3,b_ n4,s_ a4]=some [i_ 2,b_ up]:=k0
  obtain ⟨r21,hr21⟩:∃ v,v=r1*u1:=⟨_,rfl⟩
  have sr21:Sq 160 r21:=by rw [hr21];exact Sq.mul kQ sr1 v1
  have cr21:aAx (encR r1++encR u1)=some (encR r21):=by rw [hr21];exact R2.at (RI.can sr1) (RI.can v1) kQ kQ
  obtain ⟨r22,hr22⟩:∃ v,v=r4 - r21:=⟨_,rfl⟩
  have sr22:Sq 201 r22:=by rw [hr22];exact aBm sr4 sr21
  have cr22:aAC (encR r4++encR r21)=some (encR r22):=by rw [hr22];exact R2.at (RI.can sr4) (RI.can sr21) kQ kQ
  obtain ⟨r23,hr23⟩:∃ v,v=r2*u2:=⟨_,rfl⟩
  have sr23:Sq 160 r23:=by rw [hr23];exact Sq.mul kQ sr2 v2
  have cr23:aAx (encR r2++encR u2)=some (encR r23):=by rw [hr23];exact R2.at (RI.can sr2) (RI.can v2) kQ kQ
  obtain ⟨r24,hr24⟩:∃ v,v=r22 - r23:=⟨_,rfl⟩
  have sr24:Sq 362 r24:=by rw [hr24];exact aBm sr22 sr23
  have cr24:aAC (encR r22++encR r23)=some (encR r24):=by rw [hr24];exact R2.at (RI.can sr22) (RI.can sr23) kQ kQ
  obtain ⟨r25,hr25⟩:∃ v,v=r24 / r3:=⟨_,rfl⟩
  have sr25:Sq 402 r25:=by rw [hr25];exact aDY kQ sr24 sr3
  have cr25:aBT (encR r24++encR r3)=some (encR r25++[b_ (!decide (r3=0))]):=by rw [hr25];exact R2.at (RI.can sr24) (RI.can sr3) kQ kQ
  have E:prj (x,y,z,w) (u1,u2,u3)=(u1,u2,r25):=by unfold prj;rw [e];dsimp only;rw [hr25,hr24,hr23,hr22,hr21,hr1,hr2,hr3,hr4];rfl
  rw [E]
  have fin:aAO (aCB (u1,u2,r25))=some (aAF (u1,u2,r25)):=Fo.eq (aCy 600) (VI.can ⟨v1.le kQ,v2.le kQ,sr25.le kQ⟩)
  have fin:aAO (encR u1++(encR u2++encR r25))=some (enc4 (pt (u1,u2,r25))):=fin
  have ep:aAF (u1,u2,r25)=enc4 (pt (u1,u2,r25)):=rfl
  rw [ep]
  generalize pt (u1,u2,r25)=P at *
  clear E e ep ho hr1 hr2 hr3 hr4 hr21 hr22 hr23 hr24 hr25
  refine gC aA8 k0 ?_
  refine gC aAr kc ?_
  refine gC F_ifrom co ?_
  refine gC aAi cr4 ?_
  refine gC F_ifrom co ?_
  refine gC aAi cr1 ?_
  refine gP (aAU _ _ .i64 0 2) (aBp (b:=(0:Int) == 2) kK rfl ?_)
  refine gC aAx cr21 ?_
  refine gC aAC cr22 ?_
  refine gC F_ifrom co ?_
  refine gC aAi cr2 ?_
  refine gP (aAU _ _ .i64 1 2) (aBp (b:=(1:Int) == 2) kK rfl ?_)
  refine gC aAx cr23 ?_
  refine gC aAC cr24 ?_
  refine gC F_ifrom co ?_
  refine gC aAi cr3 ?_
  refine gP (aAU _ _ .i64 2 2) (aBG (b:=(2:Int) == 2) kK rfl ?_)
  refine gC aBT cr25 ?_
  refine aCc (k:=.i64) (n:=2) (i:=16) (j:=0) kK kQ (aCc (k:=.i64) (n:=2) (i:=16) (j:=1) kK kQ (?_))
  refine aD5 (k:=.i64) (i:=16) (j:=2) kK ?_
  exact gC aAO fin (aAc kK)
def tbPk:Tb:=[(60,aA8),(22,aAr),(26,aAO)]++aO7
theorem okPk:TbOk Tryz.prog X.G tbPk:=(.cons kK aJ5 (.cons kK aKL (.cons kK aTf aO8)))
set_option maxHeartbeats 2000000 in
theorem aSq:Sx.Good Tryz.prog X.G 62 ⟨[.agg 8,.agg 8],.v1 (.agg 8)⟩ aCO:=aAe okPk (λ _ _=>X.G_below) 400 kK (by kernel_rfl:_=some aGN) λ ds rs h=>by
 obtain ⟨⟨p,q⟩,⟨e1,e2,hp,hq,rfl⟩,rfl⟩:=Fo.inv (aHp 40 120) h
 obtain ⟨n1,a1,n2,a2,n3,a3,n4,a4,rfl,h1,h2,h3,h4,rfl⟩:=PI.inv hp
 obtain ⟨m1,b1,m2,b2,m3,b3,m4,b4,rfl,g1,g2,g3,g4,rfl⟩:=PI.inv hq
 show ∃ kk,aGN.run _ _ kk _ _=some (aAF (prj (Z n1 a1,Z n2 a2,Z n3 a3,Z n4 a4) (pv4 (Z m1 b1,Z m2 b2,Z m3 b3,Z m4 b4))))
 have k0:aA8 [b_ n1,s_ a1,b_ n2,s_ a2,b_ n3,s_ a3,b_ n4,s_ a4]=some [i_ (axz (Z n1 a1,Z n2 a2,Z n3 a3,Z n4 a4):Int),b_ (decide (sgn (ix3 (Z n1 a1,Z n2 a2,Z n3 a3,Z n4 a4) (axz (Z n1 a1,Z n2 a2,Z n3 a3,Z n4 a4))) > 0))]:=Fo.eq (aAt 2000) (hp.le kQ)
 obtain ⟨u,hu⟩:∃ v,v=pv4 (Z m1 b1,Z m2 b2,Z m3 b3,Z m4 b4):=⟨_,rfl⟩
 have su:Sv 120 u:=by rw [hu];exact Sv.pv4 kQ ⟨.of g1,.of g2,.of g3,.of g4⟩
 have kc:aAr [b_ m1,s_ b1,b_ m2,s_ b2,b_ m3,s_ b3,b_ m4,s_ b4]=some (aCB u):=by rw [hu];exact Fo.eq (aAt 1500) (hq.le kQ)
 rw [<- hu]
 clear hu hp hq
 obtain ⟨u1,u2,u3⟩:=u
 obtain ⟨v1,v2,v3⟩:=su
 dsimp only at v1 v2 v3
 have kc:aAr [b_ m1,s_ b1,b_ m2,s_ b2,b_ m3,s_ b3,b_ m4,s_ b4]=some (encR u1++(encR u2++encR u3)):=kc
 obtain ⟨x,hx⟩:∃ v,v=Z n1 a1:=⟨_,rfl⟩
 have ix:ZI 40 x [b_ n1,s_ a1]:=by rw [hx];exact .raw n1 h1
 have sx:Sz 40 x:=ix.sz
 obtain ⟨y,hy⟩:∃ v,v=Z n2 a2:=⟨_,rfl⟩
 have iy:ZI 40 y [b_ n2,s_ a2]:=by rw [hy];exact .raw n2 h2
 have sy:Sz 40 y:=iy.sz
 obtain ⟨z,hz⟩:∃ v,v=Z n3 a3:=⟨_,rfl⟩
 have iz:ZI 40 z [b_ n3,s_ a3]:=by rw [hz];exact .raw n3 h3
 have sz:Sz 40 z:=iz.sz
 obtain ⟨w,hw⟩:∃ v,v=Z n4 a4:=⟨_,rfl⟩
 have iw:ZI 40 w [b_ n4,s_ a4]:=by rw [hw];exact .raw n4 h4
 have sw:Sz 40 w:=iw.sz
 rw [<- hx,<- hy,<- hz,<- hw] at k0 ⊢
 clear hx hy hz hw
 generalize decide (sgn (ix3 (x,y,z,w) (axz (x,y,z,w))) > 0)=up at *
 obtain ⟨o,ho⟩:∃ o,o=(1:Int):=⟨_,rfl⟩
 have so:Sz 1 o:=by rw [ho];exact Sz.one
 have co:F_ifrom [i_ 1]=some (enc o):=by rw [ho];exact F_ifrom.eq kQ kQ
 obtain ⟨r1,hr1⟩:∃ v,v=((x:Int):Rat):=⟨_,rfl⟩
 have sr1:Sq 40 r1:=by rw [hr1];exact aAI kQ sx
 have cr1:aAi ([b_ n1,s_ a1]++enc o)=some (encR r1++[b_ true]):=by rw [hr1,ho];exact aAM ix kQ
 obtain ⟨r2,hr2⟩:∃ v,v=((y:Int):Rat):=⟨_,rfl⟩
 have sr2:Sq 40 r2:=by rw [hr2];exact aAI kQ sy
 have cr2:aAi ([b_ n2,s_ a2]++enc o)=some (encR r2++[b_ true]):=by rw [hr2,ho];exact aAM iy kQ
 obtain ⟨r3,hr3⟩:∃ v,v=((z:Int):Rat):=⟨_,rfl⟩
 have sr3:Sq 40 r3:=by rw [hr3];exact aAI kQ sz
 have cr3:aAi ([b_ n3,s_ a3]++enc o)=some (encR r3++[b_ true]):=by rw [hr3,ho];exact aAM iz kQ
 obtain ⟨r4,hr4⟩:∃ v,v=((w:Int):Rat):=⟨_,rfl⟩
 have sr4:Sq 40 r4:=by rw [hr4];exact aAI kQ sw
 have cr4:aAi ([b_ n4,s_ a4]++enc o)=some (encR r4++[b_ true]):=by rw [hr4,ho];exact aAM iw kQ
 refine ⟨0,?_⟩
 rcases aCA (x,y,z,w) with e | e | e
 ·rw [e] at k0
  have k0:aA8 [b_ n1,s_ a1,b_ n2,s_ a2,b_ n3,s_ a3,b_ n4,s_ a4]=some [i_ 0,b_ up]:=k0
  obtain ⟨r21,hr21⟩:∃ v,v=r2*u2:=⟨_,rfl⟩
  have sr21:Sq 160 r21:=by rw [hr21];exact Sq.mul kQ sr2 v2
  have cr21:aAx (encR r2++encR u2)=some (encR r21):=by rw [hr21];exact R2.at (RI.can sr2) (RI.can v2) kQ kQ
  obtain ⟨r22,hr22⟩:∃ v,v=r4 - r21:=⟨_,rfl⟩
  have sr22:Sq 201 r22:=by rw [hr22];exact aBm sr4 sr21
  have cr22:aAC (encR r4++encR r21)=some (encR r22):=by rw [hr22];exact R2.at (RI.can sr4) (RI.can sr21) kQ kQ
  obtain ⟨r23,hr23⟩:∃ v,v=r3*u3:=⟨_,rfl⟩
  have sr23:Sq 160 r23:=by rw [hr23];exact Sq.mul kQ sr3 v3
  have cr23:aAx (encR r3++encR u3)=some (encR r23):=by rw [hr23];exact R2.at (RI.can sr3) (RI.can v3) kQ kQ
  obtain ⟨r24,hr24⟩:∃ v,v=r22 - r23:=⟨_,rfl⟩
  have sr24:Sq 362 r24:=by rw [hr24];exact aBm sr22 sr23
  have cr24:aAC (encR r22++encR r23)=some (encR r24):=by rw [hr24];exact R2.at (RI.can sr22) (RI.can sr23) kQ kQ
  obtain ⟨r25,hr25⟩:∃ v,v=r24 / r1:=⟨_,rfl⟩
  have sr25:Sq 402 r25:=by rw [hr25];exact aDY kQ sr24 sr1
  have cr25:aBT (encR r24++encR r1)=some (encR r25++[b_ (!decide (r1=0))]):=by rw [hr25];exact R2.at (RI.can sr24) (RI.can sr1) kQ kQ
  have E:prj (x,y,z,w) (u1,u2,u3)=(r25,u2,u3):=by unfold prj;rw [e];dsimp only;rw [hr25,hr24,hr23,hr22,hr21,hr1,hr2,hr3,hr4];rfl
  rw [E]
  have fin:aAO (aCB (r25,u2,u3))=some (aAF (r25,u2,u3)):=Fo.eq (aCy 600) (VI.can ⟨sr25.le kQ,v2.le kQ,v3.le kQ⟩)
  have fin:aAO (encR r25++(encR u2++encR u3))=some (enc4 (pt (r25,u2,u3))):=fin
  have ep:aAF (r25,u2,u3)=enc4 (pt (r25,u2,u3)):=rfl
  rw [ep]
  generalize pt (r25,u2,u3)=P at *
  clear E e ep ho hr1 hr2 hr3 hr4 hr21 hr22 hr23 hr24 hr25
  refine gC aA8 k0 ?_
  refine gC aAr kc ?_
  refine gC F_ifrom co ?_
  refine gC aAi cr4 ?_
  refine gP (aAQ _ _ .i64 0 0) (aBp (b:=(0:Int) != 0) kK rfl ?_)
  refine gP (aAQ _ _ .i64 1 0) (aBG (b:=(1:Int) != 0) kK rfl ?_)
  refine gC F_ifrom co ?_
  refine gC aAi cr2 ?_
  refine gC aAx cr21 ?_
  refine gC aAC cr22 ?_
  refine gP (aAQ _ _ .i64 2 0) (aBG (b:=(2:Int) != 0) kK rfl ?_)
  refine gC F_ifrom co ?_
  refine gC aAi cr3 ?_
  refine gC aAx cr23 ?_
  refine gC aAC cr24 ?_
  refine aD5 (k:=.i64) (i:=16) (j:=0) kK ?_
  refine gC F_ifrom co ?_
  refine gC aAi cr1 ?_
  refine gC aBT cr25 ?_
  exact gC aAO fin (aAc kK)
 ·rw [e] at k0
  have k0:aA8 [b_ n1,s_ a1,b_ n2,s_ a2,b_ n3,s_ a3,b_ n4,s_ a4]=some [i_ 1,b_ up]:=k0
  obtain ⟨r21,hr21⟩:∃ v,v=r1*u1:=⟨_,rfl⟩
  have sr21:Sq 160 r21:=by rw [hr21];exact Sq.mul kQ sr1 v1
  have cr21:aAx (encR r1++encR u1)=some (encR r21):=by rw [hr21];exact R2.at (RI.can sr1) (RI.can v1) kQ kQ
  obtain ⟨r22,hr22⟩:∃ v,v=r4 - r21:=⟨_,rfl⟩
  have sr22:Sq 201 r22:=by rw [hr22];exact aBm sr4 sr21
  have cr22:aAC (encR r4++encR r21)=some (encR r22):=by rw [hr22];exact R2.at (RI.can sr4) (RI.can sr21) kQ kQ
  obtain ⟨r23,hr23⟩:∃ v,v=r3*u3:=⟨_,rfl⟩
  have sr23:Sq 160 r23:=by rw [hr23];exact Sq.mul kQ sr3 v3
  have cr23:aAx (encR r3++encR u3)=some (encR r23):=by rw [hr23];exact R2.at (RI.can sr3) (RI.can v3) kQ kQ
  obtain ⟨r24,hr24⟩:∃ v,v=r22 - r23:=⟨_,rfl⟩
  have sr24:Sq 362 r24:=by rw [hr24];exact aBm sr22 sr23
  have cr24:aAC (encR r22++encR r23)=some (encR r24):=by rw [hr24];exact R2.at (RI.can sr22) (RI.can sr23) kQ kQ
  obtain ⟨r25,hr25⟩:∃ v,v=r24 / r2:=⟨_,rfl⟩
  have sr25:Sq 402 r25:=by rw [hr25];exact aDY kQ sr24 sr2
  have cr25:aBT (encR r24++encR r2)=some (encR r25++[b_ (!decide (r2=0))]):=by rw [hr25];exact R2.at (RI.can sr24) (RI.can sr2) kQ kQ
  have E:prj (x,y,z,w) (u1,u2,u3)=(u1,r25,u3):=by unfold prj;rw [e];dsimp only;rw [hr25,hr24,hr23,hr22,hr21,hr1,hr2,hr3,hr4];rfl
  rw [E]
  have fin:aAO (aCB (u1,r25,u3))=some (aAF (u1,r25,u3)):=Fo.eq (aCy 600) (VI.can ⟨v1.le kQ,sr25.le kQ,v3.le kQ⟩)
  have fin:aAO (encR u1++(encR r25++encR u3))=some (enc4 (pt (u1,r25,u3))):=fin
  have ep:aAF (u1,r25,u3)=enc4 (pt (u1,r25,u3)):=rfl
  rw [ep]
  generalize pt (u1,r25,u3)=P at *
  clear E e ep ho hr1 hr2 hr3 hr4 hr21 hr22 hr23 hr24 hr25
  refine gC aA8 k0 ?_
  refine gC aAr kc ?_
  refine gC F_ifrom co ?_
  refine gC aAi cr4 ?_
  refine gP (aAQ _ _ .i64 0 1) (aBG (b:=(0:Int) != 1) kK rfl ?_)
  refine gC F_ifrom co ?_
  refine gC aAi cr1 ?_
  refine gC aAx cr21 ?_
  refine gC aAC cr22 ?_
  refine gP (aAQ _ _ .i64 1 1) (aBp (b:=(1:Int) != 1) kK rfl ?_)
  refine gP (aAQ _ _ .i64 2 1) (aBG (b:=(2:Int) != 1) kK rfl ?_)
  refine gC F_ifrom co ?_
  refine gC aAi cr3 ?_
  refine gC aAx cr23 ?_
  refine gC aAC cr24 ?_
  refine aCc (k:=.i64) (n:=1) (i:=16) (j:=0) kK kQ (?_)
  refine aD5 (k:=.i64) (i:=16) (j:=1) kK ?_
  refine gC F_ifrom co ?_
  refine gC aAi cr2 ?_
  refine gC aBT cr25 ?_
  exact gC aAO fin (aAc kK)
 ·rw [e] at k0
  have k0:aA8 [b_ n1,s_ a1,b_ n2,s_ a2,b_ n3,s_ a3,b_ n4,s_ a4]=some [i_ 2,b_ up]:=k0
  obtain ⟨r21,hr21⟩:∃ v,v=r1*u1:=⟨_,rfl⟩
  have sr21:Sq 160 r21:=by rw [hr21];exact Sq.mul kQ sr1 v1
  have cr21:aAx (encR r1++encR u1)=some (encR r21):=by rw [hr21];exact R2.at (RI.can sr1) (RI.can v1) kQ kQ
  obtain ⟨r22,hr22⟩:∃ v,v=r4 - r21:=⟨_,rfl⟩
  have sr22:Sq 201 r22:=by rw [hr22];exact aBm sr4 sr21
  have cr22:aAC (encR r4++encR r21)=some (encR r22):=by rw [hr22];exact R2.at (RI.can sr4) (RI.can sr21) kQ kQ
  obtain ⟨r23,hr23⟩:∃ v,v=r2*u2:=⟨_,rfl⟩
  have sr23:Sq 160 r23:=by rw [hr23];exact Sq.mul kQ sr2 v2
  have cr23:aAx (encR r2++encR u2)=some (encR r23):=by rw [hr23];exact R2.at (RI.can sr2) (RI.can v2) kQ kQ
  obtain ⟨r24,hr24⟩:∃ v,v=r22 - r23:=⟨_,rfl⟩
  have sr24:Sq 362 r24:=by rw [hr24];exact aBm sr22 sr23
  have cr24:aAC (encR r22++encR r23)=some (encR r24):=by rw [hr24];exact R2.at (RI.can sr22) (RI.can sr23) kQ kQ
  obtain ⟨r25,hr25⟩:∃ v,v=r24 / r3:=⟨_,rfl⟩
  have sr25:Sq 402 r25:=by rw [hr25];exact aDY kQ sr24 sr3
  have cr25:aBT (encR r24++encR r3)=some (encR r25++[b_ (!decide (r3=0))]):=by rw [hr25];exact R2.at (RI.can sr24) (RI.can sr3) kQ kQ
  have E:prj (x,y,z,w) (u1,u2,u3)=(u1,u2,r25):=by unfold prj;rw [e];dsimp only;rw [hr25,hr24,hr23,hr22,hr21,hr1,hr2,hr3,hr4];rfl
  rw [E]
  have fin:aAO (aCB (u1,u2,r25))=some (aAF (u1,u2,r25)):=Fo.eq (aCy 600) (VI.can ⟨v1.le kQ,v2.le kQ,sr25.le kQ⟩)
  have fin:aAO (encR u1++(encR u2++encR r25))=some (enc4 (pt (u1,u2,r25))):=fin
  have ep:aAF (u1,u2,r25)=enc4 (pt (u1,u2,r25)):=rfl
  rw [ep]
  generalize pt (u1,u2,r25)=P at *
  clear E e ep ho hr1 hr2 hr3 hr4 hr21 hr22 hr23 hr24 hr25
  refine gC aA8 k0 ?_
  refine gC aAr kc ?_
  refine gC F_ifrom co ?_
  refine gC aAi cr4 ?_
  refine gP (aAQ _ _ .i64 0 2) (aBG (b:=(0:Int) != 2) kK rfl ?_)
  refine gC F_ifrom co ?_
  refine gC aAi cr1 ?_
  refine gC aAx cr21 ?_
  refine gC aAC cr22 ?_
  refine gP (aAQ _ _ .i64 1 2) (aBG (b:=(1:Int) != 2) kK rfl ?_)
  refine gC F_ifrom co ?_
  refine gC aAi cr2 ?_
  refine gC aAx cr23 ?_
  refine gC aAC cr24 ?_
  refine gP (aAQ _ _ .i64 2 2) (aBp (b:=(2:Int) != 2) kK rfl ?_)
  refine aCc (k:=.i64) (n:=2) (i:=16) (j:=0) kK kQ (aCc (k:=.i64) (n:=2) (i:=16) (j:=1) kK kQ (?_))
  refine aD5 (k:=.i64) (i:=16) (j:=2) kK ?_
  refine gC F_ifrom co ?_
  refine gC aAi cr3 ?_
  refine gC aBT cr25 ?_
  exact gC aAO fin (aAc kK)
end Go.Proofs.YtjefbecmeobegaaGreatDoor.Sp
