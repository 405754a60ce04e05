import Derived.Test.YtjefbecmeobegaaGreatDoorSpPl
import Derived.Test.YtjefbecmeobegaaGreatDoorSpB
import Derived.Test.YtjefbecmeobegaaGreatDoorSpU
import Derived.Test.YtjefbecmeobegaaGreatDoorTr1
namespace Go.Proofs.YtjefbecmeobegaaGreatDoor.Sp
open Go Go.RowKit Sx NatA NatB NatC NatD NatI NatJ IntZ RatZ PtZ PlZ
set_option maxHeartbeats 2000000 in
theorem aRR:Sx.Good Tryz.prog X.G 41 ⟨[.agg 8],.tup [.agg 8,.one]⟩ aAv:=aAf aQ9 (fun _ _=>X.G_below) 400 (by kernel_rfl) (by kernel_rfl:_=some aG4) fun ds rs h=>by
 obtain ⟨p,hp,rfl⟩:=Fo.inv (aA8 2500) h
 obtain ⟨n1,a1,n2,a2,n3,a3,n4,a4,rfl,h1,h2,h3,h4,rfl⟩:=hp.inv
 show ∃ kk,aG4.run _ _ kk _ _=some (aBG (plz (Z n1 a1,Z n2 a2,Z n3 a3,Z n4 a4)))
 obtain ⟨x,hx⟩:∃ v,v=Z n1 a1:=⟨_,rfl⟩
 have ix:ZI 2500 x [b_ n1,s_ a1]:=by rw [hx];exact .raw n1 h1
 have sx:Sz 2500 x:=ix.sz
 obtain ⟨y,hy⟩:∃ v,v=Z n2 a2:=⟨_,rfl⟩
 have iy:ZI 2500 y [b_ n2,s_ a2]:=by rw [hy];exact .raw n2 h2
 have sy:Sz 2500 y:=iy.sz
 obtain ⟨z,hz⟩:∃ v,v=Z n3 a3:=⟨_,rfl⟩
 have iz:ZI 2500 z [b_ n3,s_ a3]:=by rw [hz];exact .raw n3 h3
 have sz:Sz 2500 z:=iz.sz
 obtain ⟨w,hw⟩:∃ v,v=Z n4 a4:=⟨_,rfl⟩
 have iw:ZI 2500 w [b_ n4,s_ a4]:=by rw [hw];exact .raw n4 h4
 have sw:Sz 2500 w:=iw.sz
 have vx:V a1=x.natAbs:=by rw [hx,aBi]
 have vy:V a2=y.natAbs:=by rw [hy,aBi]
 have vz:V a3=z.natAbs:=by rw [hz,aBi]
 have vw:V a4=w.natAbs:=by rw [hw,aBi]
 have q1:=aFx h1
 have q2:=aFx h2
 have q3:=aFx h3
 have q4:=aFx h4
 rw [vx] at q1
 rw [vy] at q2
 rw [vz] at q3
 rw [vw] at q4
 have l1:=aC7 q1 q2
 have l2:=aC7 l1 q3
 have l3:=aC7 l2 q4
 have c1:=aKN h1 (by decide)
 rw [vx] at c1
 have c2:=aDN q1 h2 (by decide)
 rw [vy] at c2
 have c3:=aDN l1 h3 (by decide)
 rw [vz] at c3
 have c4:=aDN l2 h4 (by decide)
 rw [vw] at c4
 rw [← hx,← hy,← hz,← hw]
 clear vx vy vz vw hx hy hz hw
 have hfl:Nat.gcd (Nat.gcd x.natAbs y.natAbs) z.natAbs=0 ↔ x=0∧y=0∧z=0:=by
  rw [Nat.gcd_eq_zero_iff,Nat.gcd_eq_zero_iff]
  omega
 refine ⟨0,?_⟩
 have k1:aA0 [b_ n1,s_ a1]=some [i_ (sgn x)]:=I1.at ix (by decide)
 have k2:aA0 [b_ n2,s_ a2]=some [i_ (sgn y)]:=I1.at iy (by decide)
 have k3:aA0 [b_ n3,s_ a3]=some [i_ (sgn z)]:=I1.at iz (by decide)
 refine gC aA0 k1 (gP (aA9 _ _ .i64 (sgn x) 0) (aAr (b:=sgn x == 0) (by kernel_rfl) (fun ex=>?_) (fun ex=>?_)))
 ·rw [aBH] at ex
  refine gC aA0 k2 (gP (aA9 _ _ .i64 (sgn y) 0) (aAr (b:=sgn y == 0) (by kernel_rfl) (fun ey=>?_) (fun ey=>?_)))
  ·rw [aBH] at ey
   refine gC aA0 k3 (gP (aA9 _ _ .i64 (sgn z) 0) (aAr (b:=sgn z == 0) (by kernel_rfl) (fun ez=>?_) (fun ez=>?_)))
   ·rw [aBH] at ez
    have hp:plz (x,y,z,w)=((0,0,0,0),false):=if_pos ⟨of_decide_eq_true ex,of_decide_eq_true ey,of_decide_eq_true ez⟩
    rw [hp,aDx]
    exact aAb (by kernel_rfl)
   ·rw [aBH] at ez
    have hf:¬ Flat (x,y,z,w):=fun hh=>of_decide_eq_false ez hh.2.2
    have hg:0 < (g4 x y z w:Int):=aEV (p:=(x,y,z,w)) hf
    have hp:plz (x,y,z,w)=(quo (x,y,z,w),true):=if_neg hf
    have hq:quo (x,y,z,w)=(x / (g4 x y z w:Int),y / (g4 x y z w:Int),z / (g4 x y z w:Int),w / (g4 x y z w:Int)):=rfl
    rw [hp,hq]
    obtain ⟨g,hgg⟩:∃ g,g=g4 x y z w:=⟨_,rfl⟩
    have hg':Nat.gcd (Nat.gcd (Nat.gcd x.natAbs y.natAbs) z.natAbs) w.natAbs=g:=hgg.symm
    rw [hg'] at c4 l3
    rw [← hgg] at hg ⊢
    have sg':Sz 2500 (g:Int):=aAF l3
    have g0:(g:Int)≠0:=by omega
    have c5:aAn [b_ false,s_ (N g)]=some (enc (g:Int)):=aMc (Nat.le_trans ((aAP _ _).2 l3) (by decide))
    obtain ⟨x1,hx1⟩:∃ v,v=x / (g:Int):=⟨_,rfl⟩
    obtain ⟨y1,hy1⟩:∃ v,v=y / (g:Int):=⟨_,rfl⟩
    obtain ⟨z1,hz1⟩:∃ v,v=z / (g:Int):=⟨_,rfl⟩
    obtain ⟨v1,hv1⟩:∃ v,v=w / (g:Int):=⟨_,rfl⟩
    obtain ⟨x2,d1⟩:∃ v,aAj ([b_ n1,s_ a1]++enc (g:Int))=some (enc x1++enc v++[b_ true]):=⟨_,by rw [hx1];exact aBy ix (ZI.can sg') (by decide) (by decide) g0⟩
    obtain ⟨y2,d2⟩:∃ v,aAj ([b_ n2,s_ a2]++enc (g:Int))=some (enc y1++enc v++[b_ true]):=⟨_,by rw [hy1];exact aBy iy (ZI.can sg') (by decide) (by decide) g0⟩
    obtain ⟨z2,d3⟩:∃ v,aAj ([b_ n3,s_ a3]++enc (g:Int))=some (enc z1++enc v++[b_ true]):=⟨_,by rw [hz1];exact aBy iz (ZI.can sg') (by decide) (by decide) g0⟩
    obtain ⟨v2,d4⟩:∃ v,aAj ([b_ n4,s_ a4]++enc (g:Int))=some (enc v1++enc v++[b_ true]):=⟨_,by rw [hv1];exact aBy iw (ZI.can sg') (by decide) (by decide) g0⟩
    rw [← hx1,← hy1,← hz1,← hv1]
    clear hx1 hy1 hz1 hv1 hp hq hgg hg' hf
    exact gC aAH c1 (gC aAH c2 (gC aAH c3 (gC aAH c4 (gC aAn c5 (gC aAj d1 (gC aAj d2 (gC aAj d3 (gC aAj d4 (aAb (by kernel_rfl))))))))))
  ·rw [aBH] at ey
   have hf:¬ Flat (x,y,z,w):=fun hh=>of_decide_eq_false ey hh.2.1
   have hg:0 < (g4 x y z w:Int):=aEV (p:=(x,y,z,w)) hf
   have hp:plz (x,y,z,w)=(quo (x,y,z,w),true):=if_neg hf
   have hq:quo (x,y,z,w)=(x / (g4 x y z w:Int),y / (g4 x y z w:Int),z / (g4 x y z w:Int),w / (g4 x y z w:Int)):=rfl
   rw [hp,hq]
   obtain ⟨g,hgg⟩:∃ g,g=g4 x y z w:=⟨_,rfl⟩
   have hg':Nat.gcd (Nat.gcd (Nat.gcd x.natAbs y.natAbs) z.natAbs) w.natAbs=g:=hgg.symm
   rw [hg'] at c4 l3
   rw [← hgg] at hg ⊢
   have sg':Sz 2500 (g:Int):=aAF l3
   have g0:(g:Int)≠0:=by omega
   have c5:aAn [b_ false,s_ (N g)]=some (enc (g:Int)):=aMc (Nat.le_trans ((aAP _ _).2 l3) (by decide))
   obtain ⟨x1,hx1⟩:∃ v,v=x / (g:Int):=⟨_,rfl⟩
   obtain ⟨y1,hy1⟩:∃ v,v=y / (g:Int):=⟨_,rfl⟩
   obtain ⟨z1,hz1⟩:∃ v,v=z / (g:Int):=⟨_,rfl⟩
   obtain ⟨v1,hv1⟩:∃ v,v=w / (g:Int):=⟨_,rfl⟩
   obtain ⟨x2,d1⟩:∃ v,aAj ([b_ n1,s_ a1]++enc (g:Int))=some (enc x1++enc v++[b_ true]):=⟨_,by rw [hx1];exact aBy ix (ZI.can sg') (by decide) (by decide) g0⟩
   obtain ⟨y2,d2⟩:∃ v,aAj ([b_ n2,s_ a2]++enc (g:Int))=some (enc y1++enc v++[b_ true]):=⟨_,by rw [hy1];exact aBy iy (ZI.can sg') (by decide) (by decide) g0⟩
   obtain ⟨z2,d3⟩:∃ v,aAj ([b_ n3,s_ a3]++enc (g:Int))=some (enc z1++enc v++[b_ true]):=⟨_,by rw [hz1];exact aBy iz (ZI.can sg') (by decide) (by decide) g0⟩
   obtain ⟨v2,d4⟩:∃ v,aAj ([b_ n4,s_ a4]++enc (g:Int))=some (enc v1++enc v++[b_ true]):=⟨_,by rw [hv1];exact aBy iw (ZI.can sg') (by decide) (by decide) g0⟩
   rw [← hx1,← hy1,← hz1,← hv1]
   clear hx1 hy1 hz1 hv1 hp hq hgg hg' hf
   exact gC aAH c1 (gC aAH c2 (gC aAH c3 (gC aAH c4 (gC aAn c5 (gC aAj d1 (gC aAj d2 (gC aAj d3 (gC aAj d4 (aAb (by kernel_rfl))))))))))
 ·rw [aBH] at ex
  have hf:¬ Flat (x,y,z,w):=fun hh=>of_decide_eq_false ex hh.1
  have hg:0 < (g4 x y z w:Int):=aEV (p:=(x,y,z,w)) hf
  have hp:plz (x,y,z,w)=(quo (x,y,z,w),true):=if_neg hf
  have hq:quo (x,y,z,w)=(x / (g4 x y z w:Int),y / (g4 x y z w:Int),z / (g4 x y z w:Int),w / (g4 x y z w:Int)):=rfl
  rw [hp,hq]
  obtain ⟨g,hgg⟩:∃ g,g=g4 x y z w:=⟨_,rfl⟩
  have hg':Nat.gcd (Nat.gcd (Nat.gcd x.natAbs y.natAbs) z.natAbs) w.natAbs=g:=hgg.symm
  rw [hg'] at c4 l3
  rw [← hgg] at hg ⊢
  have sg':Sz 2500 (g:Int):=aAF l3
  have g0:(g:Int)≠0:=by omega
  have c5:aAn [b_ false,s_ (N g)]=some (enc (g:Int)):=aMc (Nat.le_trans ((aAP _ _).2 l3) (by decide))
  obtain ⟨x1,hx1⟩:∃ v,v=x / (g:Int):=⟨_,rfl⟩
  obtain ⟨y1,hy1⟩:∃ v,v=y / (g:Int):=⟨_,rfl⟩
  obtain ⟨z1,hz1⟩:∃ v,v=z / (g:Int):=⟨_,rfl⟩
  obtain ⟨v1,hv1⟩:∃ v,v=w / (g:Int):=⟨_,rfl⟩
  obtain ⟨x2,d1⟩:∃ v,aAj ([b_ n1,s_ a1]++enc (g:Int))=some (enc x1++enc v++[b_ true]):=⟨_,by rw [hx1];exact aBy ix (ZI.can sg') (by decide) (by decide) g0⟩
  obtain ⟨y2,d2⟩:∃ v,aAj ([b_ n2,s_ a2]++enc (g:Int))=some (enc y1++enc v++[b_ true]):=⟨_,by rw [hy1];exact aBy iy (ZI.can sg') (by decide) (by decide) g0⟩
  obtain ⟨z2,d3⟩:∃ v,aAj ([b_ n3,s_ a3]++enc (g:Int))=some (enc z1++enc v++[b_ true]):=⟨_,by rw [hz1];exact aBy iz (ZI.can sg') (by decide) (by decide) g0⟩
  obtain ⟨v2,d4⟩:∃ v,aAj ([b_ n4,s_ a4]++enc (g:Int))=some (enc v1++enc v++[b_ true]):=⟨_,by rw [hv1];exact aBy iw (ZI.can sg') (by decide) (by decide) g0⟩
  rw [← hx1,← hy1,← hz1,← hv1]
  clear hx1 hy1 hz1 hv1 hp hq hgg hg' hf
  exact gC aAH c1 (gC aAH c2 (gC aAH c3 (gC aAH c4 (gC aAn c5 (gC aAj d1 (gC aAj d2 (gC aAj d3 (gC aAj d4 (aAb (by kernel_rfl))))))))))
theorem aSG:Sx.Good Tryz.prog X.G 112 ⟨[.agg 2,.agg 2],.v1 .one⟩ aA5:=aAf aQ9 (fun _ _=>X.G_below) 400 (by kernel_rfl) (by kernel_rfl:_=some aGO) fun ds rs h=>by
 obtain ⟨n,a,m,b,rfl,ha,hb,rfl⟩:=I2.inv h
 obtain ⟨x,hx⟩:∃ v,v=Z n a:=⟨_,rfl⟩
 obtain ⟨y,hy⟩:∃ v,v=Z m b:=⟨_,rfl⟩
 have sx:Sz 9000 x:=by rw [hx];exact .of ha
 have sy:Sz 9000 y:=by rw [hy];exact .of hb
 have c1:aAW [b_ n,s_ a,b_ m,s_ b]=some (enc (x - y)):=by rw [hx,hy];exact I2.eq ha hb
 have c2:aA0 (enc (x - y))=some [i_ (sgn (x - y))]:=I1.can ((sx.sub sy).le (by decide))
 rw [← hx,← hy]
 generalize x - y=v at *
 exact ⟨0,gC aAW c1 (gC aA0 c2 (aAb (by kernel_rfl)))⟩
def tbPc:Tb:=[(112,aA5)]++tbS8
theorem okPc:TbOk Tryz.prog X.G tbPc:=(.cons (by kernel_rfl) aSG aQ9)
set_option maxHeartbeats 2000000 in
theorem aSH:Sx.Good Tryz.prog X.G 57 ⟨[.agg 8,.agg 8],.v1 .one⟩ aAt:=aAf okPc (fun _ _=>X.G_below) 400 (by kernel_rfl) (by kernel_rfl:_=some aGP) fun ds rs h=>by
 obtain ⟨⟨p,q⟩,⟨e1,e2,hp,hq,rfl⟩,rfl⟩:=Fo.inv (aDP 2000) h
 obtain ⟨n1,a1,n2,a2,n3,a3,n4,a4,rfl,h1,h2,h3,h4,rfl⟩:=PI.inv hp
 obtain ⟨m1,b1,m2,b2,m3,b3,m4,b4,rfl,g1,g2,g3,g4,rfl⟩:=PI.inv hq
 show ∃ kk,aGP.run _ _ kk _ _=some [i_ (aAV (Z n1 a1,Z n2 a2,Z n3 a3,Z n4 a4) (Z m1 b1,Z m2 b2,Z m3 b3,Z m4 b4))]
 obtain ⟨x,hx⟩:∃ v,v=Z n1 a1:=⟨_,rfl⟩
 have ix:ZI 2000 x [b_ n1,s_ a1]:=by rw [hx];exact .raw n1 h1
 have sx:Sz 2000 x:=ix.sz
 obtain ⟨y,hy⟩:∃ v,v=Z n2 a2:=⟨_,rfl⟩
 have iy:ZI 2000 y [b_ n2,s_ a2]:=by rw [hy];exact .raw n2 h2
 have sy:Sz 2000 y:=iy.sz
 obtain ⟨z,hz⟩:∃ v,v=Z n3 a3:=⟨_,rfl⟩
 have iz:ZI 2000 z [b_ n3,s_ a3]:=by rw [hz];exact .raw n3 h3
 have sz:Sz 2000 z:=iz.sz
 obtain ⟨w,hw⟩:∃ v,v=Z n4 a4:=⟨_,rfl⟩
 have iw:ZI 2000 w [b_ n4,s_ a4]:=by rw [hw];exact .raw n4 h4
 have sw:Sz 2000 w:=iw.sz
 obtain ⟨x',hx'⟩:∃ v,v=Z m1 b1:=⟨_,rfl⟩
 have ix':ZI 2000 x' [b_ m1,s_ b1]:=by rw [hx'];exact .raw m1 g1
 have sx':Sz 2000 x':=ix'.sz
 obtain ⟨y',hy'⟩:∃ v,v=Z m2 b2:=⟨_,rfl⟩
 have iy':ZI 2000 y' [b_ m2,s_ b2]:=by rw [hy'];exact .raw m2 g2
 have sy':Sz 2000 y':=iy'.sz
 obtain ⟨z',hz'⟩:∃ v,v=Z m3 b3:=⟨_,rfl⟩
 have iz':ZI 2000 z' [b_ m3,s_ b3]:=by rw [hz'];exact .raw m3 g3
 have sz':Sz 2000 z':=iz'.sz
 obtain ⟨w',hw'⟩:∃ v,v=Z m4 b4:=⟨_,rfl⟩
 have iw':ZI 2000 w' [b_ m4,s_ b4]:=by rw [hw'];exact .raw m4 g4
 have sw':Sz 2000 w':=iw'.sz
 rw [← hx,← hy,← hz,← hw,← hx',← hy',← hz',← hw']
 clear hx hy hz hw hx' hy' hz' hw'
 have c0:aA5 ([b_ n1,s_ a1]++[b_ m1,s_ b1])=some [i_ (sgn (x - x'))]:=I2.at ix ix' (by decide) (by decide)
 have c1:aA5 ([b_ n2,s_ a2]++[b_ m2,s_ b2])=some [i_ (sgn (y - y'))]:=I2.at iy iy' (by decide) (by decide)
 have c2:aA5 ([b_ n3,s_ a3]++[b_ m3,s_ b3])=some [i_ (sgn (z - z'))]:=I2.at iz iz' (by decide) (by decide)
 have c3:aA5 ([b_ n4,s_ a4]++[b_ m4,s_ b4])=some [i_ (sgn (w - w'))]:=I2.at iw iw' (by decide) (by decide)
 rw [aKO]
 dsimp only
 generalize sgn (x - x')=s0 at *
 generalize sgn (y - y')=s1 at *
 generalize sgn (z - z')=s2 at *
 generalize sgn (w - w')=s3 at *
 refine ⟨0,?_⟩
 refine gC aA5 c0 (gP (aA2 _ _ .i64 s0 0) (aAr (b:=s0 != 0) (by kernel_rfl) (fun h0=>?_) (fun h0=>?_)))
 ·rw [if_pos (bne_iff_ne.1 h0)]
  exact aAb (by kernel_rfl)
 ·have h0:s0=0:=by simpa using h0
  rw [if_neg (fun hh=>hh h0)]
  refine gC aA5 c1 (gP (aA2 _ _ .i64 s1 0) (aAr (b:=s1 != 0) (by kernel_rfl) (fun h1=>?_) (fun h1=>?_)))
  ·rw [if_pos (bne_iff_ne.1 h1)]
   exact aAb (by kernel_rfl)
  ·have h1:s1=0:=by simpa using h1
   rw [if_neg (fun hh=>hh h1)]
   refine gC aA5 c2 (gP (aA2 _ _ .i64 s2 0) (aAr (b:=s2 != 0) (by kernel_rfl) (fun h2=>?_) (fun h2=>?_)))
   ·rw [if_pos (bne_iff_ne.1 h2)]
    exact aAb (by kernel_rfl)
   ·have h2:s2=0:=by simpa using h2
    rw [if_neg (fun hh=>hh h2)]
    refine gC aA5 c3 (gP (aA2 _ _ .i64 s3 0) (aAr (b:=s3 != 0) (by kernel_rfl) (fun h3=>?_) (fun h3=>?_)))
    ·exact aAb (by kernel_rfl)
    ·have h3:s3=0:=by simpa using h3
     rw [h3]
     exact aAb (by kernel_rfl)
end Go.Proofs.YtjefbecmeobegaaGreatDoor.Sp
