/- MERGED by merge.py: SpPr SpPj -/
import Derived.Test.YtjefbecmeobegaaGreatDoorSpPl
import Derived.Test.YtjefbecmeobegaaGreatDoorSpD
import Derived.Test.YtjefbecmeobegaaGreatDoorTr1
namespace Go.Proofs.YtjefbecmeobegaaGreatDoor.Sp
open Go Go.RowKit Sx NatA NatB NatC NatD NatI NatJ IntZ RatZ PtZ PlZ
set_option maxHeartbeats 2000000 in
theorem aS8:Sx.Good Tryz.prog X.G 41 ⟨[.agg 8],.tup [.agg 8,.one]⟩ aB8:=aAe aOE (λ _ _=>X.G_below) 400 kK (by kernel_rfl:_=some aGN) λ ds rs h=>by
 obtain ⟨p,hp,rfl⟩:=Fo.inv (aAv 2500) h
 obtain ⟨n1,a1,n2,a2,n3,a3,n4,a4,rfl,h1,h2,h3,h4,rfl⟩:=hp.inv
 show ∃ kk,aGN.run _ _ kk _ _=some (aC0 (plz (Z n1 a1,Z n2 a2,Z n3 a3,Z n4 a4)))
 obtain ⟨x,hx⟩:∃ v,v=Z n1 a1:=⟨_,rfl⟩
 have ix:ZI 2500 x [b_ n1,s_ a1]:=by rw [hx];exact .raw n1 h1
 have sx:Sz 2500 x:=ix.sz
 obtain ⟨y,hy⟩:∃ v,v=Z n2 a2:=⟨_,rfl⟩
 have iy:ZI 2500 y [b_ n2,s_ a2]:=by rw [hy];exact .raw n2 h2
 have sy:Sz 2500 y:=iy.sz
 obtain ⟨z,hz⟩:∃ v,v=Z n3 a3:=⟨_,rfl⟩
 have iz:ZI 2500 z [b_ n3,s_ a3]:=by rw [hz];exact .raw n3 h3
 have sz:Sz 2500 z:=iz.sz
 obtain ⟨w,hw⟩:∃ v,v=Z n4 a4:=⟨_,rfl⟩
 have iw:ZI 2500 w [b_ n4,s_ a4]:=by rw [hw];exact .raw n4 h4
 have sw:Sz 2500 w:=iw.sz
 have vx:V a1=x.natAbs:=by rw [hx,aBr]
 have vy:V a2=y.natAbs:=by rw [hy,aBr]
 have vz:V a3=z.natAbs:=by rw [hz,aBr]
 have vw:V a4=w.natAbs:=by rw [hw,aBr]
 have q1:=aF5 h1
 have q2:=aF5 h2
 have q3:=aF5 h3
 have q4:=aF5 h4
 rw [vx] at q1
 rw [vy] at q2
 rw [vz] at q3
 rw [vw] at q4
 have l1:=aBE q1 q2
 have l2:=aBE l1 q3
 have l3:=aBE l2 q4
 have c1:=aLs h1 kQ
 rw [vx] at c1
 have c2:=aEd q1 h2 kQ
 rw [vy] at c2
 have c3:=aEd l1 h3 kQ
 rw [vz] at c3
 have c4:=aEd l2 h4 kQ
 rw [vw] at c4
 rw [<- hx,<- hy,<- hz,<- hw]
 clear vx vy vz vw hx hy hz hw
 have hfl:Nat.gcd (Nat.gcd x.natAbs y.natAbs) z.natAbs=0 ↔ x=0/\y=0/\z=0:=by
  rw [Nat.gcd_eq_zero_iff,Nat.gcd_eq_zero_iff]
  omega
 refine ⟨0,?_⟩
 have k1:aAx [b_ n1,s_ a1]=some [i_ (sgn x)]:=I1.at ix kQ
 have k2:aAx [b_ n2,s_ a2]=some [i_ (sgn y)]:=I1.at iy kQ
 have k3:aAx [b_ n3,s_ a3]=some [i_ (sgn z)]:=I1.at iz kQ
 refine gC aAx k1 (gP (aAz _ _ .i64 (sgn x) 0) (aAw (b:=sgn x == 0) kK (λ ex=>?_) (λ ex=>?_)))
 ·rw [aBI] at ex
  refine gC aAx k2 (gP (aAz _ _ .i64 (sgn y) 0) (aAw (b:=sgn y == 0) kK (λ ey=>?_) (λ ey=>?_)))
  ·rw [aBI] at ey
   refine gC aAx k3 (gP (aAz _ _ .i64 (sgn z) 0) (aAw (b:=sgn z == 0) kK (λ ez=>?_) (λ ez=>?_)))
   ·rw [aBI] at ez
    have hp:plz (x,y,z,w)=((0,0,0,0),false):=if_pos ⟨of_decide_eq_true ex,of_decide_eq_true ey,of_decide_eq_true ez⟩
    rw [hp,aHm]
    exact aAc kK
   ·rw [aBI] at ez
    have hf:¬ Flat (x,y,z,w):=λ hh=>of_decide_eq_false ez hh.2.2
    have hg:0 < (g4 x y z w:Int):=aFi (p:=(x,y,z,w)) hf
    have hp:plz (x,y,z,w)=(quo (x,y,z,w),true):=if_neg hf
    have hq:quo (x,y,z,w)=(x / (g4 x y z w:Int),y / (g4 x y z w:Int),z / (g4 x y z w:Int),w / (g4 x y z w:Int)):=rfl
    rw [hp,hq]
    obtain ⟨g,hgg⟩:∃ g,g=g4 x y z w:=⟨_,rfl⟩
    have hg':Nat.gcd (Nat.gcd (Nat.gcd x.natAbs y.natAbs) z.natAbs) w.natAbs=g:=hgg.symm
    rw [hg'] at c4 l3
    rw [<- hgg] at hg ⊢
    have sg':Sz 2500 (g:Int):=aA9 l3
    have g0:(g:Int)≠0:=by omega
    have c5:aAj [b_ false,s_ (N g)]=some (enc (g:Int)):=aGq (Nat.le_trans ((aAH _ _).2 l3) kQ)
    obtain ⟨x1,hx1⟩:∃ v,v=x / (g:Int):=⟨_,rfl⟩
    obtain ⟨y1,hy1⟩:∃ v,v=y / (g:Int):=⟨_,rfl⟩
    obtain ⟨z1,hz1⟩:∃ v,v=z / (g:Int):=⟨_,rfl⟩
    obtain ⟨v1,hv1⟩:∃ v,v=w / (g:Int):=⟨_,rfl⟩
    obtain ⟨x2,d1⟩:∃ v,aAh ([b_ n1,s_ a1]++enc (g:Int))=some (enc x1++enc v++[b_ true]):=⟨_,by rw [hx1];exact aB9 ix (ZI.can sg') kQ kQ g0⟩
    obtain ⟨y2,d2⟩:∃ v,aAh ([b_ n2,s_ a2]++enc (g:Int))=some (enc y1++enc v++[b_ true]):=⟨_,by rw [hy1];exact aB9 iy (ZI.can sg') kQ kQ g0⟩
    obtain ⟨z2,d3⟩:∃ v,aAh ([b_ n3,s_ a3]++enc (g:Int))=some (enc z1++enc v++[b_ true]):=⟨_,by rw [hz1];exact aB9 iz (ZI.can sg') kQ kQ g0⟩
    obtain ⟨v2,d4⟩:∃ v,aAh ([b_ n4,s_ a4]++enc (g:Int))=some (enc v1++enc v++[b_ true]):=⟨_,by rw [hv1];exact aB9 iw (ZI.can sg') kQ kQ g0⟩
    rw [<- hx1,<- hy1,<- hz1,<- hv1]
    clear hx1 hy1 hz1 hv1 hp hq hgg hg' hf
    exact gC aA6 c1 (gC aA6 c2 (gC aA6 c3 (gC aA6 c4 (gC aAj c5 (gC aAh d1 (gC aAh d2 (gC aAh d3 (gC aAh d4 (aAc kK)))))))))
  ·rw [aBI] at ey
   have hf:¬ Flat (x,y,z,w):=λ hh=>of_decide_eq_false ey hh.2.1
   have hg:0 < (g4 x y z w:Int):=aFi (p:=(x,y,z,w)) hf
   have hp:plz (x,y,z,w)=(quo (x,y,z,w),true):=if_neg hf
   have hq:quo (x,y,z,w)=(x / (g4 x y z w:Int),y / (g4 x y z w:Int),z / (g4 x y z w:Int),w / (g4 x y z w:Int)):=rfl
   rw [hp,hq]
   obtain ⟨g,hgg⟩:∃ g,g=g4 x y z w:=⟨_,rfl⟩
   have hg':Nat.gcd (Nat.gcd (Nat.gcd x.natAbs y.natAbs) z.natAbs) w.natAbs=g:=hgg.symm
   rw [hg'] at c4 l3
   rw [<- hgg] at hg ⊢
   have sg':Sz 2500 (g:Int):=aA9 l3
   have g0:(g:Int)≠0:=by omega
   have c5:aAj [b_ false,s_ (N g)]=some (enc (g:Int)):=aGq (Nat.le_trans ((aAH _ _).2 l3) kQ)
   obtain ⟨x1,hx1⟩:∃ v,v=x / (g:Int):=⟨_,rfl⟩
   obtain ⟨y1,hy1⟩:∃ v,v=y / (g:Int):=⟨_,rfl⟩
   obtain ⟨z1,hz1⟩:∃ v,v=z / (g:Int):=⟨_,rfl⟩
   obtain ⟨v1,hv1⟩:∃ v,v=w / (g:Int):=⟨_,rfl⟩
   obtain ⟨x2,d1⟩:∃ v,aAh ([b_ n1,s_ a1]++enc (g:Int))=some (enc x1++enc v++[b_ true]):=⟨_,by rw [hx1];exact aB9 ix (ZI.can sg') kQ kQ g0⟩
   obtain ⟨y2,d2⟩:∃ v,aAh ([b_ n2,s_ a2]++enc (g:Int))=some (enc y1++enc v++[b_ true]):=⟨_,by rw [hy1];exact aB9 iy (ZI.can sg') kQ kQ g0⟩
   obtain ⟨z2,d3⟩:∃ v,aAh ([b_ n3,s_ a3]++enc (g:Int))=some (enc z1++enc v++[b_ true]):=⟨_,by rw [hz1];exact aB9 iz (ZI.can sg') kQ kQ g0⟩
   obtain ⟨v2,d4⟩:∃ v,aAh ([b_ n4,s_ a4]++enc (g:Int))=some (enc v1++enc v++[b_ true]):=⟨_,by rw [hv1];exact aB9 iw (ZI.can sg') kQ kQ g0⟩
   rw [<- hx1,<- hy1,<- hz1,<- hv1]
   clear hx1 hy1 hz1 hv1 hp hq hgg hg' hf
   exact gC aA6 c1 (gC aA6 c2 (gC aA6 c3 (gC aA6 c4 (gC aAj c5 (gC aAh d1 (gC aAh d2 (gC aAh d3 (gC aAh d4 (aAc kK)))))))))
 ·rw [aBI] at ex
  have hf:¬ Flat (x,y,z,w):=λ hh=>of_decide_eq_false ex hh.1
  have hg:0 < (g4 x y z w:Int):=aFi (p:=(x,y,z,w)) hf
  have hp:plz (x,y,z,w)=(quo (x,y,z,w),true):=if_neg hf
  have hq:quo (x,y,z,w)=(x / (g4 x y z w:Int),y / (g4 x y z w:Int),z / (g4 x y z w:Int),w / (g4 x y z w:Int)):=rfl
  rw [hp,hq]
  obtain ⟨g,hgg⟩:∃ g,g=g4 x y z w:=⟨_,rfl⟩
  have hg':Nat.gcd (Nat.gcd (Nat.gcd x.natAbs y.natAbs) z.natAbs) w.natAbs=g:=hgg.symm
  rw [hg'] at c4 l3
  rw [<- hgg] at hg ⊢
  have sg':Sz 2500 (g:Int):=aA9 l3
  have g0:(g:Int)≠0:=by omega
  have c5:aAj [b_ false,s_ (N g)]=some (enc (g:Int)):=aGq (Nat.le_trans ((aAH _ _).2 l3) kQ)
  obtain ⟨x1,hx1⟩:∃ v,v=x / (g:Int):=⟨_,rfl⟩
  obtain ⟨y1,hy1⟩:∃ v,v=y / (g:Int):=⟨_,rfl⟩
  obtain ⟨z1,hz1⟩:∃ v,v=z / (g:Int):=⟨_,rfl⟩
  obtain ⟨v1,hv1⟩:∃ v,v=w / (g:Int):=⟨_,rfl⟩
  obtain ⟨x2,d1⟩:∃ v,aAh ([b_ n1,s_ a1]++enc (g:Int))=some (enc x1++enc v++[b_ true]):=⟨_,by rw [hx1];exact aB9 ix (ZI.can sg') kQ kQ g0⟩
  obtain ⟨y2,d2⟩:∃ v,aAh ([b_ n2,s_ a2]++enc (g:Int))=some (enc y1++enc v++[b_ true]):=⟨_,by rw [hy1];exact aB9 iy (ZI.can sg') kQ kQ g0⟩
  obtain ⟨z2,d3⟩:∃ v,aAh ([b_ n3,s_ a3]++enc (g:Int))=some (enc z1++enc v++[b_ true]):=⟨_,by rw [hz1];exact aB9 iz (ZI.can sg') kQ kQ g0⟩
  obtain ⟨v2,d4⟩:∃ v,aAh ([b_ n4,s_ a4]++enc (g:Int))=some (enc v1++enc v++[b_ true]):=⟨_,by rw [hv1];exact aB9 iw (ZI.can sg') kQ kQ g0⟩
  rw [<- hx1,<- hy1,<- hz1,<- hv1]
  clear hx1 hy1 hz1 hv1 hp hq hgg hg' hf
  exact gC aA6 c1 (gC aA6 c2 (gC aA6 c3 (gC aA6 c4 (gC aAj c5 (gC aAh d1 (gC aAh d2 (gC aAh d3 (gC aAh d4 (aAc kK)))))))))
end Go.Proofs.YtjefbecmeobegaaGreatDoor.Sp
namespace Go.Proofs.YtjefbecmeobegaaGreatDoor.Sp
open Go Go.RowKit Sx NatA NatB NatC NatD NatI NatJ IntZ RatZ PtZ PlZ
set_option maxHeartbeats 2000000 in
theorem g_lproj:Sx.Good Tryz.prog X.G 61 ⟨[.agg 8,.agg 8],.v1 (.agg 8)⟩ aFQ:=aAe aNN (λ _ _=>X.G_below) 400 kK (by kernel_rfl:_=some aJz) λ ds rs h=>by
 obtain ⟨⟨p,q⟩,⟨e1,e2,hp,hq,rfl⟩,rfl⟩:=Fo.inv (aKq 40 120) h
 obtain ⟨n1,a1,n2,a2,n3,a3,n4,a4,rfl,h1,h2,h3,h4,rfl⟩:=PI.inv hp
 obtain ⟨m1,b1,m2,b2,m3,b3,m4,b4,rfl,g1,g2,g3,g4,rfl⟩:=PI.inv hq
 show ∃ kk,aJz.run _ _ kk _ _=some (aAB (prj (Z n1 a1,Z n2 a2,Z n3 a3,Z n4 a4) (pv4 (Z m1 b1,Z m2 b2,Z m3 b3,Z m4 b4))))
 have k0:aBc [b_ n1,s_ a1,b_ n2,s_ a2,b_ n3,s_ a3,b_ n4,s_ a4]=some [i_ (axz (Z n1 a1,Z n2 a2,Z n3 a3,Z n4 a4):Int),b_ (decide (sgn (ix3 (Z n1 a1,Z n2 a2,Z n3 a3,Z n4 a4) (axz (Z n1 a1,Z n2 a2,Z n3 a3,Z n4 a4))) > 0))]:=Fo.eq (aAv 2000) (hp.le kQ)
 obtain ⟨u,hu⟩:∃ v,v=pv4 (Z m1 b1,Z m2 b2,Z m3 b3,Z m4 b4):=⟨_,rfl⟩
 have su:Sv 120 u:=by rw [hu];exact Sv.pv4 kQ ⟨.of g1,.of g2,.of g3,.of g4⟩
 have kc:aA3 [b_ m1,s_ b1,b_ m2,s_ b2,b_ m3,s_ b3,b_ m4,s_ b4]=some (aC1 u):=by rw [hu];exact Fo.eq (aAv 1500) (hq.le kQ)
 rw [<- hu]
 clear hu hp hq
 obtain ⟨u1,u2,u3⟩:=u
 obtain ⟨v1,v2,v3⟩:=su
 dsimp only at v1 v2 v3
 have kc:aA3 [b_ m1,s_ b1,b_ m2,s_ b2,b_ m3,s_ b3,b_ m4,s_ b4]=some (encR u1++(encR u2++encR u3)):=kc
 obtain ⟨x,hx⟩:∃ v,v=Z n1 a1:=⟨_,rfl⟩
 have ix:ZI 40 x [b_ n1,s_ a1]:=by rw [hx];exact .raw n1 h1
 have sx:Sz 40 x:=ix.sz
 obtain ⟨y,hy⟩:∃ v,v=Z n2 a2:=⟨_,rfl⟩
 have iy:ZI 40 y [b_ n2,s_ a2]:=by rw [hy];exact .raw n2 h2
 have sy:Sz 40 y:=iy.sz
 obtain ⟨z,hz⟩:∃ v,v=Z n3 a3:=⟨_,rfl⟩
 have iz:ZI 40 z [b_ n3,s_ a3]:=by rw [hz];exact .raw n3 h3
 have sz:Sz 40 z:=iz.sz
 obtain ⟨w,hw⟩:∃ v,v=Z n4 a4:=⟨_,rfl⟩
 have iw:ZI 40 w [b_ n4,s_ a4]:=by rw [hw];exact .raw n4 h4
 have sw:Sz 40 w:=iw.sz
 rw [<- hx,<- hy,<- hz,<- hw] at k0 ⊢
 clear hx hy hz hw
 generalize decide (sgn (ix3 (x,y,z,w) (axz (x,y,z,w))) > 0)=up at *
 obtain ⟨o,ho⟩:∃ o,o=(1:Int):=⟨_,rfl⟩
 have so:Sz 1 o:=by rw [ho];exact Sz.one
 have co:F_ifrom [i_ 1]=some (enc o):=by rw [ho];exact F_ifrom.eq kQ kQ
 obtain ⟨r1,hr1⟩:∃ v,v=((x:Int):Rat):=⟨_,rfl⟩
 have sr1:Sq 40 r1:=by rw [hr1];exact aBj kQ sx
 have cr1:aAm ([b_ n1,s_ a1]++enc o)=some (encR r1++[b_ true]):=by rw [hr1,ho];exact aBZ ix kQ
 obtain ⟨r2,hr2⟩:∃ v,v=((y:Int):Rat):=⟨_,rfl⟩
 have sr2:Sq 40 r2:=by rw [hr2];exact aBj kQ sy
 have cr2:aAm ([b_ n2,s_ a2]++enc o)=some (encR r2++[b_ true]):=by rw [hr2,ho];exact aBZ iy kQ
 obtain ⟨r3,hr3⟩:∃ v,v=((z:Int):Rat):=⟨_,rfl⟩
 have sr3:Sq 40 r3:=by rw [hr3];exact aBj kQ sz
 have cr3:aAm ([b_ n3,s_ a3]++enc o)=some (encR r3++[b_ true]):=by rw [hr3,ho];exact aBZ iz kQ
 obtain ⟨r4,hr4⟩:∃ v,v=((w:Int):Rat):=⟨_,rfl⟩
 have sr4:Sq 40 r4:=by rw [hr4];exact aBj kQ sw
 have cr4:aAm ([b_ n4,s_ a4]++enc o)=some (encR r4++[b_ true]):=by rw [hr4,ho];exact aBZ iw kQ
 refine ⟨0,?_⟩
 rcases aDq (x,y,z,w) with e | e | e
 ·rw [e] at k0
  have k0:aBc [b_ n1,s_ a1,b_ n2,s_ a2,b_ n3,s_ a3,b_ n4,s_ a4]=some [i_ 0,b_ up]:=k0
  obtain ⟨r21,hr21⟩:∃ v,v=r2*u2:=⟨_,rfl⟩
  have sr21:Sq 160 r21:=by rw [hr21];exact Sq.mul kQ sr2 v2
  have cr21:aAQ (encR r2++encR u2)=some (encR r21):=by rw [hr21];exact R2.at (RI.can sr2) (RI.can v2) kQ kQ
  obtain ⟨r22,hr22⟩:∃ v,v=r4 - r21:=⟨_,rfl⟩
  have sr22:Sq 201 r22:=by rw [hr22];exact aBx sr4 sr21
  have cr22:aAL (encR r4++encR r21)=some (encR r22):=by rw [hr22];exact R2.at (RI.can sr4) (RI.can sr21) kQ kQ
  obtain ⟨r23,hr23⟩:∃ v,v=r3*u3:=⟨_,rfl⟩
  have sr23:Sq 160 r23:=by rw [hr23];exact Sq.mul kQ sr3 v3
  have cr23:aAQ (encR r3++encR u3)=some (encR r23):=by rw [hr23];exact R2.at (RI.can sr3) (RI.can v3) kQ kQ
  obtain ⟨r24,hr24⟩:∃ v,v=r22 - r23:=⟨_,rfl⟩
  have sr24:Sq 362 r24:=by rw [hr24];exact aBx sr22 sr23
  have cr24:aAL (encR r22++encR r23)=some (encR r24):=by rw [hr24];exact R2.at (RI.can sr22) (RI.can sr23) kQ kQ
  obtain ⟨r25,hr25⟩:∃ v,v=r24 / r1:=⟨_,rfl⟩
  have sr25:Sq 402 r25:=by rw [hr25];exact aGo kQ sr24 sr1
  have cr25:aD2 (encR r24++encR r1)=some (encR r25++[b_ (!decide (r1=0))]):=by rw [hr25];exact R2.at (RI.can sr24) (RI.can sr1) kQ kQ
  have E:prj (x,y,z,w) (u1,u2,u3)=(r25,u2,u3):=by unfold prj;rw [e];dsimp only;rw [hr25,hr24,hr23,hr22,hr21,hr1,hr2,hr3,hr4];rfl
  rw [E]
  have fin:aA2 (aC1 (r25,u2,u3))=some (aAB (r25,u2,u3)):=Fo.eq (aDs 600) (VI.can ⟨sr25.le kQ,v2.le kQ,v3.le kQ⟩)
  have fin:aA2 (encR r25++(encR u2++encR u3))=some (enc4 (pt (r25,u2,u3))):=fin
  have ep:aAB (r25,u2,u3)=enc4 (pt (r25,u2,u3)):=rfl
  rw [ep]
  generalize pt (r25,u2,u3)=P at *
  clear E e ep ho hr1 hr2 hr3 hr4 hr21 hr22 hr23 hr24 hr25
  refine gC aBc k0 ?_
  refine gC aA3 kc ?_
  refine gC F_ifrom co ?_
  refine gC aAm cr4 ?_
  refine gC F_ifrom co ?_
  refine gC aAm cr1 ?_
  refine gP (aAz _ _ .i64 0 0) (aBi (b:=(0:Int) == 0) kK rfl ?_)
  refine gC F_ifrom co ?_
  refine gC aAm cr2 ?_
  refine gP (aAz _ _ .i64 1 0) (aE4 (b:=(1:Int) == 0) kK rfl ?_)
  refine gC aAQ cr21 ?_
  refine gC aAL cr22 ?_
  refine gC F_ifrom co ?_
  refine gC aAm cr3 ?_
  refine gP (aAz _ _ .i64 2 0) (aE4 (b:=(2:Int) == 0) kK rfl ?_)
  refine gC aAQ cr23 ?_
  refine gC aAL cr24 ?_
  refine gC aD2 cr25 ?_
  refine aD7 (k:=.i64) (i:=16) (j:=0) kK ?_
  exact gC aA2 fin (aAc kK)
 ·rw [e] at k0
  have k0:aBc [b_ n1,s_ a1,b_ n2,s_ a2,b_ n3,s_ a3,b_ n4,s_ a4]=some [i_ 1,b_ up]:=k0
  obtain ⟨r21,hr21⟩:∃ v,v=r1*u1:=⟨_,rfl⟩
  have sr21:Sq 160 r21:=by rw [hr21];exact Sq.mul kQ sr1 v1
  have cr21:aAQ (encR r1++encR u1)=some (encR r21):=by rw [hr21];exact R2.at (RI.can sr1) (RI.can v1) kQ kQ
  obtain ⟨r22,hr22⟩:∃ v,v=r4 - r21:=⟨_,rfl⟩
  have sr22:Sq 201 r22:=by rw [hr22];exact aBx sr4 sr21
  have cr22:aAL (encR r4++encR r21)=some (encR r22):=by rw [hr22];exact R2.at (RI.can sr4) (RI.can sr21) kQ kQ
  obtain ⟨r23,hr23⟩:∃ v,v=r3*u3:=⟨_,rfl⟩
  have sr23:Sq 160 r23:=by rw [hr23];exact Sq.mul kQ sr3 v3
  have cr23:aAQ (encR r3++encR u3)=some (encR r23):=by rw [hr23];exact R2.at (RI.can sr3) (RI.can v3) kQ kQ
  obtain ⟨r24,hr24⟩:∃ v,v=r22 - r23:=⟨_,rfl⟩
  have sr24:Sq 362 r24:=by rw [hr24];exact aBx sr22 sr23
  have cr24:aAL (encR r22++encR r23)=some (encR r24):=by rw [hr24];exact R2.at (RI.can sr22) (RI.can sr23) kQ kQ
  obtain ⟨r25,hr25⟩:∃ v,v=r24 / r2:=⟨_,rfl⟩
  have sr25:Sq 402 r25:=by rw [hr25];exact aGo kQ sr24 sr2
  have cr25:aD2 (encR r24++encR r2)=some (encR r25++[b_ (!decide (r2=0))]):=by rw [hr25];exact R2.at (RI.can sr24) (RI.can sr2) kQ kQ
  have E:prj (x,y,z,w) (u1,u2,u3)=(u1,r25,u3):=by unfold prj;rw [e];dsimp only;rw [hr25,hr24,hr23,hr22,hr21,hr1,hr2,hr3,hr4];rfl
  rw [E]
  have fin:aA2 (aC1 (u1,r25,u3))=some (aAB (u1,r25,u3)):=Fo.eq (aDs 600) (VI.can ⟨v1.le kQ,sr25.le kQ,v3.le kQ⟩)
  have fin:aA2 (encR u1++(encR r25++encR u3))=some (enc4 (pt (u1,r25,u3))):=fin
  have ep:aAB (u1,r25,u3)=enc4 (pt (u1,r25,u3)):=rfl
  rw [ep]
  generalize pt (u1,r25,u3)=P at *
  clear E e ep ho hr1 hr2 hr3 hr4 hr21 hr22 hr23 hr24 hr25
  refine gC aBc k0 ?_
  refine gC aA3 kc ?_
  refine gC F_ifrom co ?_
  refine gC aAm cr4 ?_
  refine gC F_ifrom co ?_
  refine gC aAm cr1 ?_
  refine gP (aAz _ _ .i64 0 1) (aE4 (b:=(0:Int) == 1) kK rfl ?_)
  refine gC aAQ cr21 ?_
  refine gC aAL cr22 ?_
  refine gC F_ifrom co ?_
  refine gC aAm cr2 ?_
  refine gP (aAz _ _ .i64 1 1) (aBi (b:=(1:Int) == 1) kK rfl ?_)
  refine gC F_ifrom co ?_
  refine gC aAm cr3 ?_
  refine gP (aAz _ _ .i64 2 1) (aE4 (b:=(2:Int) == 1) kK rfl ?_)
  refine gC aAQ cr23 ?_
  refine gC aAL cr24 ?_
  refine gC aD2 cr25 ?_
  refine aCe (k:=.i64) (n:=1) (i:=16) (j:=0) kK kQ (?_)
  refine aD7 (k:=.i64) (i:=16) (j:=1) kK ?_
  exact gC aA2 fin (aAc kK)
 ·rw [e] at k0
  have k0:aBc [b_ n1,s_ a1,b_ n2,s_ a2,b_ n3,s_ a3,b_ n4,s_ a4]=some [i_ 2,b_ up]:=k0
  obtain ⟨r21,hr21⟩:∃ v,v=r1*u1:=⟨_,rfl⟩
  have sr21:Sq 160 r21:=by rw [hr21];exact Sq.mul kQ sr1 v1
  have cr21:aAQ (encR r1++encR u1)=some (encR r21):=by rw [hr21];exact R2.at (RI.can sr1) (RI.can v1) kQ kQ
  obtain ⟨r22,hr22⟩:∃ v,v=r4 - r21:=⟨_,rfl⟩
  have sr22:Sq 201 r22:=by rw [hr22];exact aBx sr4 sr21
  have cr22:aAL (encR r4++encR r21)=some (encR r22):=by rw [hr22];exact R2.at (RI.can sr4) (RI.can sr21) kQ kQ
  obtain ⟨r23,hr23⟩:∃ v,v=r2*u2:=⟨_,rfl⟩
  have sr23:Sq 160 r23:=by rw [hr23];exact Sq.mul kQ sr2 v2
  have cr23:aAQ (encR r2++encR u2)=some (encR r23):=by rw [hr23];exact R2.at (RI.can sr2) (RI.can v2) kQ kQ
  obtain ⟨r24,hr24⟩:∃ v,v=r22 - r23:=⟨_,rfl⟩
  have sr24:Sq 362 r24:=by rw [hr24];exact aBx sr22 sr23
  have cr24:aAL (encR r22++encR r23)=some (encR r24):=by rw [hr24];exact R2.at (RI.can sr22) (RI.can sr23) kQ kQ
  obtain ⟨r25,hr25⟩:∃ v,v=r24 / r3:=⟨_,rfl⟩
  have sr25:Sq 402 r25:=by rw [hr25];exact aGo kQ sr24 sr3
  have cr25:aD2 (encR r24++encR r3)=some (encR r25++[b_ (!decide (r3=0))]):=by rw [hr25];exact R2.at (RI.can sr24) (RI.can sr3) kQ kQ
  have E:prj (x,y,z,w) (u1,u2,u3)=(u1,u2,r25):=by unfold prj;rw [e];dsimp only;rw [hr25,hr24,hr23,hr22,hr21,hr1,hr2,hr3,hr4];rfl
  rw [E]
  have fin:aA2 (aC1 (u1,u2,r25))=some (aAB (u1,u2,r25)):=Fo.eq (aDs 600) (VI.can ⟨v1.le kQ,v2.le kQ,sr25.le kQ⟩)
  have fin:aA2 (encR u1++(encR u2++encR r25))=some (enc4 (pt (u1,u2,r25))):=fin
  have ep:aAB (u1,u2,r25)=enc4 (pt (u1,u2,r25)):=rfl
  rw [ep]
  generalize pt (u1,u2,r25)=P at *
  clear E e ep ho hr1 hr2 hr3 hr4 hr21 hr22 hr23 hr24 hr25
  refine gC aBc k0 ?_
  refine gC aA3 kc ?_
  refine gC F_ifrom co ?_
  refine gC aAm cr4 ?_
  refine gC F_ifrom co ?_
  refine gC aAm cr1 ?_
  refine gP (aAz _ _ .i64 0 2) (aE4 (b:=(0:Int) == 2) kK rfl ?_)
  refine gC aAQ cr21 ?_
  refine gC aAL cr22 ?_
  refine gC F_ifrom co ?_
  refine gC aAm cr2 ?_
  refine gP (aAz _ _ .i64 1 2) (aE4 (b:=(1:Int) == 2) kK rfl ?_)
  refine gC aAQ cr23 ?_
  refine gC aAL cr24 ?_
  refine gC F_ifrom co ?_
  refine gC aAm cr3 ?_
  refine gP (aAz _ _ .i64 2 2) (aBi (b:=(2:Int) == 2) kK rfl ?_)
  refine gC aD2 cr25 ?_
  refine aCe (k:=.i64) (n:=2) (i:=16) (j:=0) kK kQ (aCe (k:=.i64) (n:=2) (i:=16) (j:=1) kK kQ (?_))
  refine aD7 (k:=.i64) (i:=16) (j:=2) kK ?_
  exact gC aA2 fin (aAc kK)
end Go.Proofs.YtjefbecmeobegaaGreatDoor.Sp
