import Derived.Test.YtjefbecmeobegaaGreatDoorSpB
import Derived.Test.YtjefbecmeobegaaGreatDoorSpU
import Derived.Test.YtjefbecmeobegaaGreatDoorTr1
namespace Go.Proofs.YtjefbecmeobegaaGreatDoor.Sp
open Go Go.RowKit Sx NatA NatB NatC NatD NatI NatJ IntZ RatZ PtZ
set_option maxHeartbeats 2000000 in
theorem aKl:Sx.Good Tryz.prog X.G 20 ⟨[.agg 8],.v1 (.agg 8)⟩ aAL:=aAe aKm (fun _ _=>X.G_below) 400 (by kernel_rfl) (by kernel_rfl:_=some aGB) fun ds rs h=>by
 obtain ⟨p,hp,rfl⟩:=Fo.inv (aAx 2500) h
 obtain ⟨n1,a1,n2,a2,n3,a3,n4,a4,rfl,h1,h2,h3,h4,rfl⟩:=hp.inv
 obtain ⟨x,ex⟩:∃ x,x=Z n1 a1:=⟨_,rfl⟩
 obtain ⟨y,ey⟩:∃ x,x=Z n2 a2:=⟨_,rfl⟩
 obtain ⟨z,ez⟩:∃ x,x=Z n3 a3:=⟨_,rfl⟩
 obtain ⟨w,ew⟩:∃ x,x=Z n4 a4:=⟨_,rfl⟩
 have sx:Sz 2500 x:=by rw [ex];exact .of h1
 have sy:Sz 2500 y:=by rw [ey];exact .of h2
 have sz:Sz 2500 z:=by rw [ez];exact .of h3
 have sw:Sz 2500 w:=by rw [ew];exact .of h4
 show ∃ kk,aGB.run _ _ kk _ _=some (enc4 (pt (pv (Z n1 a1) (Z n2 a2) (Z n3 a3) (Z n4 a4))))
 have k1:aAj [b_ n1,s_ a1]=some (enc x):=by rw [ex];exact I1.eq (by omega)
 have k2:aAj [b_ n2,s_ a2]=some (enc y):=by rw [ey];exact I1.eq (by omega)
 have k3:aAj [b_ n3,s_ a3]=some (enc z):=by rw [ez];exact I1.eq (by omega)
 have k4:aAj [b_ n4,s_ a4]=some (enc w):=by rw [ew];exact I1.eq (by omega)
 have k5:aAv (enc w)=some [i_ (sgn w)]:=I1.can (sw.le (by decide))
 have hpt:pt (pv x y z w)=nrm (x,y,z,w1 w):=(aPL (aRW w)).symm
 rw [← ex,← ey,← ez,← ew,hpt]
 clear hpt ex ey ez ew
 refine ⟨0,?_⟩
 refine gC aAj k1 (gC aAj k2 (gC aAj k3 (gC aAj k4 (gC aAv k5 (gP (aAD _ _ .i64 (sgn w) 0) ?_)))))
 refine aAt (b:=sgn w == 0) (by kernel_rfl) (fun hz=>?_) (fun hz=>?_)
 ·have hw:w=0:=by rw [aBJ] at hz;exact of_decide_eq_true hz
  obtain ⟨o,ho⟩:∃ o,o=(1:Int):=⟨_,rfl⟩
  have so:Sz 2500 o:=by rw [ho];exact Sz.one.le (by decide)
  have k6:F_ifrom [i_ 1]=some (enc o):=by rw [ho];exact F_ifrom.eq (by decide) (by decide)
  have hw1:w1 w=o:=by rw [ho];exact if_pos hw
  rw [hw1]
  refine gC F_ifrom k6 ?_
  have hw0:o≠0:=by rw [ho];decide
  have lx:=aAX sx
  have ly:=aAX sy
  have lz:=aAX sz
  have lw:=aAX so
  have l1:=aBF lx ly
  have l2:=aBF l1 lz
  have l3:=aBF l2 lw
  have c1:=aFz lx (by decide)
  have c2:=aBI lx ly (by decide)
  have c3:=aBI l1 lz (by decide)
  have c4:=aBI l2 lw (by decide)
  have hgp:0 < g4 x y z o:=aGh hw0
  obtain ⟨e1,e2,e3,e4⟩:=aE2 x y z o
  have hr:=aIL x y z o
  obtain ⟨g,hg⟩:∃ g,g=g4 x y z o:=⟨_,rfl⟩
  have hg':Nat.gcd (Nat.gcd (Nat.gcd x.natAbs y.natAbs) z.natAbs) o.natAbs=g:=hg.symm
  rw [hg'] at c4 l3
  rw [← hg] at e1 e2 e3 e4 hr
  have sg':Sz 2500 (g:Int):=aA7 l3
  have g0:(g:Int)≠0:=by omega
  have c5:aAj [b_ false,s_ (N g)]=some (enc (g:Int)):=aGj (Nat.le_trans ((aAG _ _).2 l3) (by decide))
  rw [← Int.neg_ediv_of_dvd e1,← Int.neg_ediv_of_dvd e2,← Int.neg_ediv_of_dvd e3,← Int.neg_ediv_of_dvd e4] at hr
  have i4:aAv (enc o)=some [i_ (sgn o)]:=I1.can (so.le (by decide))
  rw [hr]
  obtain ⟨x0,hx0⟩:∃ v,v=-x:=⟨_,rfl⟩
  have sx0:Sz 2500 x0:=by rw [hx0];exact sx.neg
  have mx:aAn (enc x)=some (enc x0):=by rw [hx0];exact I1.can (sx.le (by decide))
  rw [← hx0]
  obtain ⟨x1,hx1⟩:∃ v,v=x0 / (g:Int):=⟨_,rfl⟩
  obtain ⟨x2,nx⟩:∃ v,aAg (enc x0++enc (g:Int))=some (enc x1++enc v++[b_ true]):=⟨_,by rw [hx1];exact aA1 sx0 sg' (by decide) g0⟩
  obtain ⟨x3,hx3⟩:∃ v,v=x / (g:Int):=⟨_,rfl⟩
  obtain ⟨x4,dx⟩:∃ v,aAg (enc x++enc (g:Int))=some (enc x3++enc v++[b_ true]):=⟨_,by rw [hx3];exact aA1 sx sg' (by decide) g0⟩
  rw [← hx1,← hx3]
  obtain ⟨y0,hy0⟩:∃ v,v=-y:=⟨_,rfl⟩
  have sy0:Sz 2500 y0:=by rw [hy0];exact sy.neg
  have my:aAn (enc y)=some (enc y0):=by rw [hy0];exact I1.can (sy.le (by decide))
  rw [← hy0]
  obtain ⟨y1,hy1⟩:∃ v,v=y0 / (g:Int):=⟨_,rfl⟩
  obtain ⟨y2,ny⟩:∃ v,aAg (enc y0++enc (g:Int))=some (enc y1++enc v++[b_ true]):=⟨_,by rw [hy1];exact aA1 sy0 sg' (by decide) g0⟩
  obtain ⟨y3,hy3⟩:∃ v,v=y / (g:Int):=⟨_,rfl⟩
  obtain ⟨y4,dy⟩:∃ v,aAg (enc y++enc (g:Int))=some (enc y3++enc v++[b_ true]):=⟨_,by rw [hy3];exact aA1 sy sg' (by decide) g0⟩
  rw [← hy1,← hy3]
  obtain ⟨z0,hz0⟩:∃ v,v=-z:=⟨_,rfl⟩
  have sz0:Sz 2500 z0:=by rw [hz0];exact sz.neg
  have mz:aAn (enc z)=some (enc z0):=by rw [hz0];exact I1.can (sz.le (by decide))
  rw [← hz0]
  obtain ⟨z1,hz1⟩:∃ v,v=z0 / (g:Int):=⟨_,rfl⟩
  obtain ⟨z2,nz⟩:∃ v,aAg (enc z0++enc (g:Int))=some (enc z1++enc v++[b_ true]):=⟨_,by rw [hz1];exact aA1 sz0 sg' (by decide) g0⟩
  obtain ⟨z3,hz3⟩:∃ v,v=z / (g:Int):=⟨_,rfl⟩
  obtain ⟨z4,dz⟩:∃ v,aAg (enc z++enc (g:Int))=some (enc z3++enc v++[b_ true]):=⟨_,by rw [hz3];exact aA1 sz sg' (by decide) g0⟩
  rw [← hz1,← hz3]
  obtain ⟨w0,hw0⟩:∃ v,v=-o:=⟨_,rfl⟩
  have sw0:Sz 2500 w0:=by rw [hw0];exact so.neg
  have mw:aAn (enc o)=some (enc w0):=by rw [hw0];exact I1.can (so.le (by decide))
  rw [← hw0]
  obtain ⟨w1,hw1⟩:∃ v,v=w0 / (g:Int):=⟨_,rfl⟩
  obtain ⟨w2,nw⟩:∃ v,aAg (enc w0++enc (g:Int))=some (enc w1++enc v++[b_ true]):=⟨_,by rw [hw1];exact aA1 sw0 sg' (by decide) g0⟩
  obtain ⟨w3,hw3⟩:∃ v,v=o / (g:Int):=⟨_,rfl⟩
  obtain ⟨w4,dw⟩:∃ v,aAg (enc o++enc (g:Int))=some (enc w3++enc v++[b_ true]):=⟨_,by rw [hw3];exact aA1 so sg' (by decide) g0⟩
  rw [← hw1,← hw3]
  have hs:=aJx o
  generalize sgn o=S at *
  clear hr hg hg'
  refine gC aAv i4 (gP (aAi _ _ .i64 S 0) ?_)
  refine gC aA4 c1 (gC aA4 c2 (gC aA4 c3 (gC aA4 c4 (gC aAj c5 (aAt (b:=decide (S < 0)) (by kernel_rfl) (fun ht=>?_) (fun ht=>?_))))))
  ·rw [if_pos (hs.1 (of_decide_eq_true ht))]
   exact gC aAn mx (gC aAg nx (gC aAn my (gC aAg ny (gC aAn mz (gC aAg nz (gC aAn mw (gC aAg nw (aAc (by kernel_rfl)))))))))
  ·rw [if_neg (fun hh=>of_decide_eq_false ht (hs.2 hh))]
   exact gC aAg dx (gC aAg dy (gC aAg dz (gC aAg dw (aAc (by kernel_rfl)))))
 ·have hw:w≠0:=fun hh=>by rw [hh] at hz;exact absurd hz (by decide)
  have hw1:w1 w=w:=if_neg hw
  rw [hw1]
  have hw0:w≠0:=hw
  have lx:=aAX sx
  have ly:=aAX sy
  have lz:=aAX sz
  have lw:=aAX sw
  have l1:=aBF lx ly
  have l2:=aBF l1 lz
  have l3:=aBF l2 lw
  have c1:=aFz lx (by decide)
  have c2:=aBI lx ly (by decide)
  have c3:=aBI l1 lz (by decide)
  have c4:=aBI l2 lw (by decide)
  have hgp:0 < g4 x y z w:=aGh hw0
  obtain ⟨e1,e2,e3,e4⟩:=aE2 x y z w
  have hr:=aIL x y z w
  obtain ⟨g,hg⟩:∃ g,g=g4 x y z w:=⟨_,rfl⟩
  have hg':Nat.gcd (Nat.gcd (Nat.gcd x.natAbs y.natAbs) z.natAbs) w.natAbs=g:=hg.symm
  rw [hg'] at c4 l3
  rw [← hg] at e1 e2 e3 e4 hr
  have sg':Sz 2500 (g:Int):=aA7 l3
  have g0:(g:Int)≠0:=by omega
  have c5:aAj [b_ false,s_ (N g)]=some (enc (g:Int)):=aGj (Nat.le_trans ((aAG _ _).2 l3) (by decide))
  rw [← Int.neg_ediv_of_dvd e1,← Int.neg_ediv_of_dvd e2,← Int.neg_ediv_of_dvd e3,← Int.neg_ediv_of_dvd e4] at hr
  have i4:aAv (enc w)=some [i_ (sgn w)]:=I1.can (sw.le (by decide))
  rw [hr]
  obtain ⟨x0,hx0⟩:∃ v,v=-x:=⟨_,rfl⟩
  have sx0:Sz 2500 x0:=by rw [hx0];exact sx.neg
  have mx:aAn (enc x)=some (enc x0):=by rw [hx0];exact I1.can (sx.le (by decide))
  rw [← hx0]
  obtain ⟨x1,hx1⟩:∃ v,v=x0 / (g:Int):=⟨_,rfl⟩
  obtain ⟨x2,nx⟩:∃ v,aAg (enc x0++enc (g:Int))=some (enc x1++enc v++[b_ true]):=⟨_,by rw [hx1];exact aA1 sx0 sg' (by decide) g0⟩
  obtain ⟨x3,hx3⟩:∃ v,v=x / (g:Int):=⟨_,rfl⟩
  obtain ⟨x4,dx⟩:∃ v,aAg (enc x++enc (g:Int))=some (enc x3++enc v++[b_ true]):=⟨_,by rw [hx3];exact aA1 sx sg' (by decide) g0⟩
  rw [← hx1,← hx3]
  obtain ⟨y0,hy0⟩:∃ v,v=-y:=⟨_,rfl⟩
  have sy0:Sz 2500 y0:=by rw [hy0];exact sy.neg
  have my:aAn (enc y)=some (enc y0):=by rw [hy0];exact I1.can (sy.le (by decide))
  rw [← hy0]
  obtain ⟨y1,hy1⟩:∃ v,v=y0 / (g:Int):=⟨_,rfl⟩
  obtain ⟨y2,ny⟩:∃ v,aAg (enc y0++enc (g:Int))=some (enc y1++enc v++[b_ true]):=⟨_,by rw [hy1];exact aA1 sy0 sg' (by decide) g0⟩
  obtain ⟨y3,hy3⟩:∃ v,v=y / (g:Int):=⟨_,rfl⟩
  obtain ⟨y4,dy⟩:∃ v,aAg (enc y++enc (g:Int))=some (enc y3++enc v++[b_ true]):=⟨_,by rw [hy3];exact aA1 sy sg' (by decide) g0⟩
  rw [← hy1,← hy3]
  obtain ⟨z0,hz0⟩:∃ v,v=-z:=⟨_,rfl⟩
  have sz0:Sz 2500 z0:=by rw [hz0];exact sz.neg
  have mz:aAn (enc z)=some (enc z0):=by rw [hz0];exact I1.can (sz.le (by decide))
  rw [← hz0]
  obtain ⟨z1,hz1⟩:∃ v,v=z0 / (g:Int):=⟨_,rfl⟩
  obtain ⟨z2,nz⟩:∃ v,aAg (enc z0++enc (g:Int))=some (enc z1++enc v++[b_ true]):=⟨_,by rw [hz1];exact aA1 sz0 sg' (by decide) g0⟩
  obtain ⟨z3,hz3⟩:∃ v,v=z / (g:Int):=⟨_,rfl⟩
  obtain ⟨z4,dz⟩:∃ v,aAg (enc z++enc (g:Int))=some (enc z3++enc v++[b_ true]):=⟨_,by rw [hz3];exact aA1 sz sg' (by decide) g0⟩
  rw [← hz1,← hz3]
  obtain ⟨w0,hw0⟩:∃ v,v=-w:=⟨_,rfl⟩
  have sw0:Sz 2500 w0:=by rw [hw0];exact sw.neg
  have mw:aAn (enc w)=some (enc w0):=by rw [hw0];exact I1.can (sw.le (by decide))
  rw [← hw0]
  obtain ⟨w1,hw1⟩:∃ v,v=w0 / (g:Int):=⟨_,rfl⟩
  obtain ⟨w2,nw⟩:∃ v,aAg (enc w0++enc (g:Int))=some (enc w1++enc v++[b_ true]):=⟨_,by rw [hw1];exact aA1 sw0 sg' (by decide) g0⟩
  obtain ⟨w3,hw3⟩:∃ v,v=w / (g:Int):=⟨_,rfl⟩
  obtain ⟨w4,dw⟩:∃ v,aAg (enc w++enc (g:Int))=some (enc w3++enc v++[b_ true]):=⟨_,by rw [hw3];exact aA1 sw sg' (by decide) g0⟩
  rw [← hw1,← hw3]
  have hs:=aJx w
  generalize sgn w=S at *
  clear hr hg hg'
  refine gC aAv i4 (gP (aAi _ _ .i64 S 0) ?_)
  refine gC aA4 c1 (gC aA4 c2 (gC aA4 c3 (gC aA4 c4 (gC aAj c5 (aAt (b:=decide (S < 0)) (by kernel_rfl) (fun ht=>?_) (fun ht=>?_))))))
  ·rw [if_pos (hs.1 (of_decide_eq_true ht))]
   exact gC aAn mx (gC aAg nx (gC aAn my (gC aAg ny (gC aAn mz (gC aAg nz (gC aAn mw (gC aAg nw (aAc (by kernel_rfl)))))))))
  ·rw [if_neg (fun hh=>of_decide_eq_false ht (hs.2 hh))]
   exact gC aAg dx (gC aAg dy (gC aAg dz (gC aAg dw (aAc (by kernel_rfl)))))
def tbDc:Tb:=(20,aAL)::aQT
theorem okDc:TbOk Tryz.prog X.G tbDc:=.cons (by kernel_rfl) aKl aQU
set_option maxHeartbeats 2000000 in
theorem aPQ:Sx.Good Tryz.prog X.G 22 ⟨[.agg 8],.v1 (.agg 9)⟩ aA5:=aAe okDc (fun _ _=>X.G_below) 400 (by kernel_rfl) (by kernel_rfl:_=some aFI) fun ds rs h=>by
 obtain ⟨p,hp,rfl⟩:=Fo.inv (aAx 1500) h
 obtain ⟨n1,a1,n2,a2,n3,a3,n4,a4,rfl,h1,h2,h3,h4,rfl⟩:=hp.inv
 obtain ⟨v,hv⟩:∃ v,v=pv4 (Z n1 a1,Z n2 a2,Z n3 a3,Z n4 a4):=⟨_,rfl⟩
 have k1:aAL [b_ n1,s_ a1,b_ n2,s_ a2,b_ n3,s_ a3,b_ n4,s_ a4]=some (aBc v):=by
  rw [hv]
  exact Fo.eq (aAx 2500) (PI.mk (.raw n1 (by omega)) (.raw n2 (by omega)) (.raw n3 (by omega)) (.raw n4 (by omega)))
 have sv:Sv 1500 v:=by rw [hv];exact Sv.pv4 (by decide) ⟨.of h1,.of h2,.of h3,.of h4⟩
 rw [← hv]
 clear hv
 obtain ⟨z1,z2,z3,z4⟩:=S4.pt sv
 have hw:=aB8 v
 have hco:=aBZ v
 have hp:aBc v=enc4 (pt v):=rfl
 rw [hp] at k1
 generalize pt v=p at *
 obtain ⟨x,y,z,w⟩:=p
 dsimp only at z1 z2 z3 z4 hw
 have r1:aAw (enc x++enc w)=some (encR (Rat.divInt x w)++[b_ (!decide (w=0))]):=I2.can (z1.le (by decide)) (z4.le (by decide))
 have r2:aAw (enc y++enc w)=some (encR (Rat.divInt y w)++[b_ (!decide (w=0))]):=I2.can (z2.le (by decide)) (z4.le (by decide))
 have r3:aAw (enc z++enc w)=some (encR (Rat.divInt z w)++[b_ (!decide (w=0))]):=I2.can (z3.le (by decide)) (z4.le (by decide))
 have hco:(Rat.divInt x w,Rat.divInt y w,Rat.divInt z w)=v:=hco
 rw [← hco]
 clear hco
 generalize Rat.divInt x w=a at *
 generalize Rat.divInt y w=b at *
 generalize Rat.divInt z w=c at *
 exact ⟨0,gC aAL k1 (gC aAw r1 (gC aAw r2 (gC aAw r3 (aAc (by kernel_rfl)))))⟩
end Go.Proofs.YtjefbecmeobegaaGreatDoor.Sp
