import Derived.Test.YtjefbecmeobegaaGreatDoorSpK
import Derived.Test.YtjefbecmeobegaaGreatDoorSpO
import Derived.Test.YtjefbecmeobegaaGreatDoorTr1
namespace Go.Proofs.YtjefbecmeobegaaGreatDoor.Sp
open Go Go.RowKit Sx NatA NatB NatC NatD NatI NatJ IntZ RatZ PtZ
theorem aBE {x y B:Nat} (hx:x < B) (hy:y < B):Nat.gcd x y < B:=by
 by_cases h:y=0
 ·rw [h,Nat.gcd_zero_right]
  exact hx
 ·exact Nat.lt_of_le_of_lt (aF4 h) hy
theorem aBH {s x y:Nat} (hx:x < 256 ^ s) (hy:y < 256 ^ s) (hs:s<=20000):aA6 [s_ (N x),s_ (N y)]=some [s_ (N (Nat.gcd x y))]:=S2.eqN (Nat.le_trans ((aAH _ _).2 hx) hs) (Nat.le_trans ((aAH _ _).2 hy) hs)
theorem aF6 {s y:Nat} (hy:y < 256 ^ s) (hs:s<=20000):aA6 [s_ (⟨#[]⟩:ByteArray),s_ (N y)]=some [s_ (N y)]:=by
 have:=aBH (s:=s) (x:=0) (Nat.pow_pos kQ) hy hs
 rw [aCn,Nat.gcd_zero_left] at this
 exact this
theorem aA1 {s:Nat} {x g:Int} (hx:Sz s x) (hg:Sz s g) (hs:s<=9000) (h0:g≠0):aAh (enc x++enc g)=some (enc (x / g)++enc (x % g)++[b_ true]):=by
 rw [aAh,I2.can (hx.le hs) (hg.le hs)]
 unfold aGy aEb
 rw [if_neg h0]
 rfl
theorem aIN (x y z w:Int):nrm (x,y,z,w)=if w < 0 then (-(x / (g4 x y z w:Int)),-(y / (g4 x y z w:Int)),-(z / (g4 x y z w:Int)),-(w / (g4 x y z w:Int))) else (x / (g4 x y z w:Int),y / (g4 x y z w:Int),z / (g4 x y z w:Int),w / (g4 x y z w:Int)):=by
 unfold nrm cd
 dsimp only
 split<;>rfl
def pv4 (p:Z4):V3:=pv p.1 p.2.1 p.2.2.1 p.2.2.2
theorem aOQ (v:V3):pv4 (pt v)=v:=aUP v
theorem Sv.pv4 {s:Nat} (hs:1<=s) {p:Z4} (h:S4 s p):Sv s (pv4 p):=Sv.pv hs h.1 h.2.1 h.2.2.1 h.2.2.2
abbrev aAB (v:V3):List D:=enc4 (pt v)
def aBd:Fct:=Fo (tkP 2500) λ p=>aAB (pv4 p)
def aA2:Fct:=Fo (tkV 600) aAB
def aA3:Fct:=Fo (tkP 1500) λ p=>aC1 (pv4 p)
def aOR:Fct:=Fo (tk2 (tkP 200) (tkP 200)) λ p=>[i_ (lex (pv4 p.1) (pv4 p.2))]
def aHn:Fct:=Fo (tk2 (tkP 200) (tkV 200)) λ p=>aAB (vadd (pv4 p.1) p.2)
def aMX:Fct:=Fo (tk2 (tkP 66) (tk2 (tkP 66) (tkR 66))) λ p=>aAB (vmid (pv4 p.1) (pv4 p.2.1) p.2.2)
def aNO (v:V3):ByteArray:=(⟨#[40]⟩:ByteArray)++aB7 [aCz v.1,aCz v.2.1,aCz v.2.2] ⟨#[44,32]⟩++(⟨#[41]⟩:ByteArray)
def aOS:Fct:=Fo (tkP 600) λ p=>[s_ (aNO (pv4 p))]
theorem aS9 (r s t r' s' t' x:Rat):vmid (r,s,t) (r',s',t') x=vadd (r,s,t) (x*(r' - r),x*(s' - s),x*(t' - t)):=by
 unfold vmid vadd
 dsimp only
theorem aIw (s:Nat):Takes (tk2 (tkP s) (tkP s)) (And2 (PI s) (PI s)):=(aAv s).two (aAv s)
theorem aLt (s:Nat):Takes (tk2 (tkP s) (tkV s)) (And2 (PI s) (VI s)):=(aAv s).two (aDs s)
theorem aOT (s:Nat):Takes (tk2 (tkP s) (tk2 (tkP s) (tkR s))) (And2 (PI s) (And2 (PI s) (RI s))):=(aAv s).two ((aAv s).two (aEZ s))
set_option maxHeartbeats 2000000 in
theorem g_pnorm:Sx.Good Tryz.prog X.G 19 ⟨[.agg 8],.v1 (.agg 8)⟩ aBd:=aAe okO (λ _ _=>X.G_below) 400 kK (by kernel_rfl:_=some aIj) λ ds rs h=>by
 obtain ⟨p,hp,rfl⟩:=Fo.inv (aAv 2500) h
 obtain ⟨n1,a1,n2,a2,n3,a3,n4,a4,rfl,h1,h2,h3,h4,rfl⟩:=hp.inv
 obtain ⟨x,ex⟩:∃ x,x=Z n1 a1:=⟨_,rfl⟩
 obtain ⟨y,ey⟩:∃ x,x=Z n2 a2:=⟨_,rfl⟩
 obtain ⟨z,ez⟩:∃ x,x=Z n3 a3:=⟨_,rfl⟩
 obtain ⟨w,ew⟩:∃ x,x=Z n4 a4:=⟨_,rfl⟩
 have sx:Sz 2500 x:=by rw [ex];exact .of h1
 have sy:Sz 2500 y:=by rw [ey];exact .of h2
 have sz:Sz 2500 z:=by rw [ez];exact .of h3
 have sw:Sz 2500 w:=by rw [ew];exact .of h4
 show ∃ kk,aIj.run _ _ kk _ _=some (enc4 (pt (pv (Z n1 a1) (Z n2 a2) (Z n3 a3) (Z n4 a4))))
 have k1:aAj [b_ n1,s_ a1]=some (enc x):=by rw [ex];exact I1.eq kJ
 have k2:aAj [b_ n2,s_ a2]=some (enc y):=by rw [ey];exact I1.eq kJ
 have k3:aAj [b_ n3,s_ a3]=some (enc z):=by rw [ez];exact I1.eq kJ
 have k4:aAj [b_ n4,s_ a4]=some (enc w):=by rw [ew];exact I1.eq kJ
 have k5:aAx (enc w)=some [i_ (sgn w)]:=I1.can (sw.le kQ)
 have hpt:pt (pv x y z w)=nrm (x,y,z,w1 w):=(aPS (aSk w)).symm
 rw [<- ex,<- ey,<- ez,<- ew,hpt]
 clear hpt ex ey ez ew
 refine ⟨0,?_⟩
 refine gC aAj k1 (gC aAj k2 (gC aAj k3 (gC aAj k4 (gC aAx k5 (gP (aAz _ _ .i64 (sgn w) 0) ?_)))))
 refine aAw (b:=sgn w == 0) kK (λ hz=>?_) (λ hz=>?_)
 ·have hw:w=0:=by rw [aBI] at hz;exact of_decide_eq_true hz
  obtain ⟨o,ho⟩:∃ o,o=(1:Int):=⟨_,rfl⟩
  have so:Sz 2500 o:=by rw [ho];exact Sz.one.le kQ
  have k6:F_ifrom [i_ 1]=some (enc o):=by rw [ho];exact F_ifrom.eq kQ kQ
  have hw1:w1 w=o:=by rw [ho];exact if_pos hw
  rw [hw1]
  refine gC F_ifrom k6 ?_
  have hw0:o≠0:=by rw [ho];decide
  have lx:=aAW sx
  have ly:=aAW sy
  have lz:=aAW sz
  have lw:=aAW so
  have l1:=aBE lx ly
  have l2:=aBE l1 lz
  have l3:=aBE l2 lw
  have c1:=aF6 lx kQ
  have c2:=aBH lx ly kQ
  have c3:=aBH l1 lz kQ
  have c4:=aBH l2 lw kQ
  have hgp:0 < g4 x y z o:=aGn hw0
  obtain ⟨g,hg⟩:∃ g,g=g4 x y z o:=⟨_,rfl⟩
  have hg':Nat.gcd (Nat.gcd (Nat.gcd x.natAbs y.natAbs) z.natAbs) o.natAbs=g:=hg.symm
  rw [hg'] at c4 l3
  have sg':Sz 2500 (g:Int):=aA9 l3
  have g0:(g:Int)≠0:=by omega
  have c5:F_of [b_ false,s_ (N g)]=some (enc (g:Int)):=F_of.eq
  obtain ⟨x1,hx1⟩:∃ v,v=x / (g:Int):=⟨_,rfl⟩
  obtain ⟨y1,hy1⟩:∃ v,v=y / (g:Int):=⟨_,rfl⟩
  obtain ⟨z1,hz1⟩:∃ v,v=z / (g:Int):=⟨_,rfl⟩
  obtain ⟨v1,hv1⟩:∃ v,v=o / (g:Int):=⟨_,rfl⟩
  obtain ⟨x2,d1⟩:∃ v,aAh (enc x++enc (g:Int))=some (enc x1++enc v++[b_ true]):=⟨_,by rw [hx1];exact aA1 sx sg' kQ g0⟩
  obtain ⟨y2,d2⟩:∃ v,aAh (enc y++enc (g:Int))=some (enc y1++enc v++[b_ true]):=⟨_,by rw [hy1];exact aA1 sy sg' kQ g0⟩
  obtain ⟨z2,d3⟩:∃ v,aAh (enc z++enc (g:Int))=some (enc z1++enc v++[b_ true]):=⟨_,by rw [hz1];exact aA1 sz sg' kQ g0⟩
  obtain ⟨v2,d4⟩:∃ v,aAh (enc o++enc (g:Int))=some (enc v1++enc v++[b_ true]):=⟨_,by rw [hv1];exact aA1 so sg' kQ g0⟩
  have q1:Sz 2500 x1:=by rw [hx1];exact aB5 sx
  have q2:Sz 2500 y1:=by rw [hy1];exact aB5 sy
  have q3:Sz 2500 z1:=by rw [hz1];exact aB5 sz
  have q4:Sz 2500 v1:=by rw [hv1];exact aB5 so
  have i4:aAx (enc o)=some [i_ (sgn o)]:=I1.can (so.le kQ)
  have hr:nrm (x,y,z,o)=if o < 0 then (-x1,-y1,-z1,-v1) else (x1,y1,z1,v1):=by rw [hx1,hy1,hz1,hv1,hg];exact aIN _ _ _ _
  rw [hr]
  obtain ⟨x3,hx3⟩:∃ v,v=-x1:=⟨_,rfl⟩
  obtain ⟨y3,hy3⟩:∃ v,v=-y1:=⟨_,rfl⟩
  obtain ⟨z3,hz3⟩:∃ v,v=-z1:=⟨_,rfl⟩
  obtain ⟨v3,hv3⟩:∃ v,v=-v1:=⟨_,rfl⟩
  have m1:aAs (enc x1)=some (enc x3):=by rw [hx3];exact I1.can (q1.le kQ)
  have m2:aAs (enc y1)=some (enc y3):=by rw [hy3];exact I1.can (q2.le kQ)
  have m3:aAs (enc z1)=some (enc z3):=by rw [hz3];exact I1.can (q3.le kQ)
  have m4:aAs (enc v1)=some (enc v3):=by rw [hv3];exact I1.can (q4.le kQ)
  rw [<- hx3,<- hy3,<- hz3,<- hv3]
  have hs:=aHI o
  generalize sgn o=S at *
  clear hx1 hy1 hz1 hv1 hx3 hy3 hz3 hv3 hr hg hg'
  refine gC aA6 c1 (gC aA6 c2 (gC aA6 c3 (gC aA6 c4 (gC F_of c5 (gC aAx i4 (gP (aAi _ _ .i64 S 0) ?_))))))
  refine gC aAh d1 (aAw (b:=decide (S < 0)) kK (λ ht=>?_) (λ ht=>?_))
  ·rw [if_pos (hs.1 (of_decide_eq_true ht))]
   exact gC aAs m1 (gC aAh d2 (gC aAs m2 (gC aAh d3 (gC aAs m3 (gC aAh d4 (gC aAs m4 (aAc kK)))))))
  ·rw [if_neg (λ hh=>of_decide_eq_false ht (hs.2 hh))]
   exact gC aAh d2 (gC aAh d3 (gC aAh d4 (aAc kK)))
 ·have hw:w≠0:=λ hh=>by rw [hh] at hz;exact absurd hz kQ
  have hw1:w1 w=w:=if_neg hw
  rw [hw1]
  have hw0:w≠0:=hw
  have lx:=aAW sx
  have ly:=aAW sy
  have lz:=aAW sz
  have lw:=aAW sw
  have l1:=aBE lx ly
  have l2:=aBE l1 lz
  have l3:=aBE l2 lw
  have c1:=aF6 lx kQ
  have c2:=aBH lx ly kQ
  have c3:=aBH l1 lz kQ
  have c4:=aBH l2 lw kQ
  have hgp:0 < g4 x y z w:=aGn hw0
  obtain ⟨g,hg⟩:∃ g,g=g4 x y z w:=⟨_,rfl⟩
  have hg':Nat.gcd (Nat.gcd (Nat.gcd x.natAbs y.natAbs) z.natAbs) w.natAbs=g:=hg.symm
  rw [hg'] at c4 l3
  have sg':Sz 2500 (g:Int):=aA9 l3
  have g0:(g:Int)≠0:=by omega
  have c5:F_of [b_ false,s_ (N g)]=some (enc (g:Int)):=F_of.eq
  obtain ⟨x1,hx1⟩:∃ v,v=x / (g:Int):=⟨_,rfl⟩
  obtain ⟨y1,hy1⟩:∃ v,v=y / (g:Int):=⟨_,rfl⟩
  obtain ⟨z1,hz1⟩:∃ v,v=z / (g:Int):=⟨_,rfl⟩
  obtain ⟨v1,hv1⟩:∃ v,v=w / (g:Int):=⟨_,rfl⟩
  obtain ⟨x2,d1⟩:∃ v,aAh (enc x++enc (g:Int))=some (enc x1++enc v++[b_ true]):=⟨_,by rw [hx1];exact aA1 sx sg' kQ g0⟩
  obtain ⟨y2,d2⟩:∃ v,aAh (enc y++enc (g:Int))=some (enc y1++enc v++[b_ true]):=⟨_,by rw [hy1];exact aA1 sy sg' kQ g0⟩
  obtain ⟨z2,d3⟩:∃ v,aAh (enc z++enc (g:Int))=some (enc z1++enc v++[b_ true]):=⟨_,by rw [hz1];exact aA1 sz sg' kQ g0⟩
  obtain ⟨v2,d4⟩:∃ v,aAh (enc w++enc (g:Int))=some (enc v1++enc v++[b_ true]):=⟨_,by rw [hv1];exact aA1 sw sg' kQ g0⟩
  have q1:Sz 2500 x1:=by rw [hx1];exact aB5 sx
  have q2:Sz 2500 y1:=by rw [hy1];exact aB5 sy
  have q3:Sz 2500 z1:=by rw [hz1];exact aB5 sz
  have q4:Sz 2500 v1:=by rw [hv1];exact aB5 sw
  have i4:aAx (enc w)=some [i_ (sgn w)]:=I1.can (sw.le kQ)
  have hr:nrm (x,y,z,w)=if w < 0 then (-x1,-y1,-z1,-v1) else (x1,y1,z1,v1):=by rw [hx1,hy1,hz1,hv1,hg];exact aIN _ _ _ _
  rw [hr]
  obtain ⟨x3,hx3⟩:∃ v,v=-x1:=⟨_,rfl⟩
  obtain ⟨y3,hy3⟩:∃ v,v=-y1:=⟨_,rfl⟩
  obtain ⟨z3,hz3⟩:∃ v,v=-z1:=⟨_,rfl⟩
  obtain ⟨v3,hv3⟩:∃ v,v=-v1:=⟨_,rfl⟩
  have m1:aAs (enc x1)=some (enc x3):=by rw [hx3];exact I1.can (q1.le kQ)
  have m2:aAs (enc y1)=some (enc y3):=by rw [hy3];exact I1.can (q2.le kQ)
  have m3:aAs (enc z1)=some (enc z3):=by rw [hz3];exact I1.can (q3.le kQ)
  have m4:aAs (enc v1)=some (enc v3):=by rw [hv3];exact I1.can (q4.le kQ)
  rw [<- hx3,<- hy3,<- hz3,<- hv3]
  have hs:=aHI w
  generalize sgn w=S at *
  clear hx1 hy1 hz1 hv1 hx3 hy3 hz3 hv3 hr hg hg'
  refine gC aA6 c1 (gC aA6 c2 (gC aA6 c3 (gC aA6 c4 (gC F_of c5 (gC aAx i4 (gP (aAi _ _ .i64 S 0) ?_))))))
  refine gC aAh d1 (aAw (b:=decide (S < 0)) kK (λ ht=>?_) (λ ht=>?_))
  ·rw [if_pos (hs.1 (of_decide_eq_true ht))]
   exact gC aAs m1 (gC aAh d2 (gC aAs m2 (gC aAh d3 (gC aAs m3 (gC aAh d4 (gC aAs m4 (aAc kK)))))))
  ·rw [if_neg (λ hh=>of_decide_eq_false ht (hs.2 hh))]
   exact gC aAh d2 (gC aAh d3 (gC aAh d4 (aAc kK)))
def tbB0:Tb:=(19,aBd)::tbO
theorem okB0:TbOk Tryz.prog X.G tbB0:=.cons kK g_pnorm okO
def aGv (x y z:Rat):V3:=pv4 (x.num*((x.den:Int)*y.den*z.den / x.den),y.num*((x.den:Int)*y.den*z.den / y.den),z.num*((x.den:Int)*y.den*z.den / z.den),(x.den:Int)*y.den*z.den)
theorem aMJ (x y z:Rat):aGv x y z=(x,y,z):=by
 have nx:=aBo x
 have ny:=aBo y
 have nz:=aBo z
 have hD:(x.den:Int)*y.den*z.den≠0:=Int.mul_ne_zero (Int.mul_ne_zero nx ny) nz
 have e1:(x.den:Int)*y.den*z.den / x.den=(y.den:Int)*z.den:=by
  rw [Int.mul_assoc]
  exact Int.mul_ediv_cancel_left _ nx
 have e2:(x.den:Int)*y.den*z.den / y.den=(x.den:Int)*z.den:=by
  rw [Int.mul_comm (x.den:Int),Int.mul_assoc]
  exact Int.mul_ediv_cancel_left _ ny
 have e3:(x.den:Int)*y.den*z.den / z.den=(x.den:Int)*y.den:=Int.mul_ediv_cancel _ nz
 unfold aGv pv4 pv w1
 rw [e1,e2,e3]
 dsimp only
 rw [if_neg hD]
 exact aOC (x,y,z)
set_option maxHeartbeats 2000000 in
theorem g_pfrom:Sx.Good Tryz.prog X.G 25 ⟨[.agg 9],.v1 (.agg 8)⟩ aA2:=aAe okB0 (λ _ _=>X.G_below) 400 kK (by kernel_rfl:_=some aHF) λ ds rs h=>by
 obtain ⟨p,hp,rfl⟩:=Fo.inv (aDs 600) h
 obtain ⟨n,a,b,m,c,d,l,e,f,rfl,ha,hb,hc,hd,he,hf,rfl⟩:=hp.inv
 obtain ⟨x,hx⟩:∃ x,x=qv n a b:=⟨_,rfl⟩
 obtain ⟨y,hy⟩:∃ x,x=qv m c d:=⟨_,rfl⟩
 obtain ⟨z,hz⟩:∃ x,x=qv l e f:=⟨_,rfl⟩
 have sx:Sq 600 x:=by rw [hx];exact .qv kQ ha hb
 have sy:Sq 600 y:=by rw [hy];exact .qv kQ hc hd
 have sz:Sq 600 z:=by rw [hz];exact .qv kQ he hf
 rw [<- hx,<- hy,<- hz]
 have k1:aAr [b_ n,s_ a,s_ b]=some (enc x.num++enc x.den):=by rw [hx];exact R1.eq kJ kJ
 have k2:aAr [b_ m,s_ c,s_ d]=some (enc y.num++enc y.den):=by rw [hy];exact R1.eq kJ kJ
 have k3:aAr [b_ l,s_ e,s_ f]=some (enc z.num++enc z.den):=by rw [hz];exact R1.eq kJ kJ
 clear hx hy hz
 have nx:=aBo x
 have ny:=aBo y
 have nz:=aBo z
 have hv:aGv x y z=(x,y,z):=aMJ x y z
 obtain ⟨⟨t1,t2⟩,⟨t3,t4⟩,⟨t5,t6⟩⟩:=And.intro sx (And.intro sy sz)
 obtain ⟨xn,hxn⟩:∃ v,v=x.num:=⟨_,rfl⟩
 obtain ⟨xd,hxd⟩:∃ v,v=(x.den:Int):=⟨_,rfl⟩
 obtain ⟨yn,hyn⟩:∃ v,v=y.num:=⟨_,rfl⟩
 obtain ⟨yd,hyd⟩:∃ v,v=(y.den:Int):=⟨_,rfl⟩
 obtain ⟨zn,hzn⟩:∃ v,v=z.num:=⟨_,rfl⟩
 obtain ⟨zd,hzd⟩:∃ v,v=(z.den:Int):=⟨_,rfl⟩
 unfold aGv at hv
 rw [<- hxn,<- hxd,<- hyn,<- hyd,<- hzn,<- hzd] at hv
 rw [<- hxn,<- hxd] at k1
 rw [<- hyn,<- hyd] at k2
 rw [<- hzn,<- hzd] at k3
 rw [<- hxn] at t1
 rw [<- hxd] at t2 nx
 rw [<- hyn] at t3
 rw [<- hyd] at t4 ny
 rw [<- hzn] at t5
 rw [<- hzd] at t6 nz
 rw [<- hv]
 clear hv hxn hxd hyn hyd hzn hzd
 obtain ⟨o,ho⟩:∃ o,o=(1:Int):=⟨_,rfl⟩
 have k0:F_ifrom [i_ 1]=some (enc o):=by rw [ho];exact F_ifrom.eq kQ kQ
 have so:Sz 1 o:=by rw [ho];exact Sz.one
 obtain ⟨u1,hu1⟩:∃ v,v=o*xd:=⟨_,rfl⟩
 obtain ⟨u2,hu2⟩:∃ v,v=u1*yd:=⟨_,rfl⟩
 obtain ⟨u3,hu3⟩:∃ v,v=u2*zd:=⟨_,rfl⟩
 have v1:Sz 601 u1:=by rw [hu1];exact (so.mul t2).le kQ
 have v2:Sz 1201 u2:=by rw [hu2];exact (v1.mul t4).le kQ
 have v3:Sz 1801 u3:=by rw [hu3];exact (v2.mul t6).le kQ
 have m1:aAd (enc o++enc xd)=some (enc u1):=by rw [hu1];exact I2.can (so.le kQ) (t2.le kQ)
 have m2:aAd (enc u1++enc yd)=some (enc u2):=by rw [hu2];exact I2.can (v1.le kQ) (t4.le kQ)
 have m3:aAd (enc u2++enc zd)=some (enc u3):=by rw [hu3];exact I2.can (v2.le kQ) (t6.le kQ)
 have e3:u3=xd*yd*zd:=by rw [hu3,hu2,hu1,ho,Int.one_mul]
 rw [<- e3]
 have d1:=aA1 v3 (t2.le kQ) kQ nx
 have d2:=aA1 v3 (t4.le kQ) kQ ny
 have d3:=aA1 v3 (t6.le kQ) kQ nz
 have q1:=aB5 (g:=xd) v3
 have q2:=aB5 (g:=yd) v3
 have q3:=aB5 (g:=zd) v3
 obtain ⟨r1,hr1⟩:∃ v,v=u3 / xd:=⟨_,rfl⟩
 obtain ⟨r2,hr2⟩:∃ v,v=u3 / yd:=⟨_,rfl⟩
 obtain ⟨r3,hr3⟩:∃ v,v=u3 / zd:=⟨_,rfl⟩
 rw [<- hr1] at d1 q1 ⊢
 rw [<- hr2] at d2 q2 ⊢
 rw [<- hr3] at d3 q3 ⊢
 obtain ⟨x4,hx4⟩:∃ v,v=xn*r1:=⟨_,rfl⟩
 obtain ⟨y4,hy4⟩:∃ v,v=yn*r2:=⟨_,rfl⟩
 obtain ⟨z4,hz4⟩:∃ v,v=zn*r3:=⟨_,rfl⟩
 have m4:aAd (enc xn++enc r1)=some (enc x4):=by rw [hx4];exact I2.can (t1.le kQ) (q1.le kQ)
 have m5:aAd (enc yn++enc r2)=some (enc y4):=by rw [hy4];exact I2.can (t3.le kQ) (q2.le kQ)
 have m6:aAd (enc zn++enc r3)=some (enc z4):=by rw [hz4];exact I2.can (t5.le kQ) (q3.le kQ)
 have w1:Sz 2500 x4:=by rw [hx4];exact (t1.mul q1).le kQ
 have w2:Sz 2500 y4:=by rw [hy4];exact (t3.mul q2).le kQ
 have w3:Sz 2500 z4:=by rw [hz4];exact (t5.mul q3).le kQ
 rw [<- hx4,<- hy4,<- hz4]
 have fin:aBd (enc4 (x4,y4,z4,u3))=some (aAB (pv4 (x4,y4,z4,u3))):=Fo.eq (aAv 2500) (PI.can ⟨w1,w2,w3,v3.le kQ⟩)
 clear hu1 hu2 hu3 hr1 hr2 hr3 hx4 hy4 hz4 e3
 obtain ⟨P,hP⟩:∃ P,P=pt (pv4 (x4,y4,z4,u3)):=⟨_,rfl⟩
 have hP':aAB (pv4 (x4,y4,z4,u3))=enc4 P:=by rw [hP]
 rw [hP'] at fin ⊢
 refine ⟨0,?_⟩
 refine gC F_ifrom k0 (gC aAr k1 (gC aAd m1 (gC aAr k2 (gC aAd m2 (gC aAr k3 (gC aAd m3 ?_))))))
 refine gC aAh d1 (gC aAd m4 (gC aAh d2 (gC aAd m5 (gC aAh d3 (gC aAd m6 (gC aBd fin (aAc kK)))))))
def tbB1:Tb:=(25,aA2)::tbB0
theorem okB1:TbOk Tryz.prog X.G tbB1:=.cons kK g_pfrom okB0
set_option maxHeartbeats 1000000 in
theorem g_pcoords:Sx.Good Tryz.prog X.G 21 ⟨[.agg 8],.v1 (.agg 9)⟩ aA3:=aAe okB1 (λ _ _=>X.G_below) 400 kK (by kernel_rfl:_=some aKi) λ ds rs h=>by
 obtain ⟨p,hp,rfl⟩:=Fo.inv (aAv 1500) h
 obtain ⟨n1,a1,n2,a2,n3,a3,n4,a4,rfl,h1,h2,h3,h4,rfl⟩:=hp.inv
 obtain ⟨v,hv⟩:∃ v,v=pv4 (Z n1 a1,Z n2 a2,Z n3 a3,Z n4 a4):=⟨_,rfl⟩
 have k1:aBd [b_ n1,s_ a1,b_ n2,s_ a2,b_ n3,s_ a3,b_ n4,s_ a4]=some (aAB v):=by
  rw [hv]
  exact Fo.eq (aAv 2500) (PI.mk (.raw n1 kJ) (.raw n2 kJ) (.raw n3 kJ) (.raw n4 kJ))
 have sv:Sv 1500 v:=by rw [hv];exact Sv.pv4 kQ ⟨.of h1,.of h2,.of h3,.of h4⟩
 rw [<- hv]
 clear hv
 obtain ⟨z1,z2,z3,z4⟩:=S4.pt sv
 have hw:=aD5 v
 have hco:=aE3 v
 have hp:aAB v=enc4 (pt v):=rfl
 rw [hp] at k1
 generalize pt v=p at *
 obtain ⟨x,y,z,w⟩:=p
 dsimp only at z1 z2 z3 z4 hw
 have r1:aAm (enc x++enc w)=some (encR (Rat.divInt x w)++[b_ (!decide (w=0))]):=I2.can (z1.le kQ) (z4.le kQ)
 have r2:aAm (enc y++enc w)=some (encR (Rat.divInt y w)++[b_ (!decide (w=0))]):=I2.can (z2.le kQ) (z4.le kQ)
 have r3:aAm (enc z++enc w)=some (encR (Rat.divInt z w)++[b_ (!decide (w=0))]):=I2.can (z3.le kQ) (z4.le kQ)
 have hco:(Rat.divInt x w,Rat.divInt y w,Rat.divInt z w)=v:=hco
 rw [<- hco]
 clear hco
 generalize Rat.divInt x w=a at *
 generalize Rat.divInt y w=b at *
 generalize Rat.divInt z w=c at *
 exact ⟨0,gC aBd k1 (gC aAm r1 (gC aAm r2 (gC aAm r3 (aAc kK))))⟩
def tbB2:Tb:=(21,aA3)::tbB1
theorem okB2:TbOk Tryz.prog X.G tbB2:=.cons kK g_pcoords okB1
theorem aGw {x w x' w':Int} (hw:0 < w) (hw':0 < w'):sgn (x*w' - x'*w)=sgn (Rat.divInt x w - Rat.divInt x' w').num:=by
 rw [Rat.divInt_sub_divInt _ _ kJ kJ]
 exact (aGl (Int.mul_pos hw hw')).symm
theorem aSA (u v:V3):sgn ((pt u).1*(pt v).2.2.2 - (pt v).1*(pt u).2.2.2)=sgn (u.1 - v.1).num:=by
 rw [aGw (aD5 u) (aD5 v)]
 have h1:Rat.divInt (pt u).1 (pt u).2.2.2=u.1:=congrArg (λ p:V3=>p.1) (aE3 u)
 have h2:Rat.divInt (pt v).1 (pt v).2.2.2=v.1:=congrArg (λ p:V3=>p.1) (aE3 v)
 rw [h1,h2]
theorem aSB (u v:V3):sgn ((pt u).2.1*(pt v).2.2.2 - (pt v).2.1*(pt u).2.2.2)=sgn (u.2.1 - v.2.1).num:=by
 rw [aGw (aD5 u) (aD5 v)]
 have h1:Rat.divInt (pt u).2.1 (pt u).2.2.2=u.2.1:=congrArg (λ p:V3=>p.2.1) (aE3 u)
 have h2:Rat.divInt (pt v).2.1 (pt v).2.2.2=v.2.1:=congrArg (λ p:V3=>p.2.1) (aE3 v)
 rw [h1,h2]
theorem aSC (u v:V3):sgn ((pt u).2.2.1*(pt v).2.2.2 - (pt v).2.2.1*(pt u).2.2.2)=sgn (u.2.2 - v.2.2).num:=by
 rw [aGw (aD5 u) (aD5 v)]
 have h1:Rat.divInt (pt u).2.2.1 (pt u).2.2.2=u.2.2:=congrArg (λ p:V3=>p.2.2) (aE3 u)
 have h2:Rat.divInt (pt v).2.2.1 (pt v).2.2.2=v.2.2:=congrArg (λ p:V3=>p.2.2) (aE3 v)
 rw [h1,h2]
theorem aGx (a b:Rat):sgn (a - b).num≠0 ↔ ¬ a=b:=by
 rw [Ne,aM0]
 constructor
 ·intro h e
  exact h (by rw [e];grind)
 ·intro h e
  exact h (by grind)
theorem aSD (u v:V3):lex u v=if sgn (u.1 - v.1).num≠0 then sgn (u.1 - v.1).num else if sgn (u.2.1 - v.2.1).num≠0 then sgn (u.2.1 - v.2.1).num else sgn (u.2.2 - v.2.2).num:=by
 unfold lex
 by_cases h:u.1=v.1
 ·rw [if_pos h,if_neg (mt (aGx _ _).1 (λ g=>g h))]
  by_cases h2:u.2.1=v.2.1
  ·rw [if_pos h2,if_neg (mt (aGx _ _).1 (λ g=>g h2))]
  ·rw [if_neg h2,if_pos ((aGx _ _).2 h2)]
 ·rw [if_neg h,if_pos ((aGx _ _).2 h)]
set_option maxHeartbeats 2000000 in
theorem g_pcmp:Sx.Good Tryz.prog X.G 27 ⟨[.agg 8,.agg 8],.v1 .one⟩ aOR:=aAe okB2 (λ _ _=>X.G_below) 400 kK (by kernel_rfl:_=some aMT) λ ds rs h=>by
 obtain ⟨⟨p,q⟩,⟨e1,e2,hp,hq,rfl⟩,rfl⟩:=Fo.inv (aIw 200) h
 obtain ⟨n1,a1,n2,a2,n3,a3,n4,a4,rfl,h1,h2,h3,h4,rfl⟩:=PI.inv hp
 obtain ⟨m1,b1,m2,b2,m3,b3,m4,b4,rfl,g1,g2,g3,g4,rfl⟩:=PI.inv hq
 obtain ⟨u,hu⟩:∃ v,v=pv4 (Z n1 a1,Z n2 a2,Z n3 a3,Z n4 a4):=⟨_,rfl⟩
 have su:Sv 200 u:=by rw [hu];exact Sv.pv4 kQ ⟨.of h1,.of h2,.of h3,.of h4⟩
 obtain ⟨v,hv⟩:∃ v,v=pv4 (Z m1 b1,Z m2 b2,Z m3 b3,Z m4 b4):=⟨_,rfl⟩
 have sv:Sv 200 v:=by rw [hv];exact Sv.pv4 kQ ⟨.of g1,.of g2,.of g3,.of g4⟩
 have k1:aBd [b_ n1,s_ a1,b_ n2,s_ a2,b_ n3,s_ a3,b_ n4,s_ a4]=some (aAB u):=by rw [hu];exact Fo.eq (aAv 2500) (PI.mk (.raw n1 kJ) (.raw n2 kJ) (.raw n3 kJ) (.raw n4 kJ))
 have k2:aBd [b_ m1,s_ b1,b_ m2,s_ b2,b_ m3,s_ b3,b_ m4,s_ b4]=some (aAB v):=by rw [hv];exact Fo.eq (aAv 2500) (PI.mk (.raw m1 kJ) (.raw m2 kJ) (.raw m3 kJ) (.raw m4 kJ))
 show ∃ kk,aMT.run _ _ kk _ _=some [i_ (lex (pv4 (Z n1 a1,Z n2 a2,Z n3 a3,Z n4 a4)) (pv4 (Z m1 b1,Z m2 b2,Z m3 b3,Z m4 b4)))]
 rw [<- hu,<- hv]
 clear hu hv
 obtain ⟨z1,z2,z3,z4⟩:=S4.pt su
 obtain ⟨y1,y2,y3,y4⟩:=S4.pt sv
 have f1:=aSA u v
 have f2:=aSB u v
 have f3:=aSC u v
 have hlex:lex u v=if sgn (u.1 - v.1).num≠0 then sgn (u.1 - v.1).num else if sgn (u.2.1 - v.2.1).num≠0 then sgn (u.2.1 - v.2.1).num else sgn (u.2.2 - v.2.2).num:=aSD u v
 rw [hlex,<- f1,<- f2,<- f3]
 clear hlex f1 f2 f3
 have hp:aAB u=enc4 (pt u):=rfl
 have hq:aAB v=enc4 (pt v):=rfl
 rw [hp] at k1
 rw [hq] at k2
 generalize pt u=p at *
 generalize pt v=q at *
 obtain ⟨x,y,z,w⟩:=p
 obtain ⟨x',y',z',w'⟩:=q
 dsimp only at z1 z2 z3 z4 y1 y2 y3 y4 ⊢
 have j1:aAd (enc x++enc w')=some (enc (x*w')):=I2.can (z1.le kQ) (y4.le kQ)
 have j2:aAd (enc x'++enc w)=some (enc (x'*w)):=I2.can (y1.le kQ) (z4.le kQ)
 have j3:aAd (enc y++enc w')=some (enc (y*w')):=I2.can (z2.le kQ) (y4.le kQ)
 have j4:aAd (enc y'++enc w)=some (enc (y'*w)):=I2.can (y2.le kQ) (z4.le kQ)
 have j5:aAd (enc z++enc w')=some (enc (z*w')):=I2.can (z3.le kQ) (y4.le kQ)
 have j6:aAd (enc z'++enc w)=some (enc (z'*w)):=I2.can (y3.le kQ) (z4.le kQ)
 have t1:=z1.mul y4
 have t2:=y1.mul z4
 have t3:=z2.mul y4
 have t4:=y2.mul z4
 have t5:=z3.mul y4
 have t6:=y3.mul z4
 generalize x*w'=A at *
 generalize x'*w=B at *
 generalize y*w'=C at *
 generalize y'*w=E at *
 generalize z*w'=J at *
 generalize z'*w=M at *
 have c1:aBM (enc A++enc B)=some [i_ (sgn (A - B))]:=I2.can (t1.le kQ) (t2.le kQ)
 have c2:aBM (enc C++enc E)=some [i_ (sgn (C - E))]:=I2.can (t3.le kQ) (t4.le kQ)
 have c3:aBM (enc J++enc M)=some [i_ (sgn (J - M))]:=I2.can (t5.le kQ) (t6.le kQ)
 generalize sgn (A - B)=r at *
 generalize sgn (C - E)=s at *
 generalize sgn (J - M)=t at *
 refine ⟨0,?_⟩
 refine gC aBd k1 (gC aBd k2 (gC aAd j1 (gC aAd j2 (gC aBM c1 (gP (aFU _ _ .i64 r 0) (aAw (b:=r != 0) kK (λ hz=>?_) (λ hz=>?_)))))))
 ·rw [if_pos (bne_iff_ne.1 hz)]
  exact aAc kK
 ·have hz:r=0:=by simpa using hz
  rw [if_neg (λ hh=>hh hz)]
  refine gC aAd j3 (gC aAd j4 (gC aBM c2 (gP (aFU _ _ .i64 s 0) (aAw (b:=s != 0) kK (λ hy=>?_) (λ hy=>?_)))))
  ·rw [if_pos (bne_iff_ne.1 hy)]
   exact aAc kK
  ·have hy:s=0:=by simpa using hy
   rw [if_neg (λ hh=>hh hy)]
   refine gC aAd j5 (gC aAd j6 (gC aBM c3 (gP (aFU _ _ .i64 t 0) (aAw (b:=t != 0) kK (λ hx=>?_) (λ hx=>?_)))))
   ·exact aAc kK
   ·have hx:t=0:=by simpa using hx
    rw [hx]
    exact aAc kK
def tbB3:Tb:=(27,aOR)::tbB2
theorem okB3:TbOk Tryz.prog X.G tbB3:=.cons kK g_pcmp okB2
set_option maxHeartbeats 1000000 in
theorem g_padd:Sx.Good Tryz.prog X.G 29 ⟨[.agg 8,.agg 9],.v1 (.agg 8)⟩ aHn:=aAe okB3 (λ _ _=>X.G_below) 400 kK (by kernel_rfl:_=some aMU) λ ds rs h=>by
 obtain ⟨⟨p,q⟩,⟨e1,e2,hp,hq,rfl⟩,rfl⟩:=Fo.inv (aLt 200) h
 obtain ⟨n1,a1,n2,a2,n3,a3,n4,a4,rfl,h1,h2,h3,h4,rfl⟩:=PI.inv hp
 obtain ⟨n,a,b,m,c,d,l,e,f,rfl,ha,hb,hc,hd,he,hf,rfl⟩:=VI.inv hq
 obtain ⟨u,hu⟩:∃ v,v=pv4 (Z n1 a1,Z n2 a2,Z n3 a3,Z n4 a4):=⟨_,rfl⟩
 have su:Sv 200 u:=by rw [hu];exact Sv.pv4 kQ ⟨.of h1,.of h2,.of h3,.of h4⟩
 obtain ⟨x,hx⟩:∃ x,x=qv n a b:=⟨_,rfl⟩
 obtain ⟨y,hy⟩:∃ x,x=qv m c d:=⟨_,rfl⟩
 obtain ⟨z,hz⟩:∃ x,x=qv l e f:=⟨_,rfl⟩
 have sx:Sq 200 x:=by rw [hx];exact .qv kQ ha hb
 have sy:Sq 200 y:=by rw [hy];exact .qv kQ hc hd
 have sz:Sq 200 z:=by rw [hz];exact .qv kQ he hf
 have k1:aA3 [b_ n1,s_ a1,b_ n2,s_ a2,b_ n3,s_ a3,b_ n4,s_ a4]=some (aC1 u):=by rw [hu];exact Fo.eq (aAv 1500) (PI.mk (.raw n1 kJ) (.raw n2 kJ) (.raw n3 kJ) (.raw n4 kJ))
 obtain ⟨r,s,t⟩:=u
 have k2:aBb (encR r++[b_ n,s_ a,s_ b])=some (encR (r+x)):=by rw [hx];exact R2.right kJ kJ (su.1.le kQ)
 have k3:aBb (encR s++[b_ m,s_ c,s_ d])=some (encR (s+y)):=by rw [hy];exact R2.right kJ kJ (su.2.1.le kQ)
 have k4:aBb (encR t++[b_ l,s_ e,s_ f])=some (encR (t+z)):=by rw [hz];exact R2.right kJ kJ (su.2.2.le kQ)
 have q1:Sq 401 (r+x):=Sq.add su.1 sx
 have q2:Sq 401 (s+y):=Sq.add su.2.1 sy
 have q3:Sq 401 (t+z):=Sq.add su.2.2 sz
 show ∃ kk,aMU.run _ _ kk _ _=some (aAB (vadd (pv4 (Z n1 a1,Z n2 a2,Z n3 a3,Z n4 a4)) (qv n a b,qv m c d,qv l e f)))
 rw [<- hu,<- hx,<- hy,<- hz]
 have hvv:vadd (r,s,t) (x,y,z)=(r+x,s+y,t+z):=rfl
 rw [hvv]
 clear hu hx hy hz hvv
 have k1:aA3 [b_ n1,s_ a1,b_ n2,s_ a2,b_ n3,s_ a3,b_ n4,s_ a4]=some (encR r++(encR s++encR t)):=k1
 generalize r+x=A at *
 generalize s+y=B at *
 generalize t+z=C at *
 have k5:aA2 (aC1 (A,B,C))=some (aAB (A,B,C)):=Fo.eq (aDs 600) (VI.can ⟨q1.le kQ,q2.le kQ,q3.le kQ⟩)
 have k5:aA2 (encR A++(encR B++encR C))=some (enc4 (pt (A,B,C))):=k5
 show ∃ kk,aMU.run _ _ kk _ _=some (enc4 (pt (A,B,C)))
 generalize pt (A,B,C)=P at *
 exact ⟨0,gC aA3 k1 (gC aBb k2 (gC aBb k3 (gC aBb k4 (gC aA2 k5 (aAc kK)))))⟩
def tbB4:Tb:=(29,aHn)::tbB3
theorem okB4:TbOk Tryz.prog X.G tbB4:=.cons kK g_padd okB3
set_option maxHeartbeats 1000000 in
theorem g_plerp:Sx.Good Tryz.prog X.G 31 ⟨[.agg 8,.agg 8,.agg 3],.v1 (.agg 8)⟩ aMX:=aAe okB4 (λ _ _=>X.G_below) 400 kK (by kernel_rfl:_=some aMt) λ ds rs h=>by
 obtain ⟨⟨p,q,qq⟩,⟨e1,e2,hp,⟨e3,e4,hq,hr,rfl⟩,rfl⟩,rfl⟩:=Fo.inv (aOT 66) h
 obtain ⟨n1,a1,n2,a2,n3,a3,n4,a4,rfl,h1,h2,h3,h4,rfl⟩:=PI.inv hp
 obtain ⟨m1,b1,m2,b2,m3,b3,m4,b4,rfl,g1,g2,g3,g4,rfl⟩:=PI.inv hq
 obtain ⟨n,a,b,rfl,ha,hb,rfl⟩:=hr
 obtain ⟨u,hu⟩:∃ v,v=pv4 (Z n1 a1,Z n2 a2,Z n3 a3,Z n4 a4):=⟨_,rfl⟩
 have su:Sv 66 u:=by rw [hu];exact Sv.pv4 kQ ⟨.of h1,.of h2,.of h3,.of h4⟩
 obtain ⟨v,hv⟩:∃ v,v=pv4 (Z m1 b1,Z m2 b2,Z m3 b3,Z m4 b4):=⟨_,rfl⟩
 have sv:Sv 66 v:=by rw [hv];exact Sv.pv4 kQ ⟨.of g1,.of g2,.of g3,.of g4⟩
 obtain ⟨x,hx⟩:∃ x,x=qv n a b:=⟨_,rfl⟩
 have sx:Sq 66 x:=by rw [hx];exact .qv kQ ha hb
 have k1:aA3 [b_ n1,s_ a1,b_ n2,s_ a2,b_ n3,s_ a3,b_ n4,s_ a4]=some (aC1 u):=by rw [hu];exact Fo.eq (aAv 1500) (PI.mk (.raw n1 kJ) (.raw n2 kJ) (.raw n3 kJ) (.raw n4 kJ))
 have k2:aA3 [b_ m1,s_ b1,b_ m2,s_ b2,b_ m3,s_ b3,b_ m4,s_ b4]=some (aC1 v):=by rw [hv];exact Fo.eq (aAv 1500) (PI.mk (.raw m1 kJ) (.raw m2 kJ) (.raw m3 kJ) (.raw m4 kJ))
 obtain ⟨r,s,t⟩:=u
 obtain ⟨r',s',t'⟩:=v
 have d1:aAL (encR r'++encR r)=some (encR (r' - r)):=R2.can (sv.1.le kQ) (su.1.le kQ)
 have d2:aAL (encR s'++encR s)=some (encR (s' - s)):=R2.can (sv.2.1.le kQ) (su.2.1.le kQ)
 have d3:aAL (encR t'++encR t)=some (encR (t' - t)):=R2.can (sv.2.2.le kQ) (su.2.2.le kQ)
 have q1:Sq 133 (r' - r):=aBx sv.1 su.1
 have q2:Sq 133 (s' - s):=aBx sv.2.1 su.2.1
 have q3:Sq 133 (t' - t):=aBx sv.2.2 su.2.2
 have j1:aAQ ([b_ n,s_ a,s_ b]++encR (r' - r))=some (encR (x*(r' - r))):=by rw [hx];exact R2.left kJ kJ (q1.le kQ)
 have j2:aAQ ([b_ n,s_ a,s_ b]++encR (s' - s))=some (encR (x*(s' - s))):=by rw [hx];exact R2.left kJ kJ (q2.le kQ)
 have j3:aAQ ([b_ n,s_ a,s_ b]++encR (t' - t))=some (encR (x*(t' - t))):=by rw [hx];exact R2.left kJ kJ (q3.le kQ)
 have p1:Sq 199 (x*(r' - r)):=Sq.mul kQ sx q1
 have p2:Sq 199 (x*(s' - s)):=Sq.mul kQ sx q2
 have p3:Sq 199 (x*(t' - t)):=Sq.mul kQ sx q3
 have hvv:vmid (r,s,t) (r',s',t') x=vadd (r,s,t) (x*(r' - r),x*(s' - s),x*(t' - t)):=aS9 _ _ _ _ _ _ _
 generalize x*(r' - r)=A at *
 generalize x*(s' - s)=B at *
 generalize x*(t' - t)=C at *
 generalize r' - r=A' at *
 generalize s' - s=B' at *
 generalize t' - t=C' at *
 have k5:aHn ([b_ n1,s_ a1,b_ n2,s_ a2,b_ n3,s_ a3,b_ n4,s_ a4]++aC1 (A,B,C))=some (aAB (vadd (pv4 (Z n1 a1,Z n2 a2,Z n3 a3,Z n4 a4)) (A,B,C))):=Fo.eq (v:=((Z n1 a1,Z n2 a2,Z n3 a3,Z n4 a4),(A,B,C))) (aLt 200) (And2.mk' (hp.le kQ) (VI.can ⟨p1.le kQ,p2.le kQ,p3.le kQ⟩))
 show ∃ kk,aMt.run _ _ kk _ _=some (aAB (vmid (pv4 (Z n1 a1,Z n2 a2,Z n3 a3,Z n4 a4)) (pv4 (Z m1 b1,Z m2 b2,Z m3 b3,Z m4 b4)) (qv n a b)))
 rw [<- hu] at k5
 rw [<- hu,<- hv,<- hx,hvv]
 clear hu hv hx hvv
 have k1:aA3 [b_ n1,s_ a1,b_ n2,s_ a2,b_ n3,s_ a3,b_ n4,s_ a4]=some (encR r++(encR s++encR t)):=k1
 have k2:aA3 [b_ m1,s_ b1,b_ m2,s_ b2,b_ m3,s_ b3,b_ m4,s_ b4]=some (encR r'++(encR s'++encR t')):=k2
 generalize vadd (r,s,t) (A,B,C)=V at *
 have k5:aHn ([b_ n1,s_ a1,b_ n2,s_ a2,b_ n3,s_ a3,b_ n4,s_ a4]++(encR A++(encR B++encR C)))=some (enc4 (pt V)):=k5
 show ∃ kk,aMt.run _ _ kk _ _=some (enc4 (pt V))
 generalize pt V=P at *
 exact ⟨0,gC aA3 k1 (gC aA3 k2 (gC aAL d1 (gC aAQ j1 (gC aAL d2 (gC aAQ j2 (gC aAL d3 (gC aAQ j3 (gC aHn k5 (aAc kK)))))))))⟩
def tbB5:Tb:=(31,aMX)::tbB4
theorem okB5:TbOk Tryz.prog X.G tbB5:=.cons kK g_plerp okB4
set_option maxHeartbeats 1000000 in
theorem g_pfmt:Sx.Good Tryz.prog X.G 23 ⟨[.agg 8],.v1 .one⟩ aOS:=aAe okB5 (λ _ _=>X.G_below) 400 kK (by kernel_rfl:_=some aKj) λ ds rs h=>by
 obtain ⟨p,hp,rfl⟩:=Fo.inv (aAv 600) h
 obtain ⟨n1,a1,n2,a2,n3,a3,n4,a4,rfl,h1,h2,h3,h4,rfl⟩:=hp.inv
 obtain ⟨u,hu⟩:∃ v,v=pv4 (Z n1 a1,Z n2 a2,Z n3 a3,Z n4 a4):=⟨_,rfl⟩
 have su:Sv 600 u:=by rw [hu];exact Sv.pv4 kQ ⟨.of h1,.of h2,.of h3,.of h4⟩
 have k1:aA3 [b_ n1,s_ a1,b_ n2,s_ a2,b_ n3,s_ a3,b_ n4,s_ a4]=some (aC1 u):=by rw [hu];exact Fo.eq (aAv 1500) (PI.mk (.raw n1 kJ) (.raw n2 kJ) (.raw n3 kJ) (.raw n4 kJ))
 show ∃ kk,aKj.run _ _ kk _ _=some [s_ (aNO (pv4 (Z n1 a1,Z n2 a2,Z n3 a3,Z n4 a4)))]
 rw [<- hu]
 clear hu
 obtain ⟨r,s,t⟩:=u
 have k1:aA3 [b_ n1,s_ a1,b_ n2,s_ a2,b_ n3,s_ a3,b_ n4,s_ a4]=some (encR r++(encR s++encR t)):=k1
 have d1:aEF (encR r)=some [s_ (aCz r)]:=R1.can (su.1.le kQ)
 have d2:aEF (encR s)=some [s_ (aCz s)]:=R1.can (su.2.1.le kQ)
 have d3:aEF (encR t)=some [s_ (aCz t)]:=R1.can (su.2.2.le kQ)
 have q1:=aGQ su.1
 have q2:=aGQ su.2.1
 have q3:=aGQ su.2.2
 have hpt:aNO (r,s,t)=(⟨#[40]⟩:ByteArray)++aB7 [aCz r,aCz s,aCz t] ⟨#[44,32]⟩++(⟨#[41]⟩:ByteArray):=rfl
 rw [hpt]
 dsimp only at q1 q2 q3
 generalize aCz r=A at *
 generalize aCz s=B at *
 generalize aCz t=C at *
 have o1:(⟨#[40]⟩:ByteArray).size=1:=rfl
 have o2:(⟨#[41]⟩:ByteArray).size=1:=rfl
 have o3:(⟨#[44,32]⟩:ByteArray).size=2:=rfl
 have j1:aEc [.l 3 [s_ A,s_ B,s_ C],s_ (⟨#[44,32]⟩:ByteArray)]=some [s_ (aB7 [A,B,C] ⟨#[44,32]⟩)]:=aRg _ _ _ _ kJ
 have hs:(aB7 [A,B,C] ⟨#[44,32]⟩).size<=20000:=by rw [aIt];omega
 generalize aB7 [A,B,C] ⟨#[44,32]⟩=J at *
 refine ⟨0,?_⟩
 refine gC aA3 k1 (gC aEF d1 (aAf (vs:=[.agg [s_ A]]) (d:=.l 1 [s_ A]) kK kK (gC aEF d2 (aAf (vs:=[.one (.l 1 [s_ A]),.agg [s_ B]]) (d:=.l 2 [s_ A,s_ B]) kK kK (gC aEF d3 (aAf (vs:=[.one (.l 2 [s_ A,s_ B]),.agg [s_ C]]) (d:=.l 3 [s_ A,s_ B,s_ C]) kK kK ?_))))))
 refine gC aEc j1 (gP (aDd _ _ (⟨#[40]⟩:ByteArray) J kJ) (gP (aDd _ _ ((⟨#[40]⟩:ByteArray)++J) (⟨#[41]⟩:ByteArray) (by rw [ByteArray.size_append];omega)) (aAc kK)))
def tbB6:Tb:=(23,aOS)::tbB5
theorem aQt:TbOk Tryz.prog X.G tbB6:=.cons kK g_pfmt okB5
end Go.Proofs.YtjefbecmeobegaaGreatDoor.Sp
