import Derived.Test.YtjefbecmeobegaaGreatDoorSpB
import Derived.Test.YtjefbecmeobegaaGreatDoorZZ
import Derived.Test.YtjefbecmeobegaaGreatDoorTr1
namespace Go.Proofs.YtjefbecmeobegaaGreatDoor.Sp
open Go Go.RowKit Sx NatA NatB NatC NatD NatI NatJ IntZ RatZ PtZ PlZ
def aC0 (r:Z4 × Bool):List D:=enc4 r.1++[b_ r.2]
theorem aGs:enc 0=[b_ false,s_ (⟨#[]⟩:ByteArray)]:=by
 show [b_ (decide ((0:Int) < 0)),s_ (N (0:Int).natAbs)]=_
 rw [show (0:Int).natAbs=0 from rfl,aCn]
 rfl
theorem aHm:aC0 ((0,0,0,0),false)=[b_ false,s_ (⟨#[]⟩:ByteArray),b_ false,s_ (⟨#[]⟩:ByteArray),b_ false,s_ (⟨#[]⟩:ByteArray),b_ false,s_ (⟨#[]⟩:ByteArray),b_ false]:=by
 show (enc 0++(enc 0++(enc 0++enc 0)))++[b_ false]=_
 rw [aGs]
 rfl
def tkc {α:Type} (f:Tk α) (c:α->Bool):Tk α:=λ ds=>(f ds).bind λ x=>if c x.1=true then some x else none
theorem Takes.when {α:Type} {f:Tk α} {P:α->List D->Prop} (hf:Takes f P) (c:α->Bool):Takes (tkc f c) (λ v ds=>P v ds/\c v=true):=by
 refine ⟨?_,?_⟩
 ·rintro v ds r ⟨h,hc⟩
  unfold tkc
  rw [hf.1 v ds r h,Option.bind_some]
  exact if_pos hc
 ·intro v ds r h
  obtain ⟨⟨x,t⟩,h1,h2⟩:=Option.bind_eq_some_iff.1 h
  clear h
  split at h2
  ·rename_i hc
   obtain ⟨rfl,rfl⟩:=Prod.mk.inj (Option.some.inj h2)
   obtain ⟨e,p,q⟩:=hf.2 _ _ _ h1
   exact ⟨e,⟨p,hc⟩,q⟩
  ·cases h2
abbrev WI (s:Nat) (p:Z4) (ds:List D):Prop:=PI s p ds/\decide (0 < p.2.2.2)=true
def tkW (s:Nat):Tk Z4:=tkc (tkP s) λ p=>decide (0 < p.2.2.2)
theorem aJ6 (s:Nat):Takes (tkW s) (WI s):=(aAv s).when _
def aB8:Fct:=Fo (tkP 2500) λ p=>aC0 (plz p)
def aDF:Fct:=Fo (tk2 (tkV 600) (tkR 600)) λ p=>aC0 (plv (p.1.1,p.1.2.1,p.1.2.2,p.2))
def aEY:Fct:=Fo (tk2 (tkW 20) (tk2 (tkW 20) (tkW 20))) λ p=>aC0 (plv (thr (co p.1) (co p.2.1) (co p.2.2)))
def aB0:Fct:=Fo (tkP 2500) λ p=>enc4 (aBy p)
def aAD:Fct:=Fo (tk2 (tkP 1000) (tkP 1000)) λ p=>[i_ (sgn (sdz p.1 p.2))]
def aBc:Fct:=Fo (tkP 2000) λ p=>[i_ (axz p:Int),b_ (decide (sgn (ix3 p (axz p)) > 0))]
def aBn:Fct:=Fo (tk2 (tkP 100) (tkR 100)) λ p=>enc4 (off p.1 p.2).1
def aFQ:Fct:=Fo (tk2 (tkP 40) (tkP 120)) λ p=>aAB (prj p.1 (pv4 p.2))
def aD1 (p:Z4):ByteArray:=(⟨#[91]⟩:ByteArray)++aB7 [aAT p.1,aAT p.2.1,aAT p.2.2.1,aAT p.2.2.2] ⟨#[32]⟩++(⟨#[93]⟩:ByteArray)
def aFj:Fct:=Fo (tkP 2500) λ p=>[s_ (aD1 p)]
theorem aGt (s:Nat):Takes (tk2 (tkV s) (tkR s)) (And2 (VI s) (RI s)):=(aDs s).two (aEZ s)
theorem aKq (s t:Nat):Takes (tk2 (tkP s) (tkP t)) (And2 (PI s) (PI t)):=(aAv s).two (aAv t)
theorem aLr (s:Nat):Takes (tk2 (tkP s) (tkR s)) (And2 (PI s) (RI s)):=(aAv s).two (aEZ s)
theorem aKr (s:Nat):Takes (tk2 (tkW s) (tk2 (tkW s) (tkW s))) (And2 (WI s) (And2 (WI s) (WI s))):=(aJ6 s).two ((aJ6 s).two (aJ6 s))
theorem aEd {g s:Nat} {a:ByteArray} (hg:g < 256 ^ s) (ha:a.size<=s) (hs:s<=20000):aA6 [s_ (N g),s_ a]=some [s_ (N (Nat.gcd g (V a)))]:=by
 have h:aA6 [s_ (N g),s_ a]=some [s_ (N (Nat.gcd (V (N g)) (V a)))]:=S2.eq (Nat.le_trans ((aAH _ _).2 hg) hs) (Nat.le_trans ha hs)
 rw [V_N] at h
 exact h
theorem aLs {s:Nat} {a:ByteArray} (ha:a.size<=s) (hs:s<=20000):aA6 [s_ (⟨#[]⟩:ByteArray),s_ a]=some [s_ (N (V a))]:=by
 have:=aEd (g:=0) (s:=s) (Nat.pow_pos kQ) ha hs
 rw [aCn,Nat.gcd_zero_left] at this
 exact this
theorem aF5 {s:Nat} {a:ByteArray} (h:a.size<=s):V a < 256 ^ s:=Nat.lt_of_lt_of_le (aDZ a) (Nat.pow_le_pow_right kQ h)
theorem aB9 {s t:Nat} {x g:Int} {a b:List D} (hx:ZI s x a) (hg:ZI t g b) (hs:s<=9000) (ht:t<=9000) (h0:g≠0):aAh (a++b)=some (enc (x / g)++enc (x % g)++[b_ true]):=by
 rw [aAh,I2.at hx hg hs ht]
 unfold aGy aEb
 rw [if_neg h0]
 rfl
theorem aGu (x:Int):Rat.divInt x 1=(x:Rat):=by
 rw [Rat.divInt_eq_div]
 have:((1:Int):Rat)=1:=rfl
 rw [this]
 grind
theorem aBj {s:Nat} (hs:1<=s) {x:Int} (h:Sz s x):Sq s (x:Rat):=by
 rw [<- aGu]
 exact Sq.divInt hs h (Sz.one.le hs)
theorem aBZ {s:Nat} {x:Int} {a:List D} (h:ZI s x a) (hs:s<=9000):aAm (a++enc 1)=some (encR (x:Rat)++[b_ true]):=by
 have:=I2.at (g:=λ x y=>encR (Rat.divInt x y)++[b_ (!decide (y=0))]) h (ZI.can Sz.one) hs kQ
 rw [aGu] at this
 exact this
theorem aIl (A B C E sep:ByteArray):(aB7 [A,B,C,E] sep).size=sep.size*3+(A.size+(B.size+(C.size+E.size))):=by
 rw [aJ1]
 simp
theorem aQs (A B C E sep:ByteArray) (h:sep.size*3+(A.size+(B.size+(C.size+E.size)))<=1000000):aEc [.l 4 [s_ A,s_ B,s_ C,s_ E],s_ sep]=some [s_ (aB7 [A,B,C,E] sep)]:=by
 show (if 4=4/\[A,B,C,E]≠[]/\4<=1000/\(aB7 [A,B,C,E] sep).size<=1000000 then some [s_ (aB7 [A,B,C,E] sep)] else none)=_
 exact if_pos ⟨rfl,by simp,by decide,by rw [aIl];exact h⟩
set_option maxHeartbeats 2000000 in
theorem g_lnorm:Sx.Good Tryz.prog X.G 40 ⟨[.agg 8],.tup [.agg 8,.one]⟩ aB8:=aAe aQt (λ _ _=>X.G_below) 400 kK (by kernel_rfl:_=some aIk) λ ds rs h=>by
 obtain ⟨p,hp,rfl⟩:=Fo.inv (aAv 2500) h
 obtain ⟨n1,a1,n2,a2,n3,a3,n4,a4,rfl,h1,h2,h3,h4,rfl⟩:=hp.inv
 show ∃ kk,aIk.run _ _ kk _ _=some (aC0 (plz (Z n1 a1,Z n2 a2,Z n3 a3,Z n4 a4)))
 obtain ⟨x,hx⟩:∃ v,v=Z n1 a1:=⟨_,rfl⟩
 have ix:ZI 2500 x [b_ n1,s_ a1]:=by rw [hx];exact .raw n1 h1
 have sx:Sz 2500 x:=ix.sz
 obtain ⟨y,hy⟩:∃ v,v=Z n2 a2:=⟨_,rfl⟩
 have iy:ZI 2500 y [b_ n2,s_ a2]:=by rw [hy];exact .raw n2 h2
 have sy:Sz 2500 y:=iy.sz
 obtain ⟨z,hz⟩:∃ v,v=Z n3 a3:=⟨_,rfl⟩
 have iz:ZI 2500 z [b_ n3,s_ a3]:=by rw [hz];exact .raw n3 h3
 have sz:Sz 2500 z:=iz.sz
 obtain ⟨w,hw⟩:∃ v,v=Z n4 a4:=⟨_,rfl⟩
 have iw:ZI 2500 w [b_ n4,s_ a4]:=by rw [hw];exact .raw n4 h4
 have sw:Sz 2500 w:=iw.sz
 have vx:V a1=x.natAbs:=by rw [hx,aBr]
 have vy:V a2=y.natAbs:=by rw [hy,aBr]
 have vz:V a3=z.natAbs:=by rw [hz,aBr]
 have vw:V a4=w.natAbs:=by rw [hw,aBr]
 have q1:=aF5 h1
 have q2:=aF5 h2
 have q3:=aF5 h3
 have q4:=aF5 h4
 rw [vx] at q1
 rw [vy] at q2
 rw [vz] at q3
 rw [vw] at q4
 have l1:=aBE q1 q2
 have l2:=aBE l1 q3
 have l3:=aBE l2 q4
 have c1:=aLs h1 kQ
 rw [vx] at c1
 have c2:=aEd q1 h2 kQ
 rw [vy] at c2
 have c3:=aEd l1 h3 kQ
 rw [vz] at c3
 have c4:=aEd l2 h4 kQ
 rw [vw] at c4
 rw [<- hx,<- hy,<- hz,<- hw]
 clear vx vy vz vw hx hy hz hw
 have hfl:Nat.gcd (Nat.gcd x.natAbs y.natAbs) z.natAbs=0 ↔ x=0/\y=0/\z=0:=by
  rw [Nat.gcd_eq_zero_iff,Nat.gcd_eq_zero_iff]
  omega
 refine ⟨0,?_⟩
 obtain ⟨g3,hg3⟩:∃ g,g=Nat.gcd (Nat.gcd x.natAbs y.natAbs) z.natAbs:=⟨_,rfl⟩
 have c6:F_of [b_ false,s_ (N g3)]=some (enc (g3:Int)):=F_of.eq
 have s3:Sz 2500 (g3:Int):=by rw [hg3];exact aA9 l2
 have c7:aAx (enc (g3:Int))=some [i_ (sgn (g3:Int))]:=I1.can (s3.le kQ)
 have c3':=c3
 rw [<- hg3] at c3'
 refine gC aA6 c1 (gC aA6 c2 (gC aA6 c3' (gC F_of c6 (gC aAx c7 (gP (aAz _ _ .i64 (sgn (g3:Int)) 0) (aAw (b:=sgn (g3:Int) == 0) kK (λ ht=>?_) (λ ht=>?_)))))))
 ·rw [aBI] at ht
  have hf:Flat (x,y,z,w):=hfl.1 (by rw [<- hg3];have:=of_decide_eq_true ht;omega)
  have hp:plz (x,y,z,w)=((0,0,0,0),false):=if_pos hf
  rw [hp,aHm]
  exact aAc kK
 ·rw [aBI] at ht
  have hf:¬ Flat (x,y,z,w):=λ hh=>of_decide_eq_false ht (by have:=hfl.2 hh;rw [<- hg3] at this;omega)
  have hg:0 < (g4 x y z w:Int):=aFi (p:=(x,y,z,w)) hf
  have hp:plz (x,y,z,w)=(quo (x,y,z,w),true):=if_neg hf
  have hq:quo (x,y,z,w)=(x / (g4 x y z w:Int),y / (g4 x y z w:Int),z / (g4 x y z w:Int),w / (g4 x y z w:Int)):=rfl
  rw [hp,hq]
  obtain ⟨g,hgg⟩:∃ g,g=g4 x y z w:=⟨_,rfl⟩
  have hg':Nat.gcd (Nat.gcd (Nat.gcd x.natAbs y.natAbs) z.natAbs) w.natAbs=g:=hgg.symm
  rw [hg'] at c4 l3
  rw [<- hgg] at hg ⊢
  have sg':Sz 2500 (g:Int):=aA9 l3
  have g0:(g:Int)≠0:=by omega
  have c5:F_of [b_ false,s_ (N g)]=some (enc (g:Int)):=F_of.eq
  obtain ⟨x1,hx1⟩:∃ v,v=x / (g:Int):=⟨_,rfl⟩
  obtain ⟨y1,hy1⟩:∃ v,v=y / (g:Int):=⟨_,rfl⟩
  obtain ⟨z1,hz1⟩:∃ v,v=z / (g:Int):=⟨_,rfl⟩
  obtain ⟨v1,hv1⟩:∃ v,v=w / (g:Int):=⟨_,rfl⟩
  obtain ⟨x2,d1⟩:∃ v,aAh ([b_ n1,s_ a1]++enc (g:Int))=some (enc x1++enc v++[b_ true]):=⟨_,by rw [hx1];exact aB9 ix (ZI.can sg') kQ kQ g0⟩
  obtain ⟨y2,d2⟩:∃ v,aAh ([b_ n2,s_ a2]++enc (g:Int))=some (enc y1++enc v++[b_ true]):=⟨_,by rw [hy1];exact aB9 iy (ZI.can sg') kQ kQ g0⟩
  obtain ⟨z2,d3⟩:∃ v,aAh ([b_ n3,s_ a3]++enc (g:Int))=some (enc z1++enc v++[b_ true]):=⟨_,by rw [hz1];exact aB9 iz (ZI.can sg') kQ kQ g0⟩
  obtain ⟨v2,d4⟩:∃ v,aAh ([b_ n4,s_ a4]++enc (g:Int))=some (enc v1++enc v++[b_ true]):=⟨_,by rw [hv1];exact aB9 iw (ZI.can sg') kQ kQ g0⟩
  rw [<- hx1,<- hy1,<- hz1,<- hv1]
  clear hx1 hy1 hz1 hv1 hp hq hgg hg' hf
  exact gC aA6 c1 (gC aA6 c2 (gC aA6 c3 (gC aA6 c4 (gC F_of c5 (gC aAh d1 (gC aAh d2 (gC aAh d3 (gC aAh d4 (aAc kK)))))))))
def aR5:Tb:=(40,aB8)::tbB6
theorem aR6:TbOk Tryz.prog X.G aR5:=.cons kK g_lnorm aQt
set_option maxHeartbeats 2000000 in
theorem g_lfrom:Sx.Good Tryz.prog X.G 42 ⟨[.agg 9,.agg 3],.tup [.agg 8,.one]⟩ aDF:=aAe aR6 (λ _ _=>X.G_below) 400 kK (by kernel_rfl:_=some aF3) λ ds rs h=>by
 obtain ⟨⟨pv,pd⟩,⟨ev,ed,hv,hd,rfl⟩,rfl⟩:=Fo.inv (aGt 600) h
 obtain ⟨n1,a1,b1,n2,a2,b2,n3,a3,b3,rfl,h1,g1,h2,g2,h3,g3,rfl⟩:=VI.inv hv
 obtain ⟨n4,a4,b4,rfl,h4,g4,rfl⟩:=hd
 show ∃ kk,aF3.run _ _ kk _ _=some (aC0 (plv (qv n1 a1 b1,qv n2 a2 b2,qv n3 a3 b3,qv n4 a4 b4)))
 obtain ⟨x,hx⟩:∃ v,v=qv n1 a1 b1:=⟨_,rfl⟩
 have ix:RI 600 x [b_ n1,s_ a1,s_ b1]:=by rw [hx];exact .raw n1 h1 g1
 have sx:Sq 600 x:=ix.sq kQ
 obtain ⟨y,hy⟩:∃ v,v=qv n2 a2 b2:=⟨_,rfl⟩
 have iy:RI 600 y [b_ n2,s_ a2,s_ b2]:=by rw [hy];exact .raw n2 h2 g2
 have sy:Sq 600 y:=iy.sq kQ
 obtain ⟨z,hz⟩:∃ v,v=qv n3 a3 b3:=⟨_,rfl⟩
 have iz:RI 600 z [b_ n3,s_ a3,s_ b3]:=by rw [hz];exact .raw n3 h3 g3
 have sz:Sq 600 z:=iz.sq kQ
 obtain ⟨w,hw⟩:∃ v,v=qv n4 a4 b4:=⟨_,rfl⟩
 have iw:RI 600 w [b_ n4,s_ a4,s_ b4]:=by rw [hw];exact .raw n4 h4 g4
 have sw:Sq 600 w:=iw.sq kQ
 rw [<- hx,<- hy,<- hz,<- hw]
 clear hx hy hz hw
 have kx:aAr [b_ n1,s_ a1,s_ b1]=some (enc x.num++enc (x.den:Int)):=R1.at ix kQ
 have ky:aAr [b_ n2,s_ a2,s_ b2]=some (enc y.num++enc (y.den:Int)):=R1.at iy kQ
 have kz:aAr [b_ n3,s_ a3,s_ b3]=some (enc z.num++enc (z.den:Int)):=R1.at iz kQ
 have kw:aAr [b_ n4,s_ a4,s_ b4]=some (enc w.num++enc (w.den:Int)):=R1.at iw kQ
 have hv:plv (x,y,z,w)=plz (x.num*((y.den:Int)*z.den*w.den),y.num*((x.den:Int)*z.den*w.den),z.num*((x.den:Int)*y.den*w.den),w.num*((x.den:Int)*y.den*z.den)):=rfl
 rw [hv]
 clear hv
 obtain ⟨tx,ux⟩:=sx
 generalize x.num=mx at *
 generalize (x.den:Int)=dx at *
 obtain ⟨ty,uy⟩:=sy
 generalize y.num=my at *
 generalize (y.den:Int)=dy at *
 obtain ⟨tz,uz⟩:=sz
 generalize z.num=mz at *
 generalize (z.den:Int)=dz at *
 obtain ⟨tw,uw⟩:=sw
 generalize w.num=mw at *
 generalize (w.den:Int)=dw at *
 obtain ⟨o,ho⟩:∃ o,o=(1:Int):=⟨_,rfl⟩
 have so:Sz 1 o:=by rw [ho];exact Sz.one
 have co:F_ifrom [i_ 1]=some (enc o):=by rw [ho];exact F_ifrom.eq kQ kQ
 obtain ⟨r1,hr1⟩:∃ v,v=o*mx:=⟨_,rfl⟩
 have sr1:Sz 601 r1:=by rw [hr1];exact so.mul tx
 have cr1:aAd (enc o++enc mx)=some (enc r1):=by rw [hr1];exact I2.at (ZI.can so) (ZI.can tx) kQ kQ
 obtain ⟨r2,hr2⟩:∃ v,v=r1*dy:=⟨_,rfl⟩
 have sr2:Sz 1201 r2:=by rw [hr2];exact sr1.mul uy
 have cr2:aAd (enc r1++enc dy)=some (enc r2):=by rw [hr2];exact I2.at (ZI.can sr1) (ZI.can uy) kQ kQ
 obtain ⟨r3,hr3⟩:∃ v,v=r2*dz:=⟨_,rfl⟩
 have sr3:Sz 1801 r3:=by rw [hr3];exact sr2.mul uz
 have cr3:aAd (enc r2++enc dz)=some (enc r3):=by rw [hr3];exact I2.at (ZI.can sr2) (ZI.can uz) kQ kQ
 obtain ⟨r4,hr4⟩:∃ v,v=r3*dw:=⟨_,rfl⟩
 have sr4:Sz 2401 r4:=by rw [hr4];exact sr3.mul uw
 have cr4:aAd (enc r3++enc dw)=some (enc r4):=by rw [hr4];exact I2.at (ZI.can sr3) (ZI.can uw) kQ kQ
 obtain ⟨r5,hr5⟩:∃ v,v=o*dx:=⟨_,rfl⟩
 have sr5:Sz 601 r5:=by rw [hr5];exact so.mul ux
 have cr5:aAd (enc o++enc dx)=some (enc r5):=by rw [hr5];exact I2.at (ZI.can so) (ZI.can ux) kQ kQ
 obtain ⟨r6,hr6⟩:∃ v,v=r5*my:=⟨_,rfl⟩
 have sr6:Sz 1201 r6:=by rw [hr6];exact sr5.mul ty
 have cr6:aAd (enc r5++enc my)=some (enc r6):=by rw [hr6];exact I2.at (ZI.can sr5) (ZI.can ty) kQ kQ
 obtain ⟨r7,hr7⟩:∃ v,v=r6*dz:=⟨_,rfl⟩
 have sr7:Sz 1801 r7:=by rw [hr7];exact sr6.mul uz
 have cr7:aAd (enc r6++enc dz)=some (enc r7):=by rw [hr7];exact I2.at (ZI.can sr6) (ZI.can uz) kQ kQ
 obtain ⟨r8,hr8⟩:∃ v,v=r7*dw:=⟨_,rfl⟩
 have sr8:Sz 2401 r8:=by rw [hr8];exact sr7.mul uw
 have cr8:aAd (enc r7++enc dw)=some (enc r8):=by rw [hr8];exact I2.at (ZI.can sr7) (ZI.can uw) kQ kQ
 obtain ⟨r9,hr9⟩:∃ v,v=o*dx:=⟨_,rfl⟩
 have sr9:Sz 601 r9:=by rw [hr9];exact so.mul ux
 have cr9:aAd (enc o++enc dx)=some (enc r9):=by rw [hr9];exact I2.at (ZI.can so) (ZI.can ux) kQ kQ
 obtain ⟨r10,hr10⟩:∃ v,v=r9*dy:=⟨_,rfl⟩
 have sr10:Sz 1201 r10:=by rw [hr10];exact sr9.mul uy
 have cr10:aAd (enc r9++enc dy)=some (enc r10):=by rw [hr10];exact I2.at (ZI.can sr9) (ZI.can uy) kQ kQ
 obtain ⟨r11,hr11⟩:∃ v,v=r10*mz:=⟨_,rfl⟩
 have sr11:Sz 1801 r11:=by rw [hr11];exact sr10.mul tz
 have cr11:aAd (enc r10++enc mz)=some (enc r11):=by rw [hr11];exact I2.at (ZI.can sr10) (ZI.can tz) kQ kQ
 obtain ⟨r12,hr12⟩:∃ v,v=r11*dw:=⟨_,rfl⟩
 have sr12:Sz 2401 r12:=by rw [hr12];exact sr11.mul uw
 have cr12:aAd (enc r11++enc dw)=some (enc r12):=by rw [hr12];exact I2.at (ZI.can sr11) (ZI.can uw) kQ kQ
 obtain ⟨r13,hr13⟩:∃ v,v=o*dx:=⟨_,rfl⟩
 have sr13:Sz 601 r13:=by rw [hr13];exact so.mul ux
 have cr13:aAd (enc o++enc dx)=some (enc r13):=by rw [hr13];exact I2.at (ZI.can so) (ZI.can ux) kQ kQ
 obtain ⟨r14,hr14⟩:∃ v,v=r13*dy:=⟨_,rfl⟩
 have sr14:Sz 1201 r14:=by rw [hr14];exact sr13.mul uy
 have cr14:aAd (enc r13++enc dy)=some (enc r14):=by rw [hr14];exact I2.at (ZI.can sr13) (ZI.can uy) kQ kQ
 obtain ⟨r15,hr15⟩:∃ v,v=r14*dz:=⟨_,rfl⟩
 have sr15:Sz 1801 r15:=by rw [hr15];exact sr14.mul uz
 have cr15:aAd (enc r14++enc dz)=some (enc r15):=by rw [hr15];exact I2.at (ZI.can sr14) (ZI.can uz) kQ kQ
 obtain ⟨r16,hr16⟩:∃ v,v=r15*mw:=⟨_,rfl⟩
 have sr16:Sz 2401 r16:=by rw [hr16];exact sr15.mul tw
 have cr16:aAd (enc r15++enc mw)=some (enc r16):=by rw [hr16];exact I2.at (ZI.can sr15) (ZI.can tw) kQ kQ
 have Ex:r4=mx*(dy*dz*dw):=by rw [hr4,hr3,hr2,hr1,ho];grind
 have Ey:r8=my*(dx*dz*dw):=by rw [hr8,hr7,hr6,hr5,ho];grind
 have Ez:r12=mz*(dx*dy*dw):=by rw [hr12,hr11,hr10,hr9,ho];grind
 have Ew:r16=mw*(dx*dy*dz):=by rw [hr16,hr15,hr14,hr13,ho];grind
 rw [<- Ex,<- Ey,<- Ez,<- Ew]
 clear Ex Ey Ez Ew
 clear ho hr1 hr2 hr3 hr4 hr5 hr6 hr7 hr8 hr9 hr10 hr11 hr12 hr13 hr14 hr15 hr16
 have fin:aB8 (enc4 (r4,r8,r12,r16))=some (aC0 (plz (r4,r8,r12,r16))):=Fo.eq (aAv 2500) (PI.can ⟨sr4.le kQ,sr8.le kQ,sr12.le kQ,sr16.le kQ⟩)
 generalize plz (r4,r8,r12,r16)=Q at *
 obtain ⟨Q,k⟩:=Q
 refine ⟨0,?_⟩
 refine gC F_ifrom co ?_
 refine gC aAr kx ?_
 refine gC aAd cr1 ?_
 refine gC aAr ky ?_
 refine gC aAd cr2 ?_
 refine gC aAr kz ?_
 refine gC aAd cr3 ?_
 refine gC aAr kw ?_
 refine gC aAd cr4 ?_
 refine gC F_ifrom co ?_
 refine gC aAr kx ?_
 refine gC aAd cr5 ?_
 refine gC aAr ky ?_
 refine gC aAd cr6 ?_
 refine gC aAr kz ?_
 refine gC aAd cr7 ?_
 refine gC aAr kw ?_
 refine gC aAd cr8 ?_
 refine gC F_ifrom co ?_
 refine gC aAr kx ?_
 refine gC aAd cr9 ?_
 refine gC aAr ky ?_
 refine gC aAd cr10 ?_
 refine gC aAr kz ?_
 refine gC aAd cr11 ?_
 refine gC aAr kw ?_
 refine gC aAd cr12 ?_
 refine gC F_ifrom co ?_
 refine gC aAr kx ?_
 refine gC aAd cr13 ?_
 refine gC aAr ky ?_
 refine gC aAd cr14 ?_
 refine gC aAr kz ?_
 refine gC aAd cr15 ?_
 refine gC aAr kw ?_
 refine gC aAd cr16 ?_
 refine gC aB8 fin ?_
 exact aAc kK
def aR7:Tb:=(42,aDF)::aR5
theorem aR8:TbOk Tryz.prog X.G aR7:=.cons kK g_lfrom aR6
set_option maxHeartbeats 2000000 in
theorem g_lthru:Sx.Good Tryz.prog X.G 49 ⟨[.agg 8,.agg 8,.agg 8],.tup [.agg 8,.one]⟩ aEY:=aAe aR8 (λ _ _=>X.G_below) 400 kK (by kernel_rfl:_=some aJy) λ ds rs h=>by
 obtain ⟨⟨pa,pb,pc⟩,⟨ea,eb',⟨ha,wa⟩,⟨eb,ec,⟨hb,wb⟩,⟨hc,wc⟩,rfl⟩,rfl⟩,rfl⟩:=Fo.inv (aKr 20) h
 obtain ⟨na1,ea1,na2,ea2,na3,ea3,na4,ea4,rfl,za1,za2,za3,za4,rfl⟩:=PI.inv ha
 obtain ⟨nb1,eb1,nb2,eb2,nb3,eb3,nb4,eb4,rfl,zb1,zb2,zb3,zb4,rfl⟩:=PI.inv hb
 obtain ⟨nc1,ec1,nc2,ec2,nc3,ec3,nc4,ec4,rfl,zc1,zc2,zc3,zc4,rfl⟩:=PI.inv hc
 show ∃ kk,aJy.run _ _ kk _ _=some (aC0 (plv (thr (co (Z na1 ea1,Z na2 ea2,Z na3 ea3,Z na4 ea4)) (co (Z nb1 eb1,Z nb2 eb2,Z nb3 eb3,Z nb4 eb4)) (co (Z nc1 ec1,Z nc2 ec2,Z nc3 ec3,Z nc4 ec4)))))
 obtain ⟨a1,ha1⟩:∃ v,v=Z na1 ea1:=⟨_,rfl⟩
 have ia1:ZI 20 a1 [b_ na1,s_ ea1]:=by rw [ha1];exact .raw na1 za1
 have sa1:Sz 20 a1:=ia1.sz
 obtain ⟨a2,ha2⟩:∃ v,v=Z na2 ea2:=⟨_,rfl⟩
 have ia2:ZI 20 a2 [b_ na2,s_ ea2]:=by rw [ha2];exact .raw na2 za2
 have sa2:Sz 20 a2:=ia2.sz
 obtain ⟨a3,ha3⟩:∃ v,v=Z na3 ea3:=⟨_,rfl⟩
 have ia3:ZI 20 a3 [b_ na3,s_ ea3]:=by rw [ha3];exact .raw na3 za3
 have sa3:Sz 20 a3:=ia3.sz
 obtain ⟨a4,ha4⟩:∃ v,v=Z na4 ea4:=⟨_,rfl⟩
 have ia4:ZI 20 a4 [b_ na4,s_ ea4]:=by rw [ha4];exact .raw na4 za4
 have sa4:Sz 20 a4:=ia4.sz
 have wa:=of_decide_eq_true wa
 dsimp only at wa
 rw [<- ha4] at wa
 obtain ⟨b1,hb1⟩:∃ v,v=Z nb1 eb1:=⟨_,rfl⟩
 have ib1:ZI 20 b1 [b_ nb1,s_ eb1]:=by rw [hb1];exact .raw nb1 zb1
 have sb1:Sz 20 b1:=ib1.sz
 obtain ⟨b2,hb2⟩:∃ v,v=Z nb2 eb2:=⟨_,rfl⟩
 have ib2:ZI 20 b2 [b_ nb2,s_ eb2]:=by rw [hb2];exact .raw nb2 zb2
 have sb2:Sz 20 b2:=ib2.sz
 obtain ⟨b3,hb3⟩:∃ v,v=Z nb3 eb3:=⟨_,rfl⟩
 have ib3:ZI 20 b3 [b_ nb3,s_ eb3]:=by rw [hb3];exact .raw nb3 zb3
 have sb3:Sz 20 b3:=ib3.sz
 obtain ⟨b4,hb4⟩:∃ v,v=Z nb4 eb4:=⟨_,rfl⟩
 have ib4:ZI 20 b4 [b_ nb4,s_ eb4]:=by rw [hb4];exact .raw nb4 zb4
 have sb4:Sz 20 b4:=ib4.sz
 have wb:=of_decide_eq_true wb
 dsimp only at wb
 rw [<- hb4] at wb
 obtain ⟨c1,hc1⟩:∃ v,v=Z nc1 ec1:=⟨_,rfl⟩
 have ic1:ZI 20 c1 [b_ nc1,s_ ec1]:=by rw [hc1];exact .raw nc1 zc1
 have sc1:Sz 20 c1:=ic1.sz
 obtain ⟨c2,hc2⟩:∃ v,v=Z nc2 ec2:=⟨_,rfl⟩
 have ic2:ZI 20 c2 [b_ nc2,s_ ec2]:=by rw [hc2];exact .raw nc2 zc2
 have sc2:Sz 20 c2:=ic2.sz
 obtain ⟨c3,hc3⟩:∃ v,v=Z nc3 ec3:=⟨_,rfl⟩
 have ic3:ZI 20 c3 [b_ nc3,s_ ec3]:=by rw [hc3];exact .raw nc3 zc3
 have sc3:Sz 20 c3:=ic3.sz
 obtain ⟨c4,hc4⟩:∃ v,v=Z nc4 ec4:=⟨_,rfl⟩
 have ic4:ZI 20 c4 [b_ nc4,s_ ec4]:=by rw [hc4];exact .raw nc4 zc4
 have sc4:Sz 20 c4:=ic4.sz
 have wc:=of_decide_eq_true wc
 dsimp only at wc
 rw [<- hc4] at wc
 rw [<- ha1,<- ha2,<- ha3,<- ha4,<- hb1,<- hb2,<- hb3,<- hb4,<- hc1,<- hc2,<- hc3,<- hc4]
 rw [<- aND (a:=(a1,a2,a3,a4)) (b:=(b1,b2,b3,b4)) (c:=(c1,c2,c3,c4)) wa wb wc]
 obtain ⟨r1,hr1⟩:∃ v,v=b1*a4:=⟨_,rfl⟩
 have sr1:Sz 40 r1:=by rw [hr1];exact sb1.mul sa4
 have cr1:aAd ([b_ nb1,s_ eb1]++[b_ na4,s_ ea4])=some (enc r1):=by rw [hr1];exact I2.at ib1 ia4 kQ kQ
 obtain ⟨r2,hr2⟩:∃ v,v=a1*b4:=⟨_,rfl⟩
 have sr2:Sz 40 r2:=by rw [hr2];exact sa1.mul sb4
 have cr2:aAd ([b_ na1,s_ ea1]++[b_ nb4,s_ eb4])=some (enc r2):=by rw [hr2];exact I2.at ia1 ib4 kQ kQ
 obtain ⟨r3,hr3⟩:∃ v,v=r1 - r2:=⟨_,rfl⟩
 have sr3:Sz 81 r3:=by rw [hr3];exact sr1.sub sr2
 have cr3:aBg (enc r1++enc r2)=some (enc r3):=by rw [hr3];exact I2.at (ZI.can sr1) (ZI.can sr2) kQ kQ
 obtain ⟨r4,hr4⟩:∃ v,v=b2*a4:=⟨_,rfl⟩
 have sr4:Sz 40 r4:=by rw [hr4];exact sb2.mul sa4
 have cr4:aAd ([b_ nb2,s_ eb2]++[b_ na4,s_ ea4])=some (enc r4):=by rw [hr4];exact I2.at ib2 ia4 kQ kQ
 obtain ⟨r5,hr5⟩:∃ v,v=a2*b4:=⟨_,rfl⟩
 have sr5:Sz 40 r5:=by rw [hr5];exact sa2.mul sb4
 have cr5:aAd ([b_ na2,s_ ea2]++[b_ nb4,s_ eb4])=some (enc r5):=by rw [hr5];exact I2.at ia2 ib4 kQ kQ
 obtain ⟨r6,hr6⟩:∃ v,v=r4 - r5:=⟨_,rfl⟩
 have sr6:Sz 81 r6:=by rw [hr6];exact sr4.sub sr5
 have cr6:aBg (enc r4++enc r5)=some (enc r6):=by rw [hr6];exact I2.at (ZI.can sr4) (ZI.can sr5) kQ kQ
 obtain ⟨r7,hr7⟩:∃ v,v=b3*a4:=⟨_,rfl⟩
 have sr7:Sz 40 r7:=by rw [hr7];exact sb3.mul sa4
 have cr7:aAd ([b_ nb3,s_ eb3]++[b_ na4,s_ ea4])=some (enc r7):=by rw [hr7];exact I2.at ib3 ia4 kQ kQ
 obtain ⟨r8,hr8⟩:∃ v,v=a3*b4:=⟨_,rfl⟩
 have sr8:Sz 40 r8:=by rw [hr8];exact sa3.mul sb4
 have cr8:aAd ([b_ na3,s_ ea3]++[b_ nb4,s_ eb4])=some (enc r8):=by rw [hr8];exact I2.at ia3 ib4 kQ kQ
 obtain ⟨r9,hr9⟩:∃ v,v=r7 - r8:=⟨_,rfl⟩
 have sr9:Sz 81 r9:=by rw [hr9];exact sr7.sub sr8
 have cr9:aBg (enc r7++enc r8)=some (enc r9):=by rw [hr9];exact I2.at (ZI.can sr7) (ZI.can sr8) kQ kQ
 obtain ⟨r10,hr10⟩:∃ v,v=c1*a4:=⟨_,rfl⟩
 have sr10:Sz 40 r10:=by rw [hr10];exact sc1.mul sa4
 have cr10:aAd ([b_ nc1,s_ ec1]++[b_ na4,s_ ea4])=some (enc r10):=by rw [hr10];exact I2.at ic1 ia4 kQ kQ
 obtain ⟨r11,hr11⟩:∃ v,v=a1*c4:=⟨_,rfl⟩
 have sr11:Sz 40 r11:=by rw [hr11];exact sa1.mul sc4
 have cr11:aAd ([b_ na1,s_ ea1]++[b_ nc4,s_ ec4])=some (enc r11):=by rw [hr11];exact I2.at ia1 ic4 kQ kQ
 obtain ⟨r12,hr12⟩:∃ v,v=r10 - r11:=⟨_,rfl⟩
 have sr12:Sz 81 r12:=by rw [hr12];exact sr10.sub sr11
 have cr12:aBg (enc r10++enc r11)=some (enc r12):=by rw [hr12];exact I2.at (ZI.can sr10) (ZI.can sr11) kQ kQ
 obtain ⟨r13,hr13⟩:∃ v,v=c2*a4:=⟨_,rfl⟩
 have sr13:Sz 40 r13:=by rw [hr13];exact sc2.mul sa4
 have cr13:aAd ([b_ nc2,s_ ec2]++[b_ na4,s_ ea4])=some (enc r13):=by rw [hr13];exact I2.at ic2 ia4 kQ kQ
 obtain ⟨r14,hr14⟩:∃ v,v=a2*c4:=⟨_,rfl⟩
 have sr14:Sz 40 r14:=by rw [hr14];exact sa2.mul sc4
 have cr14:aAd ([b_ na2,s_ ea2]++[b_ nc4,s_ ec4])=some (enc r14):=by rw [hr14];exact I2.at ia2 ic4 kQ kQ
 obtain ⟨r15,hr15⟩:∃ v,v=r13 - r14:=⟨_,rfl⟩
 have sr15:Sz 81 r15:=by rw [hr15];exact sr13.sub sr14
 have cr15:aBg (enc r13++enc r14)=some (enc r15):=by rw [hr15];exact I2.at (ZI.can sr13) (ZI.can sr14) kQ kQ
 obtain ⟨r16,hr16⟩:∃ v,v=c3*a4:=⟨_,rfl⟩
 have sr16:Sz 40 r16:=by rw [hr16];exact sc3.mul sa4
 have cr16:aAd ([b_ nc3,s_ ec3]++[b_ na4,s_ ea4])=some (enc r16):=by rw [hr16];exact I2.at ic3 ia4 kQ kQ
 obtain ⟨r17,hr17⟩:∃ v,v=a3*c4:=⟨_,rfl⟩
 have sr17:Sz 40 r17:=by rw [hr17];exact sa3.mul sc4
 have cr17:aAd ([b_ na3,s_ ea3]++[b_ nc4,s_ ec4])=some (enc r17):=by rw [hr17];exact I2.at ia3 ic4 kQ kQ
 obtain ⟨r18,hr18⟩:∃ v,v=r16 - r17:=⟨_,rfl⟩
 have sr18:Sz 81 r18:=by rw [hr18];exact sr16.sub sr17
 have cr18:aBg (enc r16++enc r17)=some (enc r18):=by rw [hr18];exact I2.at (ZI.can sr16) (ZI.can sr17) kQ kQ
 obtain ⟨r19,hr19⟩:∃ v,v=r6*r18:=⟨_,rfl⟩
 have sr19:Sz 162 r19:=by rw [hr19];exact sr6.mul sr18
 have cr19:aAd (enc r6++enc r18)=some (enc r19):=by rw [hr19];exact I2.at (ZI.can sr6) (ZI.can sr18) kQ kQ
 obtain ⟨r20,hr20⟩:∃ v,v=r9*r15:=⟨_,rfl⟩
 have sr20:Sz 162 r20:=by rw [hr20];exact sr9.mul sr15
 have cr20:aAd (enc r9++enc r15)=some (enc r20):=by rw [hr20];exact I2.at (ZI.can sr9) (ZI.can sr15) kQ kQ
 obtain ⟨r21,hr21⟩:∃ v,v=r19 - r20:=⟨_,rfl⟩
 have sr21:Sz 325 r21:=by rw [hr21];exact sr19.sub sr20
 have cr21:aBg (enc r19++enc r20)=some (enc r21):=by rw [hr21];exact I2.at (ZI.can sr19) (ZI.can sr20) kQ kQ
 obtain ⟨r22,hr22⟩:∃ v,v=r9*r12:=⟨_,rfl⟩
 have sr22:Sz 162 r22:=by rw [hr22];exact sr9.mul sr12
 have cr22:aAd (enc r9++enc r12)=some (enc r22):=by rw [hr22];exact I2.at (ZI.can sr9) (ZI.can sr12) kQ kQ
 obtain ⟨r23,hr23⟩:∃ v,v=r3*r18:=⟨_,rfl⟩
 have sr23:Sz 162 r23:=by rw [hr23];exact sr3.mul sr18
 have cr23:aAd (enc r3++enc r18)=some (enc r23):=by rw [hr23];exact I2.at (ZI.can sr3) (ZI.can sr18) kQ kQ
 obtain ⟨r24,hr24⟩:∃ v,v=r22 - r23:=⟨_,rfl⟩
 have sr24:Sz 325 r24:=by rw [hr24];exact sr22.sub sr23
 have cr24:aBg (enc r22++enc r23)=some (enc r24):=by rw [hr24];exact I2.at (ZI.can sr22) (ZI.can sr23) kQ kQ
 obtain ⟨r25,hr25⟩:∃ v,v=r3*r15:=⟨_,rfl⟩
 have sr25:Sz 162 r25:=by rw [hr25];exact sr3.mul sr15
 have cr25:aAd (enc r3++enc r15)=some (enc r25):=by rw [hr25];exact I2.at (ZI.can sr3) (ZI.can sr15) kQ kQ
 obtain ⟨r26,hr26⟩:∃ v,v=r6*r12:=⟨_,rfl⟩
 have sr26:Sz 162 r26:=by rw [hr26];exact sr6.mul sr12
 have cr26:aAd (enc r6++enc r12)=some (enc r26):=by rw [hr26];exact I2.at (ZI.can sr6) (ZI.can sr12) kQ kQ
 obtain ⟨r27,hr27⟩:∃ v,v=r25 - r26:=⟨_,rfl⟩
 have sr27:Sz 325 r27:=by rw [hr27];exact sr25.sub sr26
 have cr27:aBg (enc r25++enc r26)=some (enc r27):=by rw [hr27];exact I2.at (ZI.can sr25) (ZI.can sr26) kQ kQ
 obtain ⟨r28,hr28⟩:∃ v,v=r21*a1:=⟨_,rfl⟩
 have sr28:Sz 345 r28:=by rw [hr28];exact sr21.mul sa1
 have cr28:aAd (enc r21++[b_ na1,s_ ea1])=some (enc r28):=by rw [hr28];exact I2.at (ZI.can sr21) ia1 kQ kQ
 obtain ⟨r29,hr29⟩:∃ v,v=r24*a2:=⟨_,rfl⟩
 have sr29:Sz 345 r29:=by rw [hr29];exact sr24.mul sa2
 have cr29:aAd (enc r24++[b_ na2,s_ ea2])=some (enc r29):=by rw [hr29];exact I2.at (ZI.can sr24) ia2 kQ kQ
 obtain ⟨r30,hr30⟩:∃ v,v=r28+r29:=⟨_,rfl⟩
 have sr30:Sz 691 r30:=by rw [hr30];exact sr28.add sr29
 have cr30:aBF (enc r28++enc r29)=some (enc r30):=by rw [hr30];exact I2.at (ZI.can sr28) (ZI.can sr29) kQ kQ
 obtain ⟨r31,hr31⟩:∃ v,v=r27*a3:=⟨_,rfl⟩
 have sr31:Sz 345 r31:=by rw [hr31];exact sr27.mul sa3
 have cr31:aAd (enc r27++[b_ na3,s_ ea3])=some (enc r31):=by rw [hr31];exact I2.at (ZI.can sr27) ia3 kQ kQ
 obtain ⟨r32,hr32⟩:∃ v,v=r30+r31:=⟨_,rfl⟩
 have sr32:Sz 1037 r32:=by rw [hr32];exact sr30.add sr31
 have cr32:aBF (enc r30++enc r31)=some (enc r32):=by rw [hr32];exact I2.at (ZI.can sr30) (ZI.can sr31) kQ kQ
 obtain ⟨r33,hr33⟩:∃ v,v=r21*a4:=⟨_,rfl⟩
 have sr33:Sz 345 r33:=by rw [hr33];exact sr21.mul sa4
 have cr33:aAd (enc r21++[b_ na4,s_ ea4])=some (enc r33):=by rw [hr33];exact I2.at (ZI.can sr21) ia4 kQ kQ
 obtain ⟨r34,hr34⟩:∃ v,v=r24*a4:=⟨_,rfl⟩
 have sr34:Sz 345 r34:=by rw [hr34];exact sr24.mul sa4
 have cr34:aAd (enc r24++[b_ na4,s_ ea4])=some (enc r34):=by rw [hr34];exact I2.at (ZI.can sr24) ia4 kQ kQ
 obtain ⟨r35,hr35⟩:∃ v,v=r27*a4:=⟨_,rfl⟩
 have sr35:Sz 345 r35:=by rw [hr35];exact sr27.mul sa4
 have cr35:aAd (enc r27++[b_ na4,s_ ea4])=some (enc r35):=by rw [hr35];exact I2.at (ZI.can sr27) ia4 kQ kQ
 have E:thz (a1,a2,a3,a4) (b1,b2,b3,b4) (c1,c2,c3,c4)=(r33,r34,r35,r32):=by rw [hr35,hr34,hr33,hr32,hr31,hr30,hr29,hr28,hr27,hr26,hr25,hr24,hr23,hr22,hr21,hr20,hr19,hr18,hr17,hr16,hr15,hr14,hr13,hr12,hr11,hr10,hr9,hr8,hr7,hr6,hr5,hr4,hr3,hr2,hr1];rfl
 rw [E]
 clear E hr1 hr2 hr3 hr4 hr5 hr6 hr7 hr8 hr9 hr10 hr11 hr12 hr13 hr14 hr15 hr16 hr17 hr18 hr19 hr20 hr21 hr22 hr23 hr24 hr25 hr26 hr27 hr28 hr29 hr30 hr31 hr32 hr33 hr34 hr35
 have fin:aB8 (enc4 (r33,r34,r35,r32))=some (aC0 (plz (r33,r34,r35,r32))):=Fo.eq (aAv 2500) (PI.can ⟨sr33.le kQ,sr34.le kQ,sr35.le kQ,sr32.le kQ⟩)
 generalize plz (r33,r34,r35,r32)=Q at *
 obtain ⟨Q,k⟩:=Q
 refine ⟨0,?_⟩
 refine gC aAd cr1 ?_
 refine gC aAd cr2 ?_
 refine gC aBg cr3 ?_
 refine gC aAd cr4 ?_
 refine gC aAd cr5 ?_
 refine gC aBg cr6 ?_
 refine gC aAd cr7 ?_
 refine gC aAd cr8 ?_
 refine gC aBg cr9 ?_
 refine gC aAd cr10 ?_
 refine gC aAd cr11 ?_
 refine gC aBg cr12 ?_
 refine gC aAd cr13 ?_
 refine gC aAd cr14 ?_
 refine gC aBg cr15 ?_
 refine gC aAd cr16 ?_
 refine gC aAd cr17 ?_
 refine gC aBg cr18 ?_
 refine gC aAd cr19 ?_
 refine gC aAd cr20 ?_
 refine gC aBg cr21 ?_
 refine gC aAd cr22 ?_
 refine gC aAd cr23 ?_
 refine gC aBg cr24 ?_
 refine gC aAd cr25 ?_
 refine gC aAd cr26 ?_
 refine gC aBg cr27 ?_
 refine gC aAd cr28 ?_
 refine gC aAd cr29 ?_
 refine gC aBF cr30 ?_
 refine gC aAd cr31 ?_
 refine gC aBF cr32 ?_
 refine gC aAd cr33 ?_
 refine gC aAd cr34 ?_
 refine gC aAd cr35 ?_
 refine gC aB8 fin ?_
 exact aAc kK
def aR9:Tb:=(49,aEY)::aR7
theorem aRA:TbOk Tryz.prog X.G aR9:=.cons kK g_lthru aR8
set_option maxHeartbeats 2000000 in
theorem g_lside:Sx.Good Tryz.prog X.G 52 ⟨[.agg 8,.agg 8],.v1 .one⟩ aAD:=aAe aRA (λ _ _=>X.G_below) 400 kK (by kernel_rfl:_=some aMv) λ ds rs h=>by
 obtain ⟨⟨p,q⟩,⟨e1,e2,hp,hq,rfl⟩,rfl⟩:=Fo.inv (aIw 1000) h
 obtain ⟨n1,a1,n2,a2,n3,a3,n4,a4,rfl,h1,h2,h3,h4,rfl⟩:=PI.inv hp
 obtain ⟨m1,b1,m2,b2,m3,b3,m4,b4,rfl,g1,g2,g3,g4,rfl⟩:=PI.inv hq
 show ∃ kk,aMv.run _ _ kk _ _=some [i_ (sgn (sdz (Z n1 a1,Z n2 a2,Z n3 a3,Z n4 a4) (Z m1 b1,Z m2 b2,Z m3 b3,Z m4 b4)))]
 obtain ⟨x,hx⟩:∃ v,v=Z n1 a1:=⟨_,rfl⟩
 have ix:ZI 1000 x [b_ n1,s_ a1]:=by rw [hx];exact .raw n1 h1
 have sx:Sz 1000 x:=ix.sz
 obtain ⟨y,hy⟩:∃ v,v=Z n2 a2:=⟨_,rfl⟩
 have iy:ZI 1000 y [b_ n2,s_ a2]:=by rw [hy];exact .raw n2 h2
 have sy:Sz 1000 y:=iy.sz
 obtain ⟨z,hz⟩:∃ v,v=Z n3 a3:=⟨_,rfl⟩
 have iz:ZI 1000 z [b_ n3,s_ a3]:=by rw [hz];exact .raw n3 h3
 have sz:Sz 1000 z:=iz.sz
 obtain ⟨w,hw⟩:∃ v,v=Z n4 a4:=⟨_,rfl⟩
 have iw:ZI 1000 w [b_ n4,s_ a4]:=by rw [hw];exact .raw n4 h4
 have sw:Sz 1000 w:=iw.sz
 obtain ⟨x',hx'⟩:∃ v,v=Z m1 b1:=⟨_,rfl⟩
 have ix':ZI 1000 x' [b_ m1,s_ b1]:=by rw [hx'];exact .raw m1 g1
 have sx':Sz 1000 x':=ix'.sz
 obtain ⟨y',hy'⟩:∃ v,v=Z m2 b2:=⟨_,rfl⟩
 have iy':ZI 1000 y' [b_ m2,s_ b2]:=by rw [hy'];exact .raw m2 g2
 have sy':Sz 1000 y':=iy'.sz
 obtain ⟨z',hz'⟩:∃ v,v=Z m3 b3:=⟨_,rfl⟩
 have iz':ZI 1000 z' [b_ m3,s_ b3]:=by rw [hz'];exact .raw m3 g3
 have sz':Sz 1000 z':=iz'.sz
 obtain ⟨w',hw'⟩:∃ v,v=Z m4 b4:=⟨_,rfl⟩
 have iw':ZI 1000 w' [b_ m4,s_ b4]:=by rw [hw'];exact .raw m4 g4
 have sw':Sz 1000 w':=iw'.sz
 rw [<- hx,<- hy,<- hz,<- hw,<- hx',<- hy',<- hz',<- hw']
 clear hx hy hz hw hx' hy' hz' hw'
 obtain ⟨r1,hr1⟩:∃ v,v=x*x':=⟨_,rfl⟩
 have sr1:Sz 2000 r1:=by rw [hr1];exact sx.mul sx'
 have cr1:aAd ([b_ n1,s_ a1]++[b_ m1,s_ b1])=some (enc r1):=by rw [hr1];exact I2.at ix ix' kQ kQ
 obtain ⟨r2,hr2⟩:∃ v,v=y*y':=⟨_,rfl⟩
 have sr2:Sz 2000 r2:=by rw [hr2];exact sy.mul sy'
 have cr2:aAd ([b_ n2,s_ a2]++[b_ m2,s_ b2])=some (enc r2):=by rw [hr2];exact I2.at iy iy' kQ kQ
 obtain ⟨r3,hr3⟩:∃ v,v=r1+r2:=⟨_,rfl⟩
 have sr3:Sz 4001 r3:=by rw [hr3];exact sr1.add sr2
 have cr3:aBF (enc r1++enc r2)=some (enc r3):=by rw [hr3];exact I2.at (ZI.can sr1) (ZI.can sr2) kQ kQ
 obtain ⟨r4,hr4⟩:∃ v,v=z*z':=⟨_,rfl⟩
 have sr4:Sz 2000 r4:=by rw [hr4];exact sz.mul sz'
 have cr4:aAd ([b_ n3,s_ a3]++[b_ m3,s_ b3])=some (enc r4):=by rw [hr4];exact I2.at iz iz' kQ kQ
 obtain ⟨r5,hr5⟩:∃ v,v=r3+r4:=⟨_,rfl⟩
 have sr5:Sz 6002 r5:=by rw [hr5];exact sr3.add sr4
 have cr5:aBF (enc r3++enc r4)=some (enc r5):=by rw [hr5];exact I2.at (ZI.can sr3) (ZI.can sr4) kQ kQ
 obtain ⟨r6,hr6⟩:∃ v,v=w*w':=⟨_,rfl⟩
 have sr6:Sz 2000 r6:=by rw [hr6];exact sw.mul sw'
 have cr6:aAd ([b_ n4,s_ a4]++[b_ m4,s_ b4])=some (enc r6):=by rw [hr6];exact I2.at iw iw' kQ kQ
 have fin:aBM (enc r5++enc r6)=some [i_ (sgn (r5 - r6))]:=I2.at (ZI.can sr5) (ZI.can sr6) kQ kQ
 have E:sdz (x,y,z,w) (x',y',z',w')=r5 - r6:=by rw [hr6,hr5,hr4,hr3,hr2,hr1];unfold sdz;dsimp only
 rw [E]
 clear E hr1 hr2 hr3 hr4 hr5 hr6
 generalize sgn (r5 - r6)=S at *
 refine ⟨0,?_⟩
 refine gC aAd cr1 ?_
 refine gC aAd cr2 ?_
 refine gC aBF cr3 ?_
 refine gC aAd cr4 ?_
 refine gC aBF cr5 ?_
 refine gC aAd cr6 ?_
 refine gC aBM fin ?_
 exact aAc kK
def aRB:Tb:=(52,aAD)::aR9
theorem aRC:TbOk Tryz.prog X.G aRB:=.cons kK g_lside aRA
set_option maxHeartbeats 2000000 in
theorem g_laxis:Sx.Good Tryz.prog X.G 59 ⟨[.agg 8],.tup [.one,.one]⟩ aBc:=aAe aRC (λ _ _=>X.G_below) 400 kK (by kernel_rfl:_=some aMw) λ ds rs h=>by
 obtain ⟨p,hp,rfl⟩:=Fo.inv (aAv 2000) h
 obtain ⟨n1,a1,n2,a2,n3,a3,n4,a4,rfl,h1,h2,h3,h4,rfl⟩:=hp.inv
 show ∃ kk,aMw.run _ _ kk _ _=some [i_ (axz (Z n1 a1,Z n2 a2,Z n3 a3,Z n4 a4):Int),b_ (decide (sgn (ix3 (Z n1 a1,Z n2 a2,Z n3 a3,Z n4 a4) (axz (Z n1 a1,Z n2 a2,Z n3 a3,Z n4 a4))) > 0))]
 obtain ⟨x,hx⟩:∃ v,v=Z n1 a1:=⟨_,rfl⟩
 have ix:ZI 2000 x [b_ n1,s_ a1]:=by rw [hx];exact .raw n1 h1
 have sx:Sz 2000 x:=ix.sz
 obtain ⟨y,hy⟩:∃ v,v=Z n2 a2:=⟨_,rfl⟩
 have iy:ZI 2000 y [b_ n2,s_ a2]:=by rw [hy];exact .raw n2 h2
 have sy:Sz 2000 y:=iy.sz
 obtain ⟨z,hz⟩:∃ v,v=Z n3 a3:=⟨_,rfl⟩
 have iz:ZI 2000 z [b_ n3,s_ a3]:=by rw [hz];exact .raw n3 h3
 have sz:Sz 2000 z:=iz.sz
 generalize Z n4 a4=w at *
 have jx:ZI 2000 (x.natAbs:Int) [b_ false,s_ a1]:=by rw [hx,aBr];exact .raw false h1
 have kx:aAx [b_ n1,s_ a1]=some [i_ (sgn x)]:=I1.at ix kQ
 have jy:ZI 2000 (y.natAbs:Int) [b_ false,s_ a2]:=by rw [hy,aBr];exact .raw false h2
 have ky:aAx [b_ n2,s_ a2]=some [i_ (sgn y)]:=I1.at iy kQ
 have jz:ZI 2000 (z.natAbs:Int) [b_ false,s_ a3]:=by rw [hz,aBr];exact .raw false h3
 have kz:aAx [b_ n3,s_ a3]=some [i_ (sgn z)]:=I1.at iz kQ
 rw [<- hx,<- hy,<- hz]
 clear hx hy hz
 have cyz:aBM ([b_ false,s_ a2]++[b_ false,s_ a3])=some [i_ (sgn ((y.natAbs:Int) - (z.natAbs:Int)))]:=I2.at jy jz kQ kQ
 have tyz:sgn ((y.natAbs:Int) - (z.natAbs:Int)) > 0 ↔ z.natAbs < y.natAbs:=by rw [aGp];omega
 generalize sgn ((y.natAbs:Int) - (z.natAbs:Int))=Syz at *
 have cxy:aBM ([b_ false,s_ a1]++[b_ false,s_ a2])=some [i_ (sgn ((x.natAbs:Int) - (y.natAbs:Int)))]:=I2.at jx jy kQ kQ
 have txy:sgn ((x.natAbs:Int) - (y.natAbs:Int)) > 0 ↔ y.natAbs < x.natAbs:=by rw [aGp];omega
 generalize sgn ((x.natAbs:Int) - (y.natAbs:Int))=Sxy at *
 have cxz:aBM ([b_ false,s_ a1]++[b_ false,s_ a3])=some [i_ (sgn ((x.natAbs:Int) - (z.natAbs:Int)))]:=I2.at jx jz kQ kQ
 have txz:sgn ((x.natAbs:Int) - (z.natAbs:Int)) > 0 ↔ z.natAbs < x.natAbs:=by rw [aGp];omega
 generalize sgn ((x.natAbs:Int) - (z.natAbs:Int))=Sxz at *
 refine ⟨0,?_⟩
 refine gC aBM cyz (gP (aA8 _ _ .i64 Syz 0) (aAw (b:=decide (Syz > 0)) kK (λ h1=>?_) (λ h1=>?_)))
 ·refine gC aBM cxy (gP (aA8 _ _ .i64 Sxy 0) (aAw (b:=decide (Sxy > 0)) kK (λ h2=>?_) (λ h2=>?_)))
  ·have ha:axz (x,y,z,w)=0:=by unfold axz;dsimp only;rw [if_pos (tyz.1 (of_decide_eq_true h1)),if_pos (txy.1 (of_decide_eq_true h2))]
   have hi:ix3 (x,y,z,w) 0=x:=rfl
   rw [ha,hi]
   exact gC aAx kx (gP (aA8 _ _ .i64 (sgn x) 0) (aAc kK))
  ·have ha:axz (x,y,z,w)=1:=by unfold axz;dsimp only;rw [if_pos (tyz.1 (of_decide_eq_true h1)),if_neg (mt txy.2 (of_decide_eq_false h2))]
   have hi:ix3 (x,y,z,w) 1=y:=rfl
   rw [ha,hi]
   exact gC aAx ky (gP (aA8 _ _ .i64 (sgn y) 0) (aAc kK))
 ·refine gC aBM cxz (gP (aA8 _ _ .i64 Sxz 0) (aAw (b:=decide (Sxz > 0)) kK (λ h2=>?_) (λ h2=>?_)))
  ·have ha:axz (x,y,z,w)=0:=by unfold axz;dsimp only;rw [if_neg (mt tyz.2 (of_decide_eq_false h1)),if_pos (txz.1 (of_decide_eq_true h2))]
   have hi:ix3 (x,y,z,w) 0=x:=rfl
   rw [ha,hi]
   exact gC aAx kx (gP (aA8 _ _ .i64 (sgn x) 0) (aAc kK))
  ·have ha:axz (x,y,z,w)=2:=by unfold axz;dsimp only;rw [if_neg (mt tyz.2 (of_decide_eq_false h1)),if_neg (mt txz.2 (of_decide_eq_false h2))]
   have hi:ix3 (x,y,z,w) 2=z:=rfl
   rw [ha,hi]
   exact gC aAx kz (gP (aA8 _ _ .i64 (sgn z) 0) (aAc kK))
def aRD:Tb:=(59,aBc)::aRB
theorem aRE:TbOk Tryz.prog X.G aRD:=.cons kK g_laxis aRC
set_option maxHeartbeats 2000000 in
theorem g_loff:Sx.Good Tryz.prog X.G 63 ⟨[.agg 8,.agg 3],.v1 (.agg 8)⟩ aBn:=aAe aRE (λ _ _=>X.G_below) 400 kK (by kernel_rfl:_=some aKk) λ ds rs h=>by
 obtain ⟨⟨p,q⟩,⟨e1,e2,hp,hq,rfl⟩,rfl⟩:=Fo.inv (aLr 100) h
 obtain ⟨n1,a1,n2,a2,n3,a3,n4,a4,rfl,h1,h2,h3,h4,rfl⟩:=PI.inv hp
 obtain ⟨n,a,b,rfl,ha,hb,rfl⟩:=hq
 show ∃ kk,aKk.run _ _ kk _ _=some (enc4 (off (Z n1 a1,Z n2 a2,Z n3 a3,Z n4 a4) (qv n a b)).1)
 have k0:aBc [b_ n1,s_ a1,b_ n2,s_ a2,b_ n3,s_ a3,b_ n4,s_ a4]=some [i_ (axz (Z n1 a1,Z n2 a2,Z n3 a3,Z n4 a4):Int),b_ (decide (sgn (ix3 (Z n1 a1,Z n2 a2,Z n3 a3,Z n4 a4) (axz (Z n1 a1,Z n2 a2,Z n3 a3,Z n4 a4))) > 0))]:=Fo.eq (aAv 2000) (hp.le kQ)
 obtain ⟨x,hx⟩:∃ v,v=Z n1 a1:=⟨_,rfl⟩
 have ix:ZI 100 x [b_ n1,s_ a1]:=by rw [hx];exact .raw n1 h1
 have sx:Sz 100 x:=ix.sz
 obtain ⟨y,hy⟩:∃ v,v=Z n2 a2:=⟨_,rfl⟩
 have iy:ZI 100 y [b_ n2,s_ a2]:=by rw [hy];exact .raw n2 h2
 have sy:Sz 100 y:=iy.sz
 obtain ⟨z,hz⟩:∃ v,v=Z n3 a3:=⟨_,rfl⟩
 have iz:ZI 100 z [b_ n3,s_ a3]:=by rw [hz];exact .raw n3 h3
 have sz:Sz 100 z:=iz.sz
 obtain ⟨w,hw⟩:∃ v,v=Z n4 a4:=⟨_,rfl⟩
 have iw:ZI 100 w [b_ n4,s_ a4]:=by rw [hw];exact .raw n4 h4
 have sw:Sz 100 w:=iw.sz
 obtain ⟨t,ht⟩:∃ v,v=qv n a b:=⟨_,rfl⟩
 have it:RI 100 t [b_ n,s_ a,s_ b]:=by rw [ht];exact .raw n ha hb
 have st:Sq 100 t:=it.sq kQ
 have jx:ZI 100 (x.natAbs:Int) [b_ false,s_ a1]:=by rw [hx,aBr];exact .raw false h1
 have jy:ZI 100 (y.natAbs:Int) [b_ false,s_ a2]:=by rw [hy,aBr];exact .raw false h2
 have jz:ZI 100 (z.natAbs:Int) [b_ false,s_ a3]:=by rw [hz,aBr];exact .raw false h3
 rw [<- hx,<- hy,<- hz,<- hw] at k0 ⊢
 rw [<- ht]
 clear hx hy hz hw ht
 generalize decide (sgn (ix3 (x,y,z,w) (axz (x,y,z,w))) > 0)=up at *
 obtain ⟨o,ho⟩:∃ o,o=(1:Int):=⟨_,rfl⟩
 have so:Sz 1 o:=by rw [ho];exact Sz.one
 have co:F_ifrom [i_ 1]=some (enc o):=by rw [ho];exact F_ifrom.eq kQ kQ
 obtain ⟨r1,hr1⟩:∃ v,v=((x:Int):Rat):=⟨_,rfl⟩
 have sr1:Sq 100 r1:=by rw [hr1];exact aBj kQ sx
 have cr1:aAm ([b_ n1,s_ a1]++enc o)=some (encR r1++[b_ true]):=by rw [hr1,ho];exact aBZ ix kQ
 obtain ⟨r2,hr2⟩:∃ v,v=((y:Int):Rat):=⟨_,rfl⟩
 have sr2:Sq 100 r2:=by rw [hr2];exact aBj kQ sy
 have cr2:aAm ([b_ n2,s_ a2]++enc o)=some (encR r2++[b_ true]):=by rw [hr2,ho];exact aBZ iy kQ
 obtain ⟨r3,hr3⟩:∃ v,v=((z:Int):Rat):=⟨_,rfl⟩
 have sr3:Sq 100 r3:=by rw [hr3];exact aBj kQ sz
 have cr3:aAm ([b_ n3,s_ a3]++enc o)=some (encR r3++[b_ true]):=by rw [hr3,ho];exact aBZ iz kQ
 obtain ⟨r4,hr4⟩:∃ v,v=((w:Int):Rat):=⟨_,rfl⟩
 have sr4:Sq 100 r4:=by rw [hr4];exact aBj kQ sw
 have cr4:aAm ([b_ n4,s_ a4]++enc o)=some (encR r4++[b_ true]):=by rw [hr4,ho];exact aBZ iw kQ
 refine ⟨0,?_⟩
 rcases aDq (x,y,z,w) with e | e | e
 ·obtain ⟨nn,hnn⟩:∃ v,v=(x.natAbs:Int):=⟨_,rfl⟩
  have jn:ZI 100 nn [b_ false,s_ a1]:=by rw [hnn];exact jx
  have hab:aAR (x,y,z,w)=((nn:Int):Rat):=by unfold aAR;rw [e,hnn];rfl
  have sn:Sz 100 nn:=jn.sz
  obtain ⟨r22,hr22⟩:∃ v,v=((nn:Int):Rat):=⟨_,rfl⟩
  have sr22:Sq 100 r22:=by rw [hr22];exact aBj kQ sn
  have cr22:aAm ([b_ false,s_ a1]++enc o)=some (encR r22++[b_ true]):=by rw [hr22,ho];exact aBZ jn kQ
  obtain ⟨r23,hr23⟩:∃ v,v=r22*t:=⟨_,rfl⟩
  have sr23:Sq 200 r23:=by rw [hr23];exact Sq.mul kQ sr22 st
  have cr23:aAQ (encR r22++[b_ n,s_ a,s_ b])=some (encR r23):=by rw [hr23];exact R2.at (RI.can sr22) it kQ kQ
  obtain ⟨r24,hr24⟩:∃ v,v=r4+r23:=⟨_,rfl⟩
  have sr24:Sq 301 r24:=by rw [hr24];exact Sq.add sr4 sr23
  have cr24:aBb (encR r4++encR r23)=some (encR r24):=by rw [hr24];exact R2.at (RI.can sr4) (RI.can sr23) kQ kQ
  have E:off (x,y,z,w) t=plv (r1,r2,r3,r24):=by unfold off;rw [hab,hr1,hr2,hr3,hr24,hr23,hr4,hr22];rw [Rat.mul_comm]
  rw [E]
  have fin:aDF ((encR r1++(encR r2++encR r3))++encR r24)=some (aC0 (plv (r1,r2,r3,r24))):=Fo.eq (v:=((r1,r2,r3),r24)) (aGt 600) (And2.mk' (VI.can ⟨sr1.le kQ,sr2.le kQ,sr3.le kQ⟩) (RI.can (sr24.le kQ)))
  generalize plv (r1,r2,r3,r24)=Q at *
  obtain ⟨Q,kq⟩:=Q
  rw [e] at k0
  clear E hab e hnn ho hr1 hr2 hr3 hr4 hr22 hr23 hr24
  refine gC aBc k0 ?_
  refine gC F_ifrom co ?_
  refine gC aAm cr1 ?_
  refine gC F_ifrom co ?_
  refine gC aAm cr2 ?_
  refine gC F_ifrom co ?_
  refine gC aAm cr3 ?_
  refine gC F_ifrom co ?_
  refine gC aAm cr4 ?_
  refine aD7 (k:=.i64) (i:=11) (j:=0) kK ?_
  refine gC F_ifrom co ?_
  refine gC aAm cr22 ?_
  refine gC aAQ cr23 ?_
  refine gC aBb cr24 ?_
  refine gC aDF fin ?_
  exact aAc kK
 ·obtain ⟨nn,hnn⟩:∃ v,v=(y.natAbs:Int):=⟨_,rfl⟩
  have jn:ZI 100 nn [b_ false,s_ a2]:=by rw [hnn];exact jy
  have hab:aAR (x,y,z,w)=((nn:Int):Rat):=by unfold aAR;rw [e,hnn];rfl
  have sn:Sz 100 nn:=jn.sz
  obtain ⟨r22,hr22⟩:∃ v,v=((nn:Int):Rat):=⟨_,rfl⟩
  have sr22:Sq 100 r22:=by rw [hr22];exact aBj kQ sn
  have cr22:aAm ([b_ false,s_ a2]++enc o)=some (encR r22++[b_ true]):=by rw [hr22,ho];exact aBZ jn kQ
  obtain ⟨r23,hr23⟩:∃ v,v=r22*t:=⟨_,rfl⟩
  have sr23:Sq 200 r23:=by rw [hr23];exact Sq.mul kQ sr22 st
  have cr23:aAQ (encR r22++[b_ n,s_ a,s_ b])=some (encR r23):=by rw [hr23];exact R2.at (RI.can sr22) it kQ kQ
  obtain ⟨r24,hr24⟩:∃ v,v=r4+r23:=⟨_,rfl⟩
  have sr24:Sq 301 r24:=by rw [hr24];exact Sq.add sr4 sr23
  have cr24:aBb (encR r4++encR r23)=some (encR r24):=by rw [hr24];exact R2.at (RI.can sr4) (RI.can sr23) kQ kQ
  have E:off (x,y,z,w) t=plv (r1,r2,r3,r24):=by unfold off;rw [hab,hr1,hr2,hr3,hr24,hr23,hr4,hr22];rw [Rat.mul_comm]
  rw [E]
  have fin:aDF ((encR r1++(encR r2++encR r3))++encR r24)=some (aC0 (plv (r1,r2,r3,r24))):=Fo.eq (v:=((r1,r2,r3),r24)) (aGt 600) (And2.mk' (VI.can ⟨sr1.le kQ,sr2.le kQ,sr3.le kQ⟩) (RI.can (sr24.le kQ)))
  generalize plv (r1,r2,r3,r24)=Q at *
  obtain ⟨Q,kq⟩:=Q
  rw [e] at k0
  clear E hab e hnn ho hr1 hr2 hr3 hr4 hr22 hr23 hr24
  refine gC aBc k0 ?_
  refine gC F_ifrom co ?_
  refine gC aAm cr1 ?_
  refine gC F_ifrom co ?_
  refine gC aAm cr2 ?_
  refine gC F_ifrom co ?_
  refine gC aAm cr3 ?_
  refine gC F_ifrom co ?_
  refine gC aAm cr4 ?_
  refine aCe (k:=.i64) (n:=1) (i:=11) (j:=0) kK kQ (?_)
  refine aD7 (k:=.i64) (i:=11) (j:=1) kK ?_
  refine gC F_ifrom co ?_
  refine gC aAm cr22 ?_
  refine gC aAQ cr23 ?_
  refine gC aBb cr24 ?_
  refine gC aDF fin ?_
  exact aAc kK
 ·obtain ⟨nn,hnn⟩:∃ v,v=(z.natAbs:Int):=⟨_,rfl⟩
  have jn:ZI 100 nn [b_ false,s_ a3]:=by rw [hnn];exact jz
  have hab:aAR (x,y,z,w)=((nn:Int):Rat):=by unfold aAR;rw [e,hnn];rfl
  have sn:Sz 100 nn:=jn.sz
  obtain ⟨r22,hr22⟩:∃ v,v=((nn:Int):Rat):=⟨_,rfl⟩
  have sr22:Sq 100 r22:=by rw [hr22];exact aBj kQ sn
  have cr22:aAm ([b_ false,s_ a3]++enc o)=some (encR r22++[b_ true]):=by rw [hr22,ho];exact aBZ jn kQ
  obtain ⟨r23,hr23⟩:∃ v,v=r22*t:=⟨_,rfl⟩
  have sr23:Sq 200 r23:=by rw [hr23];exact Sq.mul kQ sr22 st
  have cr23:aAQ (encR r22++[b_ n,s_ a,s_ b])=some (encR r23):=by rw [hr23];exact R2.at (RI.can sr22) it kQ kQ
  obtain ⟨r24,hr24⟩:∃ v,v=r4+r23:=⟨_,rfl⟩
  have sr24:Sq 301 r24:=by rw [hr24];exact Sq.add sr4 sr23
  have cr24:aBb (encR r4++encR r23)=some (encR r24):=by rw [hr24];exact R2.at (RI.can sr4) (RI.can sr23) kQ kQ
  have E:off (x,y,z,w) t=plv (r1,r2,r3,r24):=by unfold off;rw [hab,hr1,hr2,hr3,hr24,hr23,hr4,hr22];rw [Rat.mul_comm]
  rw [E]
  have fin:aDF ((encR r1++(encR r2++encR r3))++encR r24)=some (aC0 (plv (r1,r2,r3,r24))):=Fo.eq (v:=((r1,r2,r3),r24)) (aGt 600) (And2.mk' (VI.can ⟨sr1.le kQ,sr2.le kQ,sr3.le kQ⟩) (RI.can (sr24.le kQ)))
  generalize plv (r1,r2,r3,r24)=Q at *
  obtain ⟨Q,kq⟩:=Q
  rw [e] at k0
  clear E hab e hnn ho hr1 hr2 hr3 hr4 hr22 hr23 hr24
  refine gC aBc k0 ?_
  refine gC F_ifrom co ?_
  refine gC aAm cr1 ?_
  refine gC F_ifrom co ?_
  refine gC aAm cr2 ?_
  refine gC F_ifrom co ?_
  refine gC aAm cr3 ?_
  refine gC F_ifrom co ?_
  refine gC aAm cr4 ?_
  refine aCe (k:=.i64) (n:=2) (i:=11) (j:=0) kK kQ (aCe (k:=.i64) (n:=2) (i:=11) (j:=1) kK kQ (?_))
  refine aD7 (k:=.i64) (i:=11) (j:=2) kK ?_
  refine gC F_ifrom co ?_
  refine gC aAm cr22 ?_
  refine gC aAQ cr23 ?_
  refine gC aBb cr24 ?_
  refine gC aDF fin ?_
  exact aAc kK
def aRF:Tb:=(63,aBn)::aRD
theorem aRG:TbOk Tryz.prog X.G aRF:=.cons kK g_loff aRE
set_option maxHeartbeats 2000000 in
theorem g_lfmt:Sx.Good Tryz.prog X.G 100 ⟨[.agg 8],.v1 .one⟩ aFj:=aAe aRG (λ _ _=>X.G_below) 400 kK (by kernel_rfl:_=some aKl) λ ds rs h=>by
 obtain ⟨p,hp,rfl⟩:=Fo.inv (aAv 2500) h
 obtain ⟨n1,a1,n2,a2,n3,a3,n4,a4,rfl,h1,h2,h3,h4,rfl⟩:=hp.inv
 show ∃ kk,aKl.run _ _ kk _ _=some [s_ (aD1 (Z n1 a1,Z n2 a2,Z n3 a3,Z n4 a4))]
 obtain ⟨x,hx⟩:∃ v,v=Z n1 a1:=⟨_,rfl⟩
 have ix:ZI 2500 x [b_ n1,s_ a1]:=by rw [hx];exact .raw n1 h1
 have sx:Sz 2500 x:=ix.sz
 obtain ⟨y,hy⟩:∃ v,v=Z n2 a2:=⟨_,rfl⟩
 have iy:ZI 2500 y [b_ n2,s_ a2]:=by rw [hy];exact .raw n2 h2
 have sy:Sz 2500 y:=iy.sz
 obtain ⟨z,hz⟩:∃ v,v=Z n3 a3:=⟨_,rfl⟩
 have iz:ZI 2500 z [b_ n3,s_ a3]:=by rw [hz];exact .raw n3 h3
 have sz:Sz 2500 z:=iz.sz
 obtain ⟨w,hw⟩:∃ v,v=Z n4 a4:=⟨_,rfl⟩
 have iw:ZI 2500 w [b_ n4,s_ a4]:=by rw [hw];exact .raw n4 h4
 have sw:Sz 2500 w:=iw.sz
 rw [<- hx,<- hy,<- hz,<- hw]
 clear hx hy hz hw
 have dx:aBX [b_ n1,s_ a1]=some [s_ (aAT x)]:=I1.at ix kQ
 have qx:=aCp sx
 have dy:aBX [b_ n2,s_ a2]=some [s_ (aAT y)]:=I1.at iy kQ
 have qy:=aCp sy
 have dz:aBX [b_ n3,s_ a3]=some [s_ (aAT z)]:=I1.at iz kQ
 have qz:=aCp sz
 have dw:aBX [b_ n4,s_ a4]=some [s_ (aAT w)]:=I1.at iw kQ
 have qw:=aCp sw
 have hpt:aD1 (x,y,z,w)=(⟨#[91]⟩:ByteArray)++aB7 [aAT x,aAT y,aAT z,aAT w] ⟨#[32]⟩++(⟨#[93]⟩:ByteArray):=rfl
 rw [hpt]
 clear hpt
 generalize aAT x=A at *
 generalize aAT y=B at *
 generalize aAT z=C at *
 generalize aAT w=E at *
 have o1:(⟨#[91]⟩:ByteArray).size=1:=rfl
 have o2:(⟨#[93]⟩:ByteArray).size=1:=rfl
 have o3:(⟨#[32]⟩:ByteArray).size=1:=rfl
 have j1:aEc [.l 4 [s_ A,s_ B,s_ C,s_ E],s_ (⟨#[32]⟩:ByteArray)]=some [s_ (aB7 [A,B,C,E] ⟨#[32]⟩)]:=aQs _ _ _ _ _ kJ
 have hs:(aB7 [A,B,C,E] ⟨#[32]⟩).size<=40000:=by rw [aIl];omega
 generalize aB7 [A,B,C,E] ⟨#[32]⟩=J at *
 refine ⟨0,?_⟩
 refine gC aBX dx (aAf (vs:=[.agg [s_ A]]) (d:=.l 1 [s_ A]) kK kK (gC aBX dy (aAf (vs:=[.one (.l 1 [s_ A]),.agg [s_ B]]) (d:=.l 2 [s_ A,s_ B]) kK kK (gC aBX dz (aAf (vs:=[.one (.l 2 [s_ A,s_ B]),.agg [s_ C]]) (d:=.l 3 [s_ A,s_ B,s_ C]) kK kK (gC aBX dw (aAf (vs:=[.one (.l 3 [s_ A,s_ B,s_ C]),.agg [s_ E]]) (d:=.l 4 [s_ A,s_ B,s_ C,s_ E]) kK kK ?_)))))))
 refine gC aEc j1 (gP (aDd _ _ (⟨#[91]⟩:ByteArray) J kJ) (gP (aDd _ _ ((⟨#[91]⟩:ByteArray)++J) (⟨#[93]⟩:ByteArray) (by rw [ByteArray.size_append];omega)) (aAc kK)))
def aNM:Tb:=(100,aFj)::aRF
theorem aNN:TbOk Tryz.prog X.G aNM:=.cons kK g_lfmt aRG
set_option maxHeartbeats 2000000 in
theorem g_lflip:Sx.Good Tryz.prog X.G 51 ⟨[.agg 8],.v1 (.agg 8)⟩ aB0:=aAe aQt (λ _ _=>X.G_below) 400 kK (by kernel_rfl:_=some aMu) λ ds rs h=>by
 obtain ⟨p,hp,rfl⟩:=Fo.inv (aAv 2500) h
 obtain ⟨n1,a1,n2,a2,n3,a3,n4,a4,rfl,h1,h2,h3,h4,rfl⟩:=hp.inv
 show ∃ kk,aMu.run _ _ kk _ _=some (enc4 (aBy (Z n1 a1,Z n2 a2,Z n3 a3,Z n4 a4)))
 obtain ⟨x,hx⟩:∃ v,v=Z n1 a1:=⟨_,rfl⟩
 have ix:ZI 2500 x [b_ n1,s_ a1]:=by rw [hx];exact .raw n1 h1
 have sx:Sz 2500 x:=ix.sz
 obtain ⟨y,hy⟩:∃ v,v=Z n2 a2:=⟨_,rfl⟩
 have iy:ZI 2500 y [b_ n2,s_ a2]:=by rw [hy];exact .raw n2 h2
 have sy:Sz 2500 y:=iy.sz
 obtain ⟨z,hz⟩:∃ v,v=Z n3 a3:=⟨_,rfl⟩
 have iz:ZI 2500 z [b_ n3,s_ a3]:=by rw [hz];exact .raw n3 h3
 have sz:Sz 2500 z:=iz.sz
 obtain ⟨w,hw⟩:∃ v,v=Z n4 a4:=⟨_,rfl⟩
 have iw:ZI 2500 w [b_ n4,s_ a4]:=by rw [hw];exact .raw n4 h4
 have sw:Sz 2500 w:=iw.sz
 rw [<- hx,<- hy,<- hz,<- hw]
 clear hx hy hz hw
 have cx:aAs [b_ n1,s_ a1]=some (enc (-x)):=I1.at ix kQ
 have cy:aAs [b_ n2,s_ a2]=some (enc (-y)):=I1.at iy kQ
 have cz:aAs [b_ n3,s_ a3]=some (enc (-z)):=I1.at iz kQ
 have cw:aAs [b_ n4,s_ a4]=some (enc (-w)):=I1.at iw kQ
 show ∃ kk,aMu.run _ _ kk _ _=some (enc4 (-x,-y,-z,-w))
 generalize -x=x' at *
 generalize -y=y' at *
 generalize -z=z' at *
 generalize -w=w' at *
 refine ⟨0,?_⟩
 refine gC aAs cx ?_
 refine gC aAs cy ?_
 refine gC aAs cz ?_
 refine gC aAs cw ?_
 exact aAc kK
end Go.Proofs.YtjefbecmeobegaaGreatDoor.Sp
