import Derived.Test.YtjefbecmeobegaaGreatDoorSpA
import Derived.Test.YtjefbecmeobegaaGreatDoorSpC
import Derived.Test.YtjefbecmeobegaaGreatDoorSpPl
import Derived.Test.YtjefbecmeobegaaGreatDoorTr1
namespace Go.Proofs.YtjefbecmeobegaaGreatDoor.Sp
open Go Go.RowKit Sx NatA NatB NatC NatD NatI NatJ IntZ RatZ PtZ PlZ
theorem aEy (k:Bool) (p q:Z4):(Pu.bin .eql 53 k).run Tryz.prog [.agg (enc4 p),.agg (enc4 q)]=some (b_ (decide (p=q))):=by
 rw [<- aT7]
 exact (aIY (P:=Tryz.prog) (t:=53) k (ks:=[.b,.s,.b,.s,.b,.s,.b,.s]) kK kK (xs:=v4 p) (ys:=v4 q) rfl rfl).1
theorem g_greatl:Sx.Good Tryz.prog X.G 101 ⟨[.agg 8],.v1 .one⟩ aBY:=aAe (tb:=[]) trivial (λ _ _=>X.G_below) 400 kK (by kernel_rfl:_=some aGj) λ ds rs h=>by
 unfold aBY at h
 split at h
 ·rename_i a _ b _ c _ d
  obtain rfl:=Option.some.inj h
  refine ⟨0,?_⟩
  refine gP (aAu aBV a) (gP (aA8 _ _ .i64 (a.size:Int) 6) (aAw (b:=decide ((a.size:Int) > 6)) kK (λ h1=>?_) (λ h1=>?_)))
  ·rw [if_neg (λ hh=>aEH (k:=6) h1 hh.1)]
   exact aAc kK
  refine gP (aAu aBV b) (gP (aA8 _ _ .i64 (b.size:Int) 6) (aAw (b:=decide ((b.size:Int) > 6)) kK (λ h2=>?_) (λ h2=>?_)))
  ·rw [if_neg (λ hh=>aEH (k:=6) h2 hh.2.1)]
   exact aAc kK
  refine gP (aAu aBV c) (gP (aA8 _ _ .i64 (c.size:Int) 6) (aAw (b:=decide ((c.size:Int) > 6)) kK (λ h3=>?_) (λ h3=>?_)))
  ·rw [if_neg (λ hh=>aEH (k:=6) h3 hh.2.2.1)]
   exact aAc kK
  refine gP (aAu aBV d) (gP (aA8 _ _ .i64 (d.size:Int) 6) (aAw (b:=decide ((d.size:Int) > 6)) kK (λ h4=>?_) (λ h4=>?_)))
  ·rw [if_neg (λ hh=>aEH (k:=6) h4 hh.2.2.2)]
   exact aAc kK
  ·rw [if_pos ⟨aD6 (k:=6) h1,aD6 (k:=6) h2,aD6 (k:=6) h3,aD6 (k:=6) h4⟩]
   exact aAc kK
 ·cases h
theorem S4.quo {s:Nat} {p:Z4} (h:S4 s p):S4 s (quo p):=⟨aB5 h.1,aB5 h.2.1,aB5 h.2.2.1,aB5 h.2.2.2⟩
theorem aMA {s:Nat} {p q:Z4} (h:S4 s p) (e:plz p=(q,true)):S4 s q:=by
 unfold plz at e
 split at e
 ·cases e
 ·obtain ⟨rfl,-⟩:=Prod.mk.inj e
  exact S4.quo h
theorem S4.hc4 {s:Nat} {v:V4} (h1:Sq s v.1) (h2:Sq s v.2.1) (h3:Sq s v.2.2.1) (h4:Sq s v.2.2.2):S4 (4*s) (hc4 v):=
 ⟨(h1.1.mul ((h2.2.mul h3.2).mul h4.2)).le kJ,(h2.1.mul ((h1.2.mul h3.2).mul h4.2)).le kJ,(h3.1.mul ((h1.2.mul h2.2).mul h4.2)).le kJ,(h4.1.mul ((h1.2.mul h2.2).mul h3.2)).le kJ⟩
theorem S4.neg {s:Nat} {p:Z4} (h:S4 s p):S4 s (aBy p):=⟨h.1.neg,h.2.1.neg,h.2.2.1.neg,h.2.2.2.neg⟩
theorem aMB {s:Nat} {z:Z4} {ds:List D} (h:PI s z ds) (hs:s<=2500):aB8 ds=some (aC0 (plz z)):=Fo.eq (aAv 2500) (h.le hs)
theorem aMC {s:Nat} {z:Z4} {ds:List D} (h:PI s z ds) (hs:s<=2500):aB0 ds=some (enc4 (aBy z)):=Fo.eq (aAv 2500) (h.le hs)
theorem aDr {s t:Nat} {z x:Z4} {a b:List D} (h:PI s z a) (g:PI t x b) (hs:s<=1000) (ht:t<=1000):aAD (a++b)=some [i_ (sgn (sdz z x))]:=Fo.eq (v:=(z,x)) (aIw 1000) (And2.mk' (h.le hs) (g.le ht))
theorem aIg {s t:Nat} {z:Z4} {x:Rat} {a b:List D} (h:PI s z a) (g:RI t x b) (hs:s<=100) (ht:t<=100):aBn (a++b)=some (enc4 (off z x).1):=Fo.eq (v:=(z,x)) (aLr 100) (And2.mk' (h.le hs) (g.le ht))
theorem aRt {s t u:Nat} {x y z:Z4} {a b c:List D} (h1:PI s x a) (h2:PI t y b) (h3:PI u z c) (hs:s<=20) (ht:t<=20) (hu:u<=20) (p1:0 < x.2.2.2) (p2:0 < y.2.2.2) (p3:0 < z.2.2.2):aEY (a++(b++c))=some (aC0 (plv (thr (co x) (co y) (co z)))):=
 Fo.eq (v:=(x,y,z)) (aKr 20) (And2.mk' ⟨h1.le hs,decide_eq_true p1⟩ (And2.mk' ⟨h2.le ht,decide_eq_true p2⟩ ⟨h3.le hu,decide_eq_true p3⟩))
theorem aNK {s:Nat} {z:Z4} {ds:List D} (h:PI s z ds) (hs:s<=2500):aFj ds=some [s_ (aD1 z)]:=Fo.eq (aAv 2500) (h.le hs)
theorem S18 {u:V3} {s:Nat} (h:Sv s u):PI (3*s) (pt u) (aAB u):=PI.can (S4.pt h)
theorem e1':enc 1=[b_ false,s_ (⟨#[1]⟩:ByteArray)]:=aHL (n:=1) kQ (N_V (.inr kQ))
theorem e2':enc 2=[b_ false,s_ (⟨#[2]⟩:ByteArray)]:=aHL (n:=2) kQ (N_V (.inr kQ))
theorem e3':enc 3=[b_ false,s_ (⟨#[3]⟩:ByteArray)]:=aHL (n:=3) kQ (N_V (.inr kQ))
theorem em1:enc (-1)=[b_ true,s_ (⟨#[1]⟩:ByteArray)]:=by
 have h:=e1'
 have h2:s_ (N (1:Int).natAbs)=s_ (⟨#[1]⟩:ByteArray):=(List.cons.inj (List.cons.inj h).2).1
 show [b_ (decide ((-1:Int) < 0)),s_ (N (-1:Int).natAbs)]=_
 rw [show (-1:Int).natAbs=(1:Int).natAbs from rfl,h2]
 rfl
theorem it0:aAT 0=(⟨#[48]⟩:ByteArray):=by
 unfold aAT text
 rw [if_neg kQ,show ((0:Int)).natAbs=0 from rfl,Lib.decDigits_one kQ]
 rfl
theorem it1:aAT 1=(⟨#[49]⟩:ByteArray):=by
 unfold aAT text
 rw [if_neg kQ,show ((1:Int)).natAbs=1 from rfl,Lib.decDigits_one kQ]
 rfl
theorem it2:aAT 2=(⟨#[50]⟩:ByteArray):=by
 unfold aAT text
 rw [if_neg kQ,show ((2:Int)).natAbs=2 from rfl,Lib.decDigits_one kQ]
 rfl
theorem it3:aAT 3=(⟨#[51]⟩:ByteArray):=by
 unfold aAT text
 rw [if_neg kQ,show ((3:Int)).natAbs=3 from rfl,Lib.decDigits_one kQ]
 rfl
theorem itm1:aAT (-1)=(⟨#[45,49]⟩:ByteArray):=by
 unfold aAT text
 rw [if_pos kQ,show ((-1:Int)).natAbs=1 from rfl,Lib.decDigits_one kQ]
 rfl
theorem plt1:aD1 (1,0,0,2)=(⟨#[91,49,32,48,32,48,32,50,93]⟩:ByteArray):=by
 unfold aD1
 dsimp only
 rw [it0,it1,it2]
 rfl
theorem plt2:aD1 (0,0,-1,3)=(⟨#[91,48,32,48,32,45,49,32,51,93]⟩:ByteArray):=by
 unfold aD1
 dsimp only
 rw [it0,itm1,it3]
 rfl
theorem thr1:plv (thr (co (0,0,0,1)) (co (1,0,0,1)) (co (0,1,0,1)))=((0,0,1,0),true):=by
 rw [<- aND kQ kQ kQ]
 kernel_rfl
theorem nrm1:plz (2,0,0,4)=((1,0,0,2),true):=by kernel_rfl
theorem off1:off (0,0,-1,0) (Rat.divInt 3 1)=((0,0,-1,3),true):=by
 have h:plv (rv (0,0,-1,3))=((0,0,-1,3),true):=by rw [aUo];kernel_rfl
 rw [<- h,aGu]
 unfold off aAR
 have ha:axz (0,0,-1,0)=2:=by kernel_rfl
 rw [ha]
 have e:(((0:Int):Rat))+((3:Int):Rat)*(((ix3 (0,0,-1,0) 2).natAbs:Int):Rat)=((3:Int):Rat):=by
  rw [show (((ix3 (0,0,-1,0) 2).natAbs:Int))=1 from rfl]
  rw [<- Rat.intCast_mul,<- Rat.intCast_add]
  rfl
 dsimp only
 rw [e]
theorem sid1:sgn (sdz (0,0,1,0) (0,0,1,1))=1:=by kernel_rfl
def RuS (P:Program):Fct:=runT P [] aDO 1
theorem aQj:Sx.Good Tryz.prog X.G 99 ⟨[.one],.v1 (.agg 2)⟩ (RuS Tryz.prog):=aAX (tb:=[]) trivial (λ _ _=>X.G_below) 400 kK (by kernel_rfl:_=some aDO)
theorem sm0:RuS Tryz.prog [i_ 0]=some [b_ false,s_ (⟨#[]⟩:ByteArray)]:=by kernel_rfl
theorem sm1:RuS Tryz.prog [i_ 1]=some [b_ false,s_ (⟨#[1]⟩:ByteArray)]:=by kernel_rfl
theorem sm2:RuS Tryz.prog [i_ 2]=some [b_ false,s_ (⟨#[2]⟩:ByteArray)]:=by kernel_rfl
theorem sm4:RuS Tryz.prog [i_ 4]=some [b_ false,s_ (⟨#[4]⟩:ByteArray)]:=by kernel_rfl
theorem smm1:RuS Tryz.prog [i_ (-1)]=some [b_ true,s_ (⟨#[1]⟩:ByteArray)]:=by kernel_rfl
def tbLa (P:Program):Tb:=(99,RuS P)::aNM
theorem okLa:TbOk Tryz.prog X.G (tbLa Tryz.prog):=.cons kK aQj aNN
set_option maxHeartbeats 4000000 in
theorem g_alivel:Sx.Good Tryz.prog X.G 37 ⟨[],.v1 .one⟩ aGr:=aAe okLa (λ _ _=>X.G_below) 400 kK (by kernel_rfl:_=some aGk) λ ds rs h=>by
 unfold aGr at h
 split at h
 ·obtain rfl:=Option.some.inj h
  have p0:PI 1 (0,0,0,1) [b_ false,s_ (⟨#[]⟩:ByteArray),b_ false,s_ (⟨#[]⟩:ByteArray),b_ false,s_ (⟨#[]⟩:ByteArray),b_ false,s_ (⟨#[1]⟩:ByteArray)]:=by
   have e:=PI.mk (s:=1) (.raw false (a:=(⟨#[]⟩:ByteArray)) kQ) (.raw false (a:=(⟨#[]⟩:ByteArray)) kQ) (.raw false (a:=(⟨#[]⟩:ByteArray)) kQ) (.raw false (a:=(⟨#[1]⟩:ByteArray)) kQ)
   exact e
  have p1:PI 1 (1,0,0,1) [b_ false,s_ (⟨#[1]⟩:ByteArray),b_ false,s_ (⟨#[]⟩:ByteArray),b_ false,s_ (⟨#[]⟩:ByteArray),b_ false,s_ (⟨#[1]⟩:ByteArray)]:=by
   have e:=PI.mk (s:=1) (.raw false (a:=(⟨#[1]⟩:ByteArray)) kQ) (.raw false (a:=(⟨#[]⟩:ByteArray)) kQ) (.raw false (a:=(⟨#[]⟩:ByteArray)) kQ) (.raw false (a:=(⟨#[1]⟩:ByteArray)) kQ)
   exact e
  have p2:PI 1 (0,1,0,1) [b_ false,s_ (⟨#[]⟩:ByteArray),b_ false,s_ (⟨#[1]⟩:ByteArray),b_ false,s_ (⟨#[]⟩:ByteArray),b_ false,s_ (⟨#[1]⟩:ByteArray)]:=by
   have e:=PI.mk (s:=1) (.raw false (a:=(⟨#[]⟩:ByteArray)) kQ) (.raw false (a:=(⟨#[1]⟩:ByteArray)) kQ) (.raw false (a:=(⟨#[]⟩:ByteArray)) kQ) (.raw false (a:=(⟨#[1]⟩:ByteArray)) kQ)
   exact e
  have p3:PI 1 (2,0,0,4) [b_ false,s_ (⟨#[2]⟩:ByteArray),b_ false,s_ (⟨#[]⟩:ByteArray),b_ false,s_ (⟨#[]⟩:ByteArray),b_ false,s_ (⟨#[4]⟩:ByteArray)]:=by
   have e:=PI.mk (s:=1) (.raw false (a:=(⟨#[2]⟩:ByteArray)) kQ) (.raw false (a:=(⟨#[]⟩:ByteArray)) kQ) (.raw false (a:=(⟨#[]⟩:ByteArray)) kQ) (.raw false (a:=(⟨#[4]⟩:ByteArray)) kQ)
   exact e
  have p4:PI 1 (0,0,-1,0) [b_ false,s_ (⟨#[]⟩:ByteArray),b_ false,s_ (⟨#[]⟩:ByteArray),b_ true,s_ (⟨#[1]⟩:ByteArray),b_ false,s_ (⟨#[]⟩:ByteArray)]:=by
   have e:=PI.mk (s:=1) (.raw false (a:=(⟨#[]⟩:ByteArray)) kQ) (.raw false (a:=(⟨#[]⟩:ByteArray)) kQ) (.raw true (a:=(⟨#[1]⟩:ByteArray)) kQ) (.raw false (a:=(⟨#[]⟩:ByteArray)) kQ)
   exact e
  have p5:PI 1 (0,0,1,1) [b_ false,s_ (⟨#[]⟩:ByteArray),b_ false,s_ (⟨#[]⟩:ByteArray),b_ false,s_ (⟨#[1]⟩:ByteArray),b_ false,s_ (⟨#[1]⟩:ByteArray)]:=by
   have e:=PI.mk (s:=1) (.raw false (a:=(⟨#[]⟩:ByteArray)) kQ) (.raw false (a:=(⟨#[]⟩:ByteArray)) kQ) (.raw false (a:=(⟨#[1]⟩:ByteArray)) kQ) (.raw false (a:=(⟨#[1]⟩:ByteArray)) kQ)
   exact e
  have p6:PI 1 (0,0,1,0) [b_ false,s_ (⟨#[]⟩:ByteArray),b_ false,s_ (⟨#[]⟩:ByteArray),b_ false,s_ (⟨#[1]⟩:ByteArray),b_ false,s_ (⟨#[]⟩:ByteArray)]:=by
   have e:=PI.mk (s:=1) (.raw false (a:=(⟨#[]⟩:ByteArray)) kQ) (.raw false (a:=(⟨#[]⟩:ByteArray)) kQ) (.raw false (a:=(⟨#[1]⟩:ByteArray)) kQ) (.raw false (a:=(⟨#[]⟩:ByteArray)) kQ)
   exact e
  have p7:PI 1 (1,0,0,2) [b_ false,s_ (⟨#[1]⟩:ByteArray),b_ false,s_ (⟨#[]⟩:ByteArray),b_ false,s_ (⟨#[]⟩:ByteArray),b_ false,s_ (⟨#[2]⟩:ByteArray)]:=by
   have e:=PI.mk (s:=1) (.raw false (a:=(⟨#[1]⟩:ByteArray)) kQ) (.raw false (a:=(⟨#[]⟩:ByteArray)) kQ) (.raw false (a:=(⟨#[]⟩:ByteArray)) kQ) (.raw false (a:=(⟨#[2]⟩:ByteArray)) kQ)
   exact e
  have p8:PI 1 (0,0,-1,3) [b_ false,s_ (⟨#[]⟩:ByteArray),b_ false,s_ (⟨#[]⟩:ByteArray),b_ true,s_ (⟨#[1]⟩:ByteArray),b_ false,s_ (⟨#[3]⟩:ByteArray)]:=by
   have e:=PI.mk (s:=1) (.raw false (a:=(⟨#[]⟩:ByteArray)) kQ) (.raw false (a:=(⟨#[]⟩:ByteArray)) kQ) (.raw true (a:=(⟨#[1]⟩:ByteArray)) kQ) (.raw false (a:=(⟨#[3]⟩:ByteArray)) kQ)
   exact e
  have k1:aEY ([b_ false,s_ (⟨#[]⟩:ByteArray),b_ false,s_ (⟨#[]⟩:ByteArray),b_ false,s_ (⟨#[]⟩:ByteArray),b_ false,s_ (⟨#[1]⟩:ByteArray)]++([b_ false,s_ (⟨#[1]⟩:ByteArray),b_ false,s_ (⟨#[]⟩:ByteArray),b_ false,s_ (⟨#[]⟩:ByteArray),b_ false,s_ (⟨#[1]⟩:ByteArray)]++[b_ false,s_ (⟨#[]⟩:ByteArray),b_ false,s_ (⟨#[1]⟩:ByteArray),b_ false,s_ (⟨#[]⟩:ByteArray),b_ false,s_ (⟨#[1]⟩:ByteArray)]))=some (aC0 ((0,0,1,0),true)):=by rw [<- thr1];exact aRt p0 p1 p2 kQ kQ kQ kQ kQ kQ
  have c1:enc4 (0,0,1,0)=[b_ false,s_ (⟨#[]⟩:ByteArray),b_ false,s_ (⟨#[]⟩:ByteArray),b_ false,s_ (⟨#[1]⟩:ByteArray),b_ false,s_ (⟨#[]⟩:ByteArray)]:=by
   show enc 0++(enc 0++(enc 1++enc 0))=_
   rw [aGs,e1']
   rfl
  have k1:aEY ([b_ false,s_ (⟨#[]⟩:ByteArray),b_ false,s_ (⟨#[]⟩:ByteArray),b_ false,s_ (⟨#[]⟩:ByteArray),b_ false,s_ (⟨#[1]⟩:ByteArray)]++([b_ false,s_ (⟨#[1]⟩:ByteArray),b_ false,s_ (⟨#[]⟩:ByteArray),b_ false,s_ (⟨#[]⟩:ByteArray),b_ false,s_ (⟨#[1]⟩:ByteArray)]++[b_ false,s_ (⟨#[]⟩:ByteArray),b_ false,s_ (⟨#[1]⟩:ByteArray),b_ false,s_ (⟨#[]⟩:ByteArray),b_ false,s_ (⟨#[1]⟩:ByteArray)]))=some ([b_ false,s_ (⟨#[]⟩:ByteArray),b_ false,s_ (⟨#[]⟩:ByteArray),b_ false,s_ (⟨#[1]⟩:ByteArray),b_ false,s_ (⟨#[]⟩:ByteArray)]++[b_ true]):=by rw [k1];unfold aC0;dsimp only;rw [c1]
  have k2:aB8 [b_ false,s_ (⟨#[2]⟩:ByteArray),b_ false,s_ (⟨#[]⟩:ByteArray),b_ false,s_ (⟨#[]⟩:ByteArray),b_ false,s_ (⟨#[4]⟩:ByteArray)]=some (aC0 ((1,0,0,2),true)):=by rw [<- nrm1];exact aMB p3 kQ
  have c2:enc4 (1,0,0,2)=[b_ false,s_ (⟨#[1]⟩:ByteArray),b_ false,s_ (⟨#[]⟩:ByteArray),b_ false,s_ (⟨#[]⟩:ByteArray),b_ false,s_ (⟨#[2]⟩:ByteArray)]:=by
   show enc 1++(enc 0++(enc 0++enc 2))=_
   rw [e1',aGs,e2']
   rfl
  have k2:aB8 [b_ false,s_ (⟨#[2]⟩:ByteArray),b_ false,s_ (⟨#[]⟩:ByteArray),b_ false,s_ (⟨#[]⟩:ByteArray),b_ false,s_ (⟨#[4]⟩:ByteArray)]=some ([b_ false,s_ (⟨#[1]⟩:ByteArray),b_ false,s_ (⟨#[]⟩:ByteArray),b_ false,s_ (⟨#[]⟩:ByteArray),b_ false,s_ (⟨#[2]⟩:ByteArray)]++[b_ true]):=by rw [k2];unfold aC0;dsimp only;rw [c2]
  have k3:=aEy false (0,0,1,0) (0,0,1,0)
  rw [decide_eq_true rfl,c1] at k3
  have k4:aFj [b_ false,s_ (⟨#[1]⟩:ByteArray),b_ false,s_ (⟨#[]⟩:ByteArray),b_ false,s_ (⟨#[]⟩:ByteArray),b_ false,s_ (⟨#[2]⟩:ByteArray)]=some [s_ (aD1 (1,0,0,2))]:=aNK p7 kQ
  rw [plt1] at k4
  have r3:RI 1 (Rat.divInt 3 1) [b_ false,s_ (⟨#[3]⟩:ByteArray),s_ (⟨#[]⟩:ByteArray)]:=aU0 (x:=3) kQ kQ
  have k5:aBn ([b_ false,s_ (⟨#[]⟩:ByteArray),b_ false,s_ (⟨#[]⟩:ByteArray),b_ true,s_ (⟨#[1]⟩:ByteArray),b_ false,s_ (⟨#[]⟩:ByteArray)]++[b_ false,s_ (⟨#[3]⟩:ByteArray),s_ (⟨#[]⟩:ByteArray)])=some (enc4 (off (0,0,-1,0) (Rat.divInt 3 1)).1):=aIg p4 r3 kQ kQ
  have c3:enc4 (0,0,-1,3)=[b_ false,s_ (⟨#[]⟩:ByteArray),b_ false,s_ (⟨#[]⟩:ByteArray),b_ true,s_ (⟨#[1]⟩:ByteArray),b_ false,s_ (⟨#[3]⟩:ByteArray)]:=by
   show enc 0++(enc 0++(enc (-1)++enc 3))=_
   rw [aGs,em1,e3']
   rfl
  rw [off1] at k5
  have k5:aBn ([b_ false,s_ (⟨#[]⟩:ByteArray),b_ false,s_ (⟨#[]⟩:ByteArray),b_ true,s_ (⟨#[1]⟩:ByteArray),b_ false,s_ (⟨#[]⟩:ByteArray)]++[b_ false,s_ (⟨#[3]⟩:ByteArray),s_ (⟨#[]⟩:ByteArray)])=some [b_ false,s_ (⟨#[]⟩:ByteArray),b_ false,s_ (⟨#[]⟩:ByteArray),b_ true,s_ (⟨#[1]⟩:ByteArray),b_ false,s_ (⟨#[3]⟩:ByteArray)]:=by rw [k5,c3]
  have k6:aFj [b_ false,s_ (⟨#[]⟩:ByteArray),b_ false,s_ (⟨#[]⟩:ByteArray),b_ true,s_ (⟨#[1]⟩:ByteArray),b_ false,s_ (⟨#[3]⟩:ByteArray)]=some [s_ (aD1 (0,0,-1,3))]:=aNK p8 kQ
  rw [plt2] at k6
  have k7:aAD ([b_ false,s_ (⟨#[]⟩:ByteArray),b_ false,s_ (⟨#[]⟩:ByteArray),b_ false,s_ (⟨#[1]⟩:ByteArray),b_ false,s_ (⟨#[]⟩:ByteArray)]++[b_ false,s_ (⟨#[]⟩:ByteArray),b_ false,s_ (⟨#[]⟩:ByteArray),b_ false,s_ (⟨#[1]⟩:ByteArray),b_ false,s_ (⟨#[1]⟩:ByteArray)])=some [i_ (sgn (sdz (0,0,1,0) (0,0,1,1)))]:=aDr p6 p5 kQ kQ
  rw [sid1] at k7
  have t1:(Pu.bin .eql 9 true).run Tryz.prog [.one (s_ (⟨#[91,49,32,48,32,48,32,50,93]⟩:ByteArray)),.one (s_ (⟨#[91,49,32,48,32,48,32,50,93]⟩:ByteArray))]=some (b_ true):=by rw [aC3,decide_eq_true rfl]
  have t2:(Pu.bin .eql 9 true).run Tryz.prog [.one (s_ (⟨#[91,48,32,48,32,45,49,32,51,93]⟩:ByteArray)),.one (s_ (⟨#[91,48,32,48,32,45,49,32,51,93]⟩:ByteArray))]=some (b_ true):=by rw [aC3,decide_eq_true rfl]
  clear c1 c2 c3 r3 p0 p1 p2 p3 p4 p5 p6 p7 p8
  refine ⟨0,?_⟩
  refine gC (RuS Tryz.prog) sm0 ?_
  refine gC (RuS Tryz.prog) sm0 ?_
  refine gC (RuS Tryz.prog) sm0 ?_
  refine gC (RuS Tryz.prog) sm1 ?_
  refine gC (RuS Tryz.prog) sm1 ?_
  refine gC (RuS Tryz.prog) sm0 ?_
  refine gC (RuS Tryz.prog) sm0 ?_
  refine gC (RuS Tryz.prog) sm1 ?_
  refine gC (RuS Tryz.prog) sm0 ?_
  refine gC (RuS Tryz.prog) sm1 ?_
  refine gC (RuS Tryz.prog) sm0 ?_
  refine gC (RuS Tryz.prog) sm1 ?_
  refine gC aEY k1 ?_
  refine gC (RuS Tryz.prog) sm2 ?_
  refine gC (RuS Tryz.prog) sm4 ?_
  refine gC aB8 k2 ?_
  refine gC (RuS Tryz.prog) smm1 ?_
  refine aAZ kK ?_
  refine gC (RuS Tryz.prog) sm1 ?_
  refine aAf kK k3 (aAZ kK (aAZ kK ?_))
  refine gC aFj k4 (aAf kK t1 (aAZ kK ?_))
  refine gC aBn k5 (gC aFj k6 (aAf kK t2 (aAZ kK ?_)))
  refine gC (RuS Tryz.prog) sm0 ?_
  refine gC (RuS Tryz.prog) sm0 ?_
  refine gC (RuS Tryz.prog) sm1 ?_
  refine gC (RuS Tryz.prog) sm1 ?_
  exact gC aAD k7 (gP (aAz _ _ .i64 1 1) (aAc kK))
 ·cases h
def tbLb:Tb:=[(37,aGr),(69,aBY),(101,aBY)]++aNM
theorem okLb:TbOk Tryz.prog X.G tbLb:=.cons kK g_alivel (.cons kK g_great (.cons kK g_greatl aNN))
end Go.Proofs.YtjefbecmeobegaaGreatDoor.Sp
