import Derived.Test.YtjefbecmeobegaaGreatDoorSpA
import Derived.Test.YtjefbecmeobegaaGreatDoorSpC
import Derived.Test.YtjefbecmeobegaaGreatDoorSpPl
import Derived.Test.YtjefbecmeobegaaGreatDoorTr1
namespace Go.Proofs.YtjefbecmeobegaaGreatDoor.Sp
open Go Go.RowKit Sx NatA NatB NatC NatD NatI NatJ IntZ RatZ PtZ PlZ
theorem aEA (k:Bool) (p q:Z4):(Pu.bin .eql 53 k).run Tryz.prog [.agg (enc4 p),.agg (enc4 q)]=some (b_ (decide (p=q))):=by
 rw [← aSF]
 exact (aN8 (P:=Tryz.prog) (t:=53) k (ks:=[.b,.s,.b,.s,.b,.s,.b,.s]) (by kernel_rfl) (by kernel_rfl) (xs:=v4 p) (ys:=v4 q) rfl rfl).1
theorem g_greatl:Sx.Good Tryz.prog X.G 101 ⟨[.agg 8],.v1 .one⟩ aBg:=aAf (tb:=[]) trivial (fun _ _=>X.G_below) 400 (by kernel_rfl) (by kernel_rfl:_=some aFX) fun ds rs h=>by
 unfold aBg at h
 split at h
 ·rename_i a _ b _ c _ d
  obtain rfl:=Option.some.inj h
  refine ⟨0,?_⟩
  refine gP (aAs aCy a) (gP (aAA _ _ .i64 (a.size:Int) 6) (aAr (b:=decide ((a.size:Int) > 6)) (by kernel_rfl) (fun h1=>?_) (fun h1=>?_)))
  ·rw [if_neg (fun hh=>aE2 (k:=6) h1 hh.1)]
   exact aAb (by kernel_rfl)
  refine gP (aAs aCy b) (gP (aAA _ _ .i64 (b.size:Int) 6) (aAr (b:=decide ((b.size:Int) > 6)) (by kernel_rfl) (fun h2=>?_) (fun h2=>?_)))
  ·rw [if_neg (fun hh=>aE2 (k:=6) h2 hh.2.1)]
   exact aAb (by kernel_rfl)
  refine gP (aAs aCy c) (gP (aAA _ _ .i64 (c.size:Int) 6) (aAr (b:=decide ((c.size:Int) > 6)) (by kernel_rfl) (fun h3=>?_) (fun h3=>?_)))
  ·rw [if_neg (fun hh=>aE2 (k:=6) h3 hh.2.2.1)]
   exact aAb (by kernel_rfl)
  refine gP (aAs aCy d) (gP (aAA _ _ .i64 (d.size:Int) 6) (aAr (b:=decide ((d.size:Int) > 6)) (by kernel_rfl) (fun h4=>?_) (fun h4=>?_)))
  ·rw [if_neg (fun hh=>aE2 (k:=6) h4 hh.2.2.2)]
   exact aAb (by kernel_rfl)
  ·rw [if_pos ⟨aE1 (k:=6) h1,aE1 (k:=6) h2,aE1 (k:=6) h3,aE1 (k:=6) h4⟩]
   exact aAb (by kernel_rfl)
 ·cases h
theorem aOm:aBg [b_ false,s_ (⟨#[]⟩:ByteArray),b_ false,s_ (⟨#[]⟩:ByteArray),b_ false,s_ (⟨#[]⟩:ByteArray),b_ false,s_ (⟨#[]⟩:ByteArray)]=some [i_ 0]:=by kernel_rfl
theorem S4.quo {s:Nat} {p:Z4} (h:S4 s p):S4 s (quo p):=⟨aBu h.1,aBu h.2.1,aBu h.2.2.1,aBu h.2.2.2⟩
theorem aGC {s:Nat} {p q:Z4} (h:S4 s p) (e:plz p=(q,true)):S4 s q:=by
 unfold plz at e
 split at e
 ·cases e
 ·obtain ⟨rfl,-⟩:=Prod.mk.inj e
  exact S4.quo h
theorem S4.hc4 {s:Nat} {v:V4} (h1:Sq s v.1) (h2:Sq s v.2.1) (h3:Sq s v.2.2.1) (h4:Sq s v.2.2.2):S4 (4*s) (hc4 v):=
 ⟨(h1.1.mul ((h2.2.mul h3.2).mul h4.2)).le (by omega),(h2.1.mul ((h1.2.mul h3.2).mul h4.2)).le (by omega),(h3.1.mul ((h1.2.mul h2.2).mul h4.2)).le (by omega),(h4.1.mul ((h1.2.mul h2.2).mul h3.2)).le (by omega)⟩
theorem S4.neg {s:Nat} {p:Z4} (h:S4 s p):S4 s (aC6 p):=⟨h.1.neg,h.2.1.neg,h.2.2.1.neg,h.2.2.2.neg⟩
theorem aEj {s:Nat} {z:Z4} {ds:List D} (h:PI s z ds) (hs:s≤2500):aAv ds=some (aBG (plz z)):=Fo.eq (aA8 2500) (h.le hs)
theorem aQF {s:Nat} {z:Z4} {ds:List D} (h:PI s z ds) (hs:s≤2500):aFF ds=some (enc4 (aC6 z)):=Fo.eq (aA8 2500) (h.le hs)
theorem aQG {s t:Nat} {z x:Z4} {a b:List D} (h:PI s z a) (g:PI t x b) (hs:s≤1000) (ht:t≤1000):aFG (a++b)=some [i_ (sgn (sdz z x))]:=Fo.eq (v:=(z,x)) (aDP 1000) (And2.mk' (h.le hs) (g.le ht))
theorem aDj {s t:Nat} {z x:Z4} {a b:List D} (h:PI s z a) (g:PI t x b) (hs:s≤2000) (ht:t≤2000):aAt (a++b)=some [i_ (aAV z x)]:=Fo.eq (v:=(z,x)) (aDP 2000) (And2.mk' (h.le hs) (g.le ht))
theorem aSE {s t:Nat} {z:Z4} {x:Rat} {a b:List D} (h:PI s z a) (g:RI t x b) (hs:s≤100) (ht:t≤100):aFH (a++b)=some (enc4 (off z x).1):=Fo.eq (v:=(z,x)) (aKM 100) (And2.mk' (h.le hs) (g.le ht))
theorem aQH {s t u:Nat} {x y z:Z4} {a b c:List D} (h1:PI s x a) (h2:PI t y b) (h3:PI u z c) (hs:s≤20) (ht:t≤20) (hu:u≤20) (p1:0 < x.2.2.2) (p2:0 < y.2.2.2) (p3:0 < z.2.2.2):aEL (a++(b++c))=some (aBG (plv (thr (co x) (co y) (co z)))):=
 Fo.eq (v:=(x,y,z)) (aJK 20) (And2.mk' ⟨h1.le hs,decide_eq_true p1⟩ (And2.mk' ⟨h2.le ht,decide_eq_true p2⟩ ⟨h3.le hu,decide_eq_true p3⟩))
theorem aNl {s:Nat} {z:Z4} {ds:List D} (h:PI s z ds) (hs:s≤2500):aEX ds=some [s_ (aDn z)]:=Fo.eq (aA8 2500) (h.le hs)
theorem e1':enc 1=[b_ false,s_ (⟨#[1]⟩:ByteArray)]:=aHz (n:=1) (by decide) (N_V (.inr (by decide)))
theorem e2':enc 2=[b_ false,s_ (⟨#[2]⟩:ByteArray)]:=aHz (n:=2) (by decide) (N_V (.inr (by decide)))
theorem e3':enc 3=[b_ false,s_ (⟨#[3]⟩:ByteArray)]:=aHz (n:=3) (by decide) (N_V (.inr (by decide)))
theorem em1:enc (-1)=[b_ true,s_ (⟨#[1]⟩:ByteArray)]:=by
 have h:=e1'
 have h2:s_ (N (1:Int).natAbs)=s_ (⟨#[1]⟩:ByteArray):=(List.cons.inj (List.cons.inj h).2).1
 show [b_ (decide ((-1:Int) < 0)),s_ (N (-1:Int).natAbs)]=_
 rw [show (-1:Int).natAbs=(1:Int).natAbs from rfl,h2]
 rfl
theorem it0:aAR 0=(⟨#[48]⟩:ByteArray):=by
 unfold aAR text
 rw [if_neg (by decide),show ((0:Int)).natAbs=0 from rfl,Lib.decDigits_one (by decide)]
 rfl
theorem it1:aAR 1=(⟨#[49]⟩:ByteArray):=by
 unfold aAR text
 rw [if_neg (by decide),show ((1:Int)).natAbs=1 from rfl,Lib.decDigits_one (by decide)]
 rfl
theorem it2:aAR 2=(⟨#[50]⟩:ByteArray):=by
 unfold aAR text
 rw [if_neg (by decide),show ((2:Int)).natAbs=2 from rfl,Lib.decDigits_one (by decide)]
 rfl
theorem it3:aAR 3=(⟨#[51]⟩:ByteArray):=by
 unfold aAR text
 rw [if_neg (by decide),show ((3:Int)).natAbs=3 from rfl,Lib.decDigits_one (by decide)]
 rfl
theorem itm1:aAR (-1)=(⟨#[45,49]⟩:ByteArray):=by
 unfold aAR text
 rw [if_pos (by decide),show ((-1:Int)).natAbs=1 from rfl,Lib.decDigits_one (by decide)]
 rfl
theorem plt1:aDn (1,0,0,2)=(⟨#[91,49,32,48,32,48,32,50,93]⟩:ByteArray):=by
 unfold aDn
 dsimp only
 rw [it0,it1,it2]
 rfl
theorem plt2:aDn (0,0,-1,3)=(⟨#[91,48,32,48,32,45,49,32,51,93]⟩:ByteArray):=by
 unfold aDn
 dsimp only
 rw [it0,itm1,it3]
 rfl
theorem thr1:plv (thr (co (0,0,0,1)) (co (1,0,0,1)) (co (0,1,0,1)))=((0,0,1,0),true):=by
 rw [← aNg (by decide) (by decide) (by decide)]
 kernel_rfl
theorem nrm1:plz (2,0,0,4)=((1,0,0,2),true):=by kernel_rfl
theorem off1:off (0,0,-1,0) (Rat.divInt 3 1)=((0,0,-1,3),true):=by
 have h:plv (rv (0,0,-1,3))=((0,0,-1,3),true):=by rw [aTz];kernel_rfl
 rw [← h,aGh]
 unfold off aHx
 have ha:axz (0,0,-1,0)=2:=by kernel_rfl
 rw [ha]
 have e:(((0:Int):Rat))+((3:Int):Rat)*(((ix3 (0,0,-1,0) 2).natAbs:Int):Rat)=((3:Int):Rat):=by
  rw [show (((ix3 (0,0,-1,0) 2).natAbs:Int))=1 from rfl]
  rw [← Rat.intCast_mul,← Rat.intCast_add]
  rfl
 dsimp only
 rw [e]
theorem sid1:sgn (sdz (0,0,1,0) (0,0,1,1))=1:=by kernel_rfl
def RuS (P:Program):Fct:=runT P [] aD7 1
theorem aPD:Sx.Good Tryz.prog X.G 99 ⟨[.one],.v1 (.agg 2)⟩ (RuS Tryz.prog):=aAU (tb:=[]) trivial (fun _ _=>X.G_below) 400 (by kernel_rfl) (by kernel_rfl:_=some aD7)
theorem sm0:RuS Tryz.prog [i_ 0]=some [b_ false,s_ (⟨#[]⟩:ByteArray)]:=by kernel_rfl
theorem sm1:RuS Tryz.prog [i_ 1]=some [b_ false,s_ (⟨#[1]⟩:ByteArray)]:=by kernel_rfl
theorem sm2:RuS Tryz.prog [i_ 2]=some [b_ false,s_ (⟨#[2]⟩:ByteArray)]:=by kernel_rfl
theorem sm4:RuS Tryz.prog [i_ 4]=some [b_ false,s_ (⟨#[4]⟩:ByteArray)]:=by kernel_rfl
theorem smm1:RuS Tryz.prog [i_ (-1)]=some [b_ true,s_ (⟨#[1]⟩:ByteArray)]:=by kernel_rfl
def tbLa (P:Program):Tb:=(99,RuS P)::aNq
theorem okLa:TbOk Tryz.prog X.G (tbLa Tryz.prog):=.cons (by kernel_rfl) aPD aRj
set_option maxHeartbeats 4000000 in
theorem g_alivel:Sx.Good Tryz.prog X.G 37 ⟨[],.v1 .one⟩ aEW:=aAf okLa (fun _ _=>X.G_below) 400 (by kernel_rfl) (by kernel_rfl:_=some aFY) fun ds rs h=>by
 unfold aEW at h
 split at h
 ·obtain rfl:=Option.some.inj h
  have p0:PI 1 (0,0,0,1) [b_ false,s_ (⟨#[]⟩:ByteArray),b_ false,s_ (⟨#[]⟩:ByteArray),b_ false,s_ (⟨#[]⟩:ByteArray),b_ false,s_ (⟨#[1]⟩:ByteArray)]:=by
   have e:=PI.mk (s:=1) (.raw false (a:=(⟨#[]⟩:ByteArray)) (by decide)) (.raw false (a:=(⟨#[]⟩:ByteArray)) (by decide)) (.raw false (a:=(⟨#[]⟩:ByteArray)) (by decide)) (.raw false (a:=(⟨#[1]⟩:ByteArray)) (by decide))
   exact e
  have p1:PI 1 (1,0,0,1) [b_ false,s_ (⟨#[1]⟩:ByteArray),b_ false,s_ (⟨#[]⟩:ByteArray),b_ false,s_ (⟨#[]⟩:ByteArray),b_ false,s_ (⟨#[1]⟩:ByteArray)]:=by
   have e:=PI.mk (s:=1) (.raw false (a:=(⟨#[1]⟩:ByteArray)) (by decide)) (.raw false (a:=(⟨#[]⟩:ByteArray)) (by decide)) (.raw false (a:=(⟨#[]⟩:ByteArray)) (by decide)) (.raw false (a:=(⟨#[1]⟩:ByteArray)) (by decide))
   exact e
  have p2:PI 1 (0,1,0,1) [b_ false,s_ (⟨#[]⟩:ByteArray),b_ false,s_ (⟨#[1]⟩:ByteArray),b_ false,s_ (⟨#[]⟩:ByteArray),b_ false,s_ (⟨#[1]⟩:ByteArray)]:=by
   have e:=PI.mk (s:=1) (.raw false (a:=(⟨#[]⟩:ByteArray)) (by decide)) (.raw false (a:=(⟨#[1]⟩:ByteArray)) (by decide)) (.raw false (a:=(⟨#[]⟩:ByteArray)) (by decide)) (.raw false (a:=(⟨#[1]⟩:ByteArray)) (by decide))
   exact e
  have p3:PI 1 (2,0,0,4) [b_ false,s_ (⟨#[2]⟩:ByteArray),b_ false,s_ (⟨#[]⟩:ByteArray),b_ false,s_ (⟨#[]⟩:ByteArray),b_ false,s_ (⟨#[4]⟩:ByteArray)]:=by
   have e:=PI.mk (s:=1) (.raw false (a:=(⟨#[2]⟩:ByteArray)) (by decide)) (.raw false (a:=(⟨#[]⟩:ByteArray)) (by decide)) (.raw false (a:=(⟨#[]⟩:ByteArray)) (by decide)) (.raw false (a:=(⟨#[4]⟩:ByteArray)) (by decide))
   exact e
  have p4:PI 1 (0,0,-1,0) [b_ false,s_ (⟨#[]⟩:ByteArray),b_ false,s_ (⟨#[]⟩:ByteArray),b_ true,s_ (⟨#[1]⟩:ByteArray),b_ false,s_ (⟨#[]⟩:ByteArray)]:=by
   have e:=PI.mk (s:=1) (.raw false (a:=(⟨#[]⟩:ByteArray)) (by decide)) (.raw false (a:=(⟨#[]⟩:ByteArray)) (by decide)) (.raw true (a:=(⟨#[1]⟩:ByteArray)) (by decide)) (.raw false (a:=(⟨#[]⟩:ByteArray)) (by decide))
   exact e
  have p5:PI 1 (0,0,1,1) [b_ false,s_ (⟨#[]⟩:ByteArray),b_ false,s_ (⟨#[]⟩:ByteArray),b_ false,s_ (⟨#[1]⟩:ByteArray),b_ false,s_ (⟨#[1]⟩:ByteArray)]:=by
   have e:=PI.mk (s:=1) (.raw false (a:=(⟨#[]⟩:ByteArray)) (by decide)) (.raw false (a:=(⟨#[]⟩:ByteArray)) (by decide)) (.raw false (a:=(⟨#[1]⟩:ByteArray)) (by decide)) (.raw false (a:=(⟨#[1]⟩:ByteArray)) (by decide))
   exact e
  have p6:PI 1 (0,0,1,0) [b_ false,s_ (⟨#[]⟩:ByteArray),b_ false,s_ (⟨#[]⟩:ByteArray),b_ false,s_ (⟨#[1]⟩:ByteArray),b_ false,s_ (⟨#[]⟩:ByteArray)]:=by
   have e:=PI.mk (s:=1) (.raw false (a:=(⟨#[]⟩:ByteArray)) (by decide)) (.raw false (a:=(⟨#[]⟩:ByteArray)) (by decide)) (.raw false (a:=(⟨#[1]⟩:ByteArray)) (by decide)) (.raw false (a:=(⟨#[]⟩:ByteArray)) (by decide))
   exact e
  have p7:PI 1 (1,0,0,2) [b_ false,s_ (⟨#[1]⟩:ByteArray),b_ false,s_ (⟨#[]⟩:ByteArray),b_ false,s_ (⟨#[]⟩:ByteArray),b_ false,s_ (⟨#[2]⟩:ByteArray)]:=by
   have e:=PI.mk (s:=1) (.raw false (a:=(⟨#[1]⟩:ByteArray)) (by decide)) (.raw false (a:=(⟨#[]⟩:ByteArray)) (by decide)) (.raw false (a:=(⟨#[]⟩:ByteArray)) (by decide)) (.raw false (a:=(⟨#[2]⟩:ByteArray)) (by decide))
   exact e
  have p8:PI 1 (0,0,-1,3) [b_ false,s_ (⟨#[]⟩:ByteArray),b_ false,s_ (⟨#[]⟩:ByteArray),b_ true,s_ (⟨#[1]⟩:ByteArray),b_ false,s_ (⟨#[3]⟩:ByteArray)]:=by
   have e:=PI.mk (s:=1) (.raw false (a:=(⟨#[]⟩:ByteArray)) (by decide)) (.raw false (a:=(⟨#[]⟩:ByteArray)) (by decide)) (.raw true (a:=(⟨#[1]⟩:ByteArray)) (by decide)) (.raw false (a:=(⟨#[3]⟩:ByteArray)) (by decide))
   exact e
  have k1:aEL ([b_ false,s_ (⟨#[]⟩:ByteArray),b_ false,s_ (⟨#[]⟩:ByteArray),b_ false,s_ (⟨#[]⟩:ByteArray),b_ false,s_ (⟨#[1]⟩:ByteArray)]++([b_ false,s_ (⟨#[1]⟩:ByteArray),b_ false,s_ (⟨#[]⟩:ByteArray),b_ false,s_ (⟨#[]⟩:ByteArray),b_ false,s_ (⟨#[1]⟩:ByteArray)]++[b_ false,s_ (⟨#[]⟩:ByteArray),b_ false,s_ (⟨#[1]⟩:ByteArray),b_ false,s_ (⟨#[]⟩:ByteArray),b_ false,s_ (⟨#[1]⟩:ByteArray)]))=some (aBG ((0,0,1,0),true)):=by rw [← thr1];exact aQH p0 p1 p2 (by decide) (by decide) (by decide) (by decide) (by decide) (by decide)
  have c1:enc4 (0,0,1,0)=[b_ false,s_ (⟨#[]⟩:ByteArray),b_ false,s_ (⟨#[]⟩:ByteArray),b_ false,s_ (⟨#[1]⟩:ByteArray),b_ false,s_ (⟨#[]⟩:ByteArray)]:=by
   show enc 0++(enc 0++(enc 1++enc 0))=_
   rw [aGf,e1']
   rfl
  have k1:aEL ([b_ false,s_ (⟨#[]⟩:ByteArray),b_ false,s_ (⟨#[]⟩:ByteArray),b_ false,s_ (⟨#[]⟩:ByteArray),b_ false,s_ (⟨#[1]⟩:ByteArray)]++([b_ false,s_ (⟨#[1]⟩:ByteArray),b_ false,s_ (⟨#[]⟩:ByteArray),b_ false,s_ (⟨#[]⟩:ByteArray),b_ false,s_ (⟨#[1]⟩:ByteArray)]++[b_ false,s_ (⟨#[]⟩:ByteArray),b_ false,s_ (⟨#[1]⟩:ByteArray),b_ false,s_ (⟨#[]⟩:ByteArray),b_ false,s_ (⟨#[1]⟩:ByteArray)]))=some ([b_ false,s_ (⟨#[]⟩:ByteArray),b_ false,s_ (⟨#[]⟩:ByteArray),b_ false,s_ (⟨#[1]⟩:ByteArray),b_ false,s_ (⟨#[]⟩:ByteArray)]++[b_ true]):=by rw [k1];unfold aBG;dsimp only;rw [c1]
  have k2:aAv [b_ false,s_ (⟨#[2]⟩:ByteArray),b_ false,s_ (⟨#[]⟩:ByteArray),b_ false,s_ (⟨#[]⟩:ByteArray),b_ false,s_ (⟨#[4]⟩:ByteArray)]=some (aBG ((1,0,0,2),true)):=by rw [← nrm1];exact aEj p3 (by decide)
  have c2:enc4 (1,0,0,2)=[b_ false,s_ (⟨#[1]⟩:ByteArray),b_ false,s_ (⟨#[]⟩:ByteArray),b_ false,s_ (⟨#[]⟩:ByteArray),b_ false,s_ (⟨#[2]⟩:ByteArray)]:=by
   show enc 1++(enc 0++(enc 0++enc 2))=_
   rw [e1',aGf,e2']
   rfl
  have k2:aAv [b_ false,s_ (⟨#[2]⟩:ByteArray),b_ false,s_ (⟨#[]⟩:ByteArray),b_ false,s_ (⟨#[]⟩:ByteArray),b_ false,s_ (⟨#[4]⟩:ByteArray)]=some ([b_ false,s_ (⟨#[1]⟩:ByteArray),b_ false,s_ (⟨#[]⟩:ByteArray),b_ false,s_ (⟨#[]⟩:ByteArray),b_ false,s_ (⟨#[2]⟩:ByteArray)]++[b_ true]):=by rw [k2];unfold aBG;dsimp only;rw [c2]
  have k3:=aEA false (0,0,1,0) (0,0,1,0)
  rw [decide_eq_true rfl,c1] at k3
  have k4:aEX [b_ false,s_ (⟨#[1]⟩:ByteArray),b_ false,s_ (⟨#[]⟩:ByteArray),b_ false,s_ (⟨#[]⟩:ByteArray),b_ false,s_ (⟨#[2]⟩:ByteArray)]=some [s_ (aDn (1,0,0,2))]:=aNl p7 (by decide)
  rw [plt1] at k4
  have r3:RI 1 (Rat.divInt 3 1) [b_ false,s_ (⟨#[3]⟩:ByteArray),s_ (⟨#[]⟩:ByteArray)]:=aT6 (x:=3) (by decide) (by decide)
  have k5:aFH ([b_ false,s_ (⟨#[]⟩:ByteArray),b_ false,s_ (⟨#[]⟩:ByteArray),b_ true,s_ (⟨#[1]⟩:ByteArray),b_ false,s_ (⟨#[]⟩:ByteArray)]++[b_ false,s_ (⟨#[3]⟩:ByteArray),s_ (⟨#[]⟩:ByteArray)])=some (enc4 (off (0,0,-1,0) (Rat.divInt 3 1)).1):=aSE p4 r3 (by decide) (by decide)
  have c3:enc4 (0,0,-1,3)=[b_ false,s_ (⟨#[]⟩:ByteArray),b_ false,s_ (⟨#[]⟩:ByteArray),b_ true,s_ (⟨#[1]⟩:ByteArray),b_ false,s_ (⟨#[3]⟩:ByteArray)]:=by
   show enc 0++(enc 0++(enc (-1)++enc 3))=_
   rw [aGf,em1,e3']
   rfl
  rw [off1] at k5
  have k5:aFH ([b_ false,s_ (⟨#[]⟩:ByteArray),b_ false,s_ (⟨#[]⟩:ByteArray),b_ true,s_ (⟨#[1]⟩:ByteArray),b_ false,s_ (⟨#[]⟩:ByteArray)]++[b_ false,s_ (⟨#[3]⟩:ByteArray),s_ (⟨#[]⟩:ByteArray)])=some [b_ false,s_ (⟨#[]⟩:ByteArray),b_ false,s_ (⟨#[]⟩:ByteArray),b_ true,s_ (⟨#[1]⟩:ByteArray),b_ false,s_ (⟨#[3]⟩:ByteArray)]:=by rw [k5,c3]
  have k6:aEX [b_ false,s_ (⟨#[]⟩:ByteArray),b_ false,s_ (⟨#[]⟩:ByteArray),b_ true,s_ (⟨#[1]⟩:ByteArray),b_ false,s_ (⟨#[3]⟩:ByteArray)]=some [s_ (aDn (0,0,-1,3))]:=aNl p8 (by decide)
  rw [plt2] at k6
  have k7:aFG ([b_ false,s_ (⟨#[]⟩:ByteArray),b_ false,s_ (⟨#[]⟩:ByteArray),b_ false,s_ (⟨#[1]⟩:ByteArray),b_ false,s_ (⟨#[]⟩:ByteArray)]++[b_ false,s_ (⟨#[]⟩:ByteArray),b_ false,s_ (⟨#[]⟩:ByteArray),b_ false,s_ (⟨#[1]⟩:ByteArray),b_ false,s_ (⟨#[1]⟩:ByteArray)])=some [i_ (sgn (sdz (0,0,1,0) (0,0,1,1)))]:=aQG p6 p5 (by decide) (by decide)
  rw [sid1] at k7
  have t1:(Pu.bin .eql 9 true).run Tryz.prog [.one (s_ (⟨#[91,49,32,48,32,48,32,50,93]⟩:ByteArray)),.one (s_ (⟨#[91,49,32,48,32,48,32,50,93]⟩:ByteArray))]=some (b_ true):=by rw [aD0,decide_eq_true rfl]
  have t2:(Pu.bin .eql 9 true).run Tryz.prog [.one (s_ (⟨#[91,48,32,48,32,45,49,32,51,93]⟩:ByteArray)),.one (s_ (⟨#[91,48,32,48,32,45,49,32,51,93]⟩:ByteArray))]=some (b_ true):=by rw [aD0,decide_eq_true rfl]
  clear c1 c2 c3 r3 p0 p1 p2 p3 p4 p5 p6 p7 p8
  refine ⟨0,?_⟩
  refine gC (RuS Tryz.prog) sm0 ?_
  refine gC (RuS Tryz.prog) sm0 ?_
  refine gC (RuS Tryz.prog) sm0 ?_
  refine gC (RuS Tryz.prog) sm1 ?_
  refine gC (RuS Tryz.prog) sm1 ?_
  refine gC (RuS Tryz.prog) sm0 ?_
  refine gC (RuS Tryz.prog) sm0 ?_
  refine gC (RuS Tryz.prog) sm1 ?_
  refine gC (RuS Tryz.prog) sm0 ?_
  refine gC (RuS Tryz.prog) sm1 ?_
  refine gC (RuS Tryz.prog) sm0 ?_
  refine gC (RuS Tryz.prog) sm1 ?_
  refine gC aEL k1 ?_
  refine gC (RuS Tryz.prog) sm2 ?_
  refine gC (RuS Tryz.prog) sm4 ?_
  refine gC aAv k2 ?_
  refine gC (RuS Tryz.prog) smm1 ?_
  refine aBe (by kernel_rfl) ?_
  refine gC (RuS Tryz.prog) sm1 ?_
  refine aAe (by kernel_rfl) k3 (aBe (by kernel_rfl) (aBe (by kernel_rfl) ?_))
  refine gC aEX k4 (aAe (by kernel_rfl) t1 (aBe (by kernel_rfl) ?_))
  refine gC aFH k5 (gC aEX k6 (aAe (by kernel_rfl) t2 (aBe (by kernel_rfl) ?_)))
  refine gC (RuS Tryz.prog) sm0 ?_
  refine gC (RuS Tryz.prog) sm0 ?_
  refine gC (RuS Tryz.prog) sm1 ?_
  refine gC (RuS Tryz.prog) sm1 ?_
  exact gC aFG k7 (gP (aA9 _ _ .i64 1 1) (aAb (by kernel_rfl)))
 ·cases h
def aQI:Tb:=[(37,aEW),(69,aBg),(101,aBg)]++aNq
theorem okLb:TbOk Tryz.prog X.G aQI:=.cons (by kernel_rfl) g_alivel (.cons (by kernel_rfl) g_great (.cons (by kernel_rfl) g_greatl aRj))
end Go.Proofs.YtjefbecmeobegaaGreatDoor.Sp
