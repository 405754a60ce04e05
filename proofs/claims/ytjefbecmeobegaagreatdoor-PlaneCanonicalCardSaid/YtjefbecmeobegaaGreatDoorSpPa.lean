import Derived.Test.YtjefbecmeobegaaGreatDoorSpA
import Derived.Test.YtjefbecmeobegaaGreatDoorSpC
import Derived.Test.YtjefbecmeobegaaGreatDoorSpPl
import Derived.Test.YtjefbecmeobegaaGreatDoorTr1
namespace Go.Proofs.YtjefbecmeobegaaGreatDoor.Sp
open Go Go.RowKit Sx NatA NatB NatC NatD NatI NatJ IntZ RatZ PtZ PlZ
theorem aHH (k:Bool) (p q:Z4):(Pu.bin .eql 53 k).run Tryz.prog [.agg (enc4 p),.agg (enc4 q)]=some (b_ (decide (p=q))):=by
 rw [← aNF]
 exact (aGw (P:=Tryz.prog) (t:=53) k (ks:=[.b,.s,.b,.s,.b,.s,.b,.s]) (by kernel_rfl) (by kernel_rfl) (xs:=v4 p) (ys:=v4 q) rfl rfl).1
theorem aKn (k:Bool) (p q:Z4):(Pu.bin .neq 53 k).run Tryz.prog [.agg (enc4 p),.agg (enc4 q)]=some (b_ (!decide (p=q))):=by
 rw [← aNF]
 exact (aGw (P:=Tryz.prog) (t:=53) k (ks:=[.b,.s,.b,.s,.b,.s,.b,.s]) (by kernel_rfl) (by kernel_rfl) (xs:=v4 p) (ys:=v4 q) rfl rfl).2
theorem g_greatl:Sx.Good Tryz.prog X.G 101 ⟨[.agg 8],.v1 .one⟩ aAY:=aAe (tb:=[]) trivial (fun _ _=>X.G_below) 400 (by kernel_rfl) (by kernel_rfl:_=some aGe) fun ds rs h=>by
 unfold aAY at h
 split at h
 ·rename_i a _ b _ c _ d
  obtain rfl:=Option.some.inj h
  refine ⟨0,?_⟩
  refine gP (aAq aBf a) (gP (aAy _ _ .i64 (a.size:Int) 6) (aAt (b:=decide ((a.size:Int) > 6)) (by kernel_rfl) (fun h1=>?_) (fun h1=>?_)))
  ·rw [if_neg (fun hh=>aE5 (k:=6) h1 hh.1)]
   exact aAc (by kernel_rfl)
  refine gP (aAq aBf b) (gP (aAy _ _ .i64 (b.size:Int) 6) (aAt (b:=decide ((b.size:Int) > 6)) (by kernel_rfl) (fun h2=>?_) (fun h2=>?_)))
  ·rw [if_neg (fun hh=>aE5 (k:=6) h2 hh.2.1)]
   exact aAc (by kernel_rfl)
  refine gP (aAq aBf c) (gP (aAy _ _ .i64 (c.size:Int) 6) (aAt (b:=decide ((c.size:Int) > 6)) (by kernel_rfl) (fun h3=>?_) (fun h3=>?_)))
  ·rw [if_neg (fun hh=>aE5 (k:=6) h3 hh.2.2.1)]
   exact aAc (by kernel_rfl)
  refine gP (aAq aBf d) (gP (aAy _ _ .i64 (d.size:Int) 6) (aAt (b:=decide ((d.size:Int) > 6)) (by kernel_rfl) (fun h4=>?_) (fun h4=>?_)))
  ·rw [if_neg (fun hh=>aE5 (k:=6) h4 hh.2.2.2)]
   exact aAc (by kernel_rfl)
  ·rw [if_pos ⟨aBY (k:=6) h1,aBY (k:=6) h2,aBY (k:=6) h3,aBY (k:=6) h4⟩]
   exact aAc (by kernel_rfl)
 ·cases h
theorem aOB:aAY [b_ false,s_ (⟨#[]⟩:ByteArray),b_ false,s_ (⟨#[]⟩:ByteArray),b_ false,s_ (⟨#[]⟩:ByteArray),b_ false,s_ (⟨#[]⟩:ByteArray)]=some [i_ 0]:=by kernel_rfl
theorem S4.quo {s:Nat} {p:Z4} (h:S4 s p):S4 s (quo p):=⟨aBe h.1,aBe h.2.1,aBe h.2.2.1,aBe h.2.2.2⟩
theorem aII {s:Nat} {p q:Z4} (h:S4 s p) (e:plz p=(q,true)):S4 s q:=by
 unfold plz at e
 split at e
 ·cases e
 ·obtain ⟨rfl,-⟩:=Prod.mk.inj e
  exact S4.quo h
theorem S4.hc4 {s:Nat} {v:V4} (h1:Sq s v.1) (h2:Sq s v.2.1) (h3:Sq s v.2.2.1) (h4:Sq s v.2.2.2):S4 (4*s) (hc4 v):=
 ⟨(h1.1.mul ((h2.2.mul h3.2).mul h4.2)).le (by omega),(h2.1.mul ((h1.2.mul h3.2).mul h4.2)).le (by omega),(h3.1.mul ((h1.2.mul h2.2).mul h4.2)).le (by omega),(h4.1.mul ((h1.2.mul h2.2).mul h3.2)).le (by omega)⟩
theorem S4.neg {s:Nat} {p:Z4} (h:S4 s p):S4 s (aBE p):=⟨h.1.neg,h.2.1.neg,h.2.2.1.neg,h.2.2.2.neg⟩
theorem aGM {s:Nat} {z:Z4} {ds:List D} (h:PI s z ds) (hs:s≤2500):aAA ds=some (aBr (plz z)):=Fo.eq (aAx 2500) (h.le hs)
theorem aIJ {s:Nat} {z:Z4} {ds:List D} (h:PI s z ds) (hs:s≤2500):aBH ds=some (enc4 (aBE z)):=Fo.eq (aAx 2500) (h.le hs)
theorem aEn {s t:Nat} {z x:Z4} {a b:List D} (h:PI s z a) (g:PI t x b) (hs:s≤1000) (ht:t≤1000):aBw (a++b)=some [i_ (sgn (sdz z x))]:=Fo.eq (v:=(z,x)) (aGl 1000) (And2.mk' (h.le hs) (g.le ht))
theorem aTl {s t:Nat} {z:Z4} {x:Rat} {a b:List D} (h:PI s z a) (g:RI t x b) (hs:s≤100) (ht:t≤100):aFJ (a++b)=some (enc4 (off z x).1):=Fo.eq (v:=(z,x)) (aLp 100) (And2.mk' (h.le hs) (g.le ht))
theorem aRc {s t:Nat} {x y z w:Rat} {a b:List D} (h:VI s (x,y,z) a) (g:RI t w b) (hs:s≤600) (ht:t≤600):aBm (a++b)=some (aBr (plv (x,y,z,w))):=Fo.eq (v:=((x,y,z),w)) (aDz 600) (And2.mk' (h.le hs) (g.le ht))
theorem aGN {s t u:Nat} {x y z:Z4} {a b c:List D} (h1:PI s x a) (h2:PI t y b) (h3:PI u z c) (hs:s≤20) (ht:t≤20) (hu:u≤20) (p1:0 < x.2.2.2) (p2:0 < y.2.2.2) (p3:0 < z.2.2.2):aAV (a++(b++c))=some (aBr (plv (thr (co x) (co y) (co z)))):=
 Fo.eq (v:=(x,y,z)) (aHe 20) (And2.mk' ⟨h1.le hs,decide_eq_true p1⟩ (And2.mk' ⟨h2.le ht,decide_eq_true p2⟩ ⟨h3.le hu,decide_eq_true p3⟩))
theorem aNE {s:Nat} {z:Z4} {ds:List D} (h:PI s z ds) (hs:s≤2500):aEZ ds=some [s_ (aDt z)]:=Fo.eq (aAx 2500) (h.le hs)
theorem aRd {a b c:V3} {q:Z4} (ha:Sv 6 a) (hb:Sv 6 b) (hc:Sv 6 c) (e:plv (thr a b c)=(q,true)):S4 800 q:=by
 have u1:=aBl hb.1 ha.1
 have u2:=aBl hb.2.1 ha.2.1
 have u3:=aBl hb.2.2 ha.2.2
 have v1:=aBl hc.1 ha.1
 have v2:=aBl hc.2.1 ha.2.1
 have v3:=aBl hc.2.2 ha.2.2
 have n1:=aBl (Sq.mul (by decide) u2 v3) (Sq.mul (by decide) u3 v2)
 have n2:=aBl (Sq.mul (by decide) u3 v1) (Sq.mul (by decide) u1 v3)
 have n3:=aBl (Sq.mul (by decide) u1 v2) (Sq.mul (by decide) u2 v1)
 have n4:=Sq.add (Sq.add (Sq.mul (by decide) n1 ha.1) (Sq.mul (by decide) n2 ha.2.1)) (Sq.mul (by decide) n3 ha.2.2)
 have h:S4 (4*179) (hc4 (thr a b c)):=S4.hc4 (n1.le (by decide)) (n2.le (by decide)) (n3.le (by decide)) (n4.le (by decide))
 exact (aII h e).le (by decide)
theorem S18 {u:V3} {s:Nat} (h:Sv s u):PI (3*s) (pt u) (aBc u):=PI.can (S4.pt h)
theorem e1':enc 1=[b_ false,s_ (⟨#[1]⟩:ByteArray)]:=aHI (n:=1) (by decide) (N_V (.inr (by decide)))
theorem e2':enc 2=[b_ false,s_ (⟨#[2]⟩:ByteArray)]:=aHI (n:=2) (by decide) (N_V (.inr (by decide)))
theorem e3':enc 3=[b_ false,s_ (⟨#[3]⟩:ByteArray)]:=aHI (n:=3) (by decide) (N_V (.inr (by decide)))
theorem em1:enc (-1)=[b_ true,s_ (⟨#[1]⟩:ByteArray)]:=by
 have h:=e1'
 have h2:s_ (N (1:Int).natAbs)=s_ (⟨#[1]⟩:ByteArray):=(List.cons.inj (List.cons.inj h).2).1
 show [b_ (decide ((-1:Int) < 0)),s_ (N (-1:Int).natAbs)]=_
 rw [show (-1:Int).natAbs=(1:Int).natAbs from rfl,h2]
 rfl
theorem it0:aAT 0=(⟨#[48]⟩:ByteArray):=by
 unfold aAT text
 rw [if_neg (by decide),show ((0:Int)).natAbs=0 from rfl,Lib.decDigits_one (by decide)]
 rfl
theorem it1:aAT 1=(⟨#[49]⟩:ByteArray):=by
 unfold aAT text
 rw [if_neg (by decide),show ((1:Int)).natAbs=1 from rfl,Lib.decDigits_one (by decide)]
 rfl
theorem it2:aAT 2=(⟨#[50]⟩:ByteArray):=by
 unfold aAT text
 rw [if_neg (by decide),show ((2:Int)).natAbs=2 from rfl,Lib.decDigits_one (by decide)]
 rfl
theorem it3:aAT 3=(⟨#[51]⟩:ByteArray):=by
 unfold aAT text
 rw [if_neg (by decide),show ((3:Int)).natAbs=3 from rfl,Lib.decDigits_one (by decide)]
 rfl
theorem itm1:aAT (-1)=(⟨#[45,49]⟩:ByteArray):=by
 unfold aAT text
 rw [if_pos (by decide),show ((-1:Int)).natAbs=1 from rfl,Lib.decDigits_one (by decide)]
 rfl
theorem plt1:aDt (1,0,0,2)=(⟨#[91,49,32,48,32,48,32,50,93]⟩:ByteArray):=by
 unfold aDt
 dsimp only
 rw [it0,it1,it2]
 rfl
theorem plt2:aDt (0,0,-1,3)=(⟨#[91,48,32,48,32,45,49,32,51,93]⟩:ByteArray):=by
 unfold aDt
 dsimp only
 rw [it0,itm1,it3]
 rfl
theorem thr1:plv (thr (co (0,0,0,1)) (co (1,0,0,1)) (co (0,1,0,1)))=((0,0,1,0),true):=by
 rw [← aN9 (by decide) (by decide) (by decide)]
 kernel_rfl
theorem nrm1:plz (2,0,0,4)=((1,0,0,2),true):=by kernel_rfl
theorem off1:off (0,0,-1,0) (Rat.divInt 3 1)=((0,0,-1,3),true):=by
 have h:plv (rv (0,0,-1,3))=((0,0,-1,3),true):=by rw [aTS];kernel_rfl
 rw [← h,aGk]
 unfold off aHE
 have ha:axz (0,0,-1,0)=2:=by kernel_rfl
 rw [ha]
 have e:(((0:Int):Rat))+((3:Int):Rat)*(((ix3 (0,0,-1,0) 2).natAbs:Int):Rat)=((3:Int):Rat):=by
  rw [show (((ix3 (0,0,-1,0) 2).natAbs:Int))=1 from rfl]
  rw [← Rat.intCast_mul,← Rat.intCast_add]
  rfl
 dsimp only
 rw [e]
theorem sid1:sgn (sdz (0,0,1,0) (0,0,1,1))=1:=by kernel_rfl
def RuS (P:Program):Fct:=runT P [] aDA 1
theorem aPY:Sx.Good Tryz.prog X.G 99 ⟨[.one],.v1 (.agg 2)⟩ (RuS Tryz.prog):=aAZ (tb:=[]) trivial (fun _ _=>X.G_below) 400 (by kernel_rfl) (by kernel_rfl:_=some aDA)
theorem sm0:RuS Tryz.prog [i_ 0]=some [b_ false,s_ (⟨#[]⟩:ByteArray)]:=by kernel_rfl
theorem sm1:RuS Tryz.prog [i_ 1]=some [b_ false,s_ (⟨#[1]⟩:ByteArray)]:=by kernel_rfl
theorem sm2:RuS Tryz.prog [i_ 2]=some [b_ false,s_ (⟨#[2]⟩:ByteArray)]:=by kernel_rfl
theorem sm4:RuS Tryz.prog [i_ 4]=some [b_ false,s_ (⟨#[4]⟩:ByteArray)]:=by kernel_rfl
theorem smm1:RuS Tryz.prog [i_ (-1)]=some [b_ true,s_ (⟨#[1]⟩:ByteArray)]:=by kernel_rfl
def tbLa (P:Program):Tb:=(99,RuS P)::aNH
theorem okLa:TbOk Tryz.prog X.G (tbLa Tryz.prog):=.cons (by kernel_rfl) aPY aR1
set_option maxHeartbeats 4000000 in
theorem g_alivel:Sx.Good Tryz.prog X.G 37 ⟨[],.v1 .one⟩ aEp:=aAe okLa (fun _ _=>X.G_below) 400 (by kernel_rfl) (by kernel_rfl:_=some aGf) fun ds rs h=>by
 unfold aEp at h
 split at h
 ·obtain rfl:=Option.some.inj h
  have p0:PI 1 (0,0,0,1) [b_ false,s_ (⟨#[]⟩:ByteArray),b_ false,s_ (⟨#[]⟩:ByteArray),b_ false,s_ (⟨#[]⟩:ByteArray),b_ false,s_ (⟨#[1]⟩:ByteArray)]:=by
   have e:=PI.mk (s:=1) (.raw false (a:=(⟨#[]⟩:ByteArray)) (by decide)) (.raw false (a:=(⟨#[]⟩:ByteArray)) (by decide)) (.raw false (a:=(⟨#[]⟩:ByteArray)) (by decide)) (.raw false (a:=(⟨#[1]⟩:ByteArray)) (by decide))
   exact e
  have p1:PI 1 (1,0,0,1) [b_ false,s_ (⟨#[1]⟩:ByteArray),b_ false,s_ (⟨#[]⟩:ByteArray),b_ false,s_ (⟨#[]⟩:ByteArray),b_ false,s_ (⟨#[1]⟩:ByteArray)]:=by
   have e:=PI.mk (s:=1) (.raw false (a:=(⟨#[1]⟩:ByteArray)) (by decide)) (.raw false (a:=(⟨#[]⟩:ByteArray)) (by decide)) (.raw false (a:=(⟨#[]⟩:ByteArray)) (by decide)) (.raw false (a:=(⟨#[1]⟩:ByteArray)) (by decide))
   exact e
  have p2:PI 1 (0,1,0,1) [b_ false,s_ (⟨#[]⟩:ByteArray),b_ false,s_ (⟨#[1]⟩:ByteArray),b_ false,s_ (⟨#[]⟩:ByteArray),b_ false,s_ (⟨#[1]⟩:ByteArray)]:=by
   have e:=PI.mk (s:=1) (.raw false (a:=(⟨#[]⟩:ByteArray)) (by decide)) (.raw false (a:=(⟨#[1]⟩:ByteArray)) (by decide)) (.raw false (a:=(⟨#[]⟩:ByteArray)) (by decide)) (.raw false (a:=(⟨#[1]⟩:ByteArray)) (by decide))
   exact e
  have p3:PI 1 (2,0,0,4) [b_ false,s_ (⟨#[2]⟩:ByteArray),b_ false,s_ (⟨#[]⟩:ByteArray),b_ false,s_ (⟨#[]⟩:ByteArray),b_ false,s_ (⟨#[4]⟩:ByteArray)]:=by
   have e:=PI.mk (s:=1) (.raw false (a:=(⟨#[2]⟩:ByteArray)) (by decide)) (.raw false (a:=(⟨#[]⟩:ByteArray)) (by decide)) (.raw false (a:=(⟨#[]⟩:ByteArray)) (by decide)) (.raw false (a:=(⟨#[4]⟩:ByteArray)) (by decide))
   exact e
  have p4:PI 1 (0,0,-1,0) [b_ false,s_ (⟨#[]⟩:ByteArray),b_ false,s_ (⟨#[]⟩:ByteArray),b_ true,s_ (⟨#[1]⟩:ByteArray),b_ false,s_ (⟨#[]⟩:ByteArray)]:=by
   have e:=PI.mk (s:=1) (.raw false (a:=(⟨#[]⟩:ByteArray)) (by decide)) (.raw false (a:=(⟨#[]⟩:ByteArray)) (by decide)) (.raw true (a:=(⟨#[1]⟩:ByteArray)) (by decide)) (.raw false (a:=(⟨#[]⟩:ByteArray)) (by decide))
   exact e
  have p5:PI 1 (0,0,1,1) [b_ false,s_ (⟨#[]⟩:ByteArray),b_ false,s_ (⟨#[]⟩:ByteArray),b_ false,s_ (⟨#[1]⟩:ByteArray),b_ false,s_ (⟨#[1]⟩:ByteArray)]:=by
   have e:=PI.mk (s:=1) (.raw false (a:=(⟨#[]⟩:ByteArray)) (by decide)) (.raw false (a:=(⟨#[]⟩:ByteArray)) (by decide)) (.raw false (a:=(⟨#[1]⟩:ByteArray)) (by decide)) (.raw false (a:=(⟨#[1]⟩:ByteArray)) (by decide))
   exact e
  have p6:PI 1 (0,0,1,0) [b_ false,s_ (⟨#[]⟩:ByteArray),b_ false,s_ (⟨#[]⟩:ByteArray),b_ false,s_ (⟨#[1]⟩:ByteArray),b_ false,s_ (⟨#[]⟩:ByteArray)]:=by
   have e:=PI.mk (s:=1) (.raw false (a:=(⟨#[]⟩:ByteArray)) (by decide)) (.raw false (a:=(⟨#[]⟩:ByteArray)) (by decide)) (.raw false (a:=(⟨#[1]⟩:ByteArray)) (by decide)) (.raw false (a:=(⟨#[]⟩:ByteArray)) (by decide))
   exact e
  have p7:PI 1 (1,0,0,2) [b_ false,s_ (⟨#[1]⟩:ByteArray),b_ false,s_ (⟨#[]⟩:ByteArray),b_ false,s_ (⟨#[]⟩:ByteArray),b_ false,s_ (⟨#[2]⟩:ByteArray)]:=by
   have e:=PI.mk (s:=1) (.raw false (a:=(⟨#[1]⟩:ByteArray)) (by decide)) (.raw false (a:=(⟨#[]⟩:ByteArray)) (by decide)) (.raw false (a:=(⟨#[]⟩:ByteArray)) (by decide)) (.raw false (a:=(⟨#[2]⟩:ByteArray)) (by decide))
   exact e
  have p8:PI 1 (0,0,-1,3) [b_ false,s_ (⟨#[]⟩:ByteArray),b_ false,s_ (⟨#[]⟩:ByteArray),b_ true,s_ (⟨#[1]⟩:ByteArray),b_ false,s_ (⟨#[3]⟩:ByteArray)]:=by
   have e:=PI.mk (s:=1) (.raw false (a:=(⟨#[]⟩:ByteArray)) (by decide)) (.raw false (a:=(⟨#[]⟩:ByteArray)) (by decide)) (.raw true (a:=(⟨#[1]⟩:ByteArray)) (by decide)) (.raw false (a:=(⟨#[3]⟩:ByteArray)) (by decide))
   exact e
  have k1:aAV ([b_ false,s_ (⟨#[]⟩:ByteArray),b_ false,s_ (⟨#[]⟩:ByteArray),b_ false,s_ (⟨#[]⟩:ByteArray),b_ false,s_ (⟨#[1]⟩:ByteArray)]++([b_ false,s_ (⟨#[1]⟩:ByteArray),b_ false,s_ (⟨#[]⟩:ByteArray),b_ false,s_ (⟨#[]⟩:ByteArray),b_ false,s_ (⟨#[1]⟩:ByteArray)]++[b_ false,s_ (⟨#[]⟩:ByteArray),b_ false,s_ (⟨#[1]⟩:ByteArray),b_ false,s_ (⟨#[]⟩:ByteArray),b_ false,s_ (⟨#[1]⟩:ByteArray)]))=some (aBr ((0,0,1,0),true)):=by rw [← thr1];exact aGN p0 p1 p2 (by decide) (by decide) (by decide) (by decide) (by decide) (by decide)
  have c1:enc4 (0,0,1,0)=[b_ false,s_ (⟨#[]⟩:ByteArray),b_ false,s_ (⟨#[]⟩:ByteArray),b_ false,s_ (⟨#[1]⟩:ByteArray),b_ false,s_ (⟨#[]⟩:ByteArray)]:=by
   show enc 0++(enc 0++(enc 1++enc 0))=_
   rw [aDQ,e1']
   rfl
  have k1:aAV ([b_ false,s_ (⟨#[]⟩:ByteArray),b_ false,s_ (⟨#[]⟩:ByteArray),b_ false,s_ (⟨#[]⟩:ByteArray),b_ false,s_ (⟨#[1]⟩:ByteArray)]++([b_ false,s_ (⟨#[1]⟩:ByteArray),b_ false,s_ (⟨#[]⟩:ByteArray),b_ false,s_ (⟨#[]⟩:ByteArray),b_ false,s_ (⟨#[1]⟩:ByteArray)]++[b_ false,s_ (⟨#[]⟩:ByteArray),b_ false,s_ (⟨#[1]⟩:ByteArray),b_ false,s_ (⟨#[]⟩:ByteArray),b_ false,s_ (⟨#[1]⟩:ByteArray)]))=some ([b_ false,s_ (⟨#[]⟩:ByteArray),b_ false,s_ (⟨#[]⟩:ByteArray),b_ false,s_ (⟨#[1]⟩:ByteArray),b_ false,s_ (⟨#[]⟩:ByteArray)]++[b_ true]):=by rw [k1];unfold aBr;dsimp only;rw [c1]
  have k2:aAA [b_ false,s_ (⟨#[2]⟩:ByteArray),b_ false,s_ (⟨#[]⟩:ByteArray),b_ false,s_ (⟨#[]⟩:ByteArray),b_ false,s_ (⟨#[4]⟩:ByteArray)]=some (aBr ((1,0,0,2),true)):=by rw [← nrm1];exact aGM p3 (by decide)
  have c2:enc4 (1,0,0,2)=[b_ false,s_ (⟨#[1]⟩:ByteArray),b_ false,s_ (⟨#[]⟩:ByteArray),b_ false,s_ (⟨#[]⟩:ByteArray),b_ false,s_ (⟨#[2]⟩:ByteArray)]:=by
   show enc 1++(enc 0++(enc 0++enc 2))=_
   rw [e1',aDQ,e2']
   rfl
  have k2:aAA [b_ false,s_ (⟨#[2]⟩:ByteArray),b_ false,s_ (⟨#[]⟩:ByteArray),b_ false,s_ (⟨#[]⟩:ByteArray),b_ false,s_ (⟨#[4]⟩:ByteArray)]=some ([b_ false,s_ (⟨#[1]⟩:ByteArray),b_ false,s_ (⟨#[]⟩:ByteArray),b_ false,s_ (⟨#[]⟩:ByteArray),b_ false,s_ (⟨#[2]⟩:ByteArray)]++[b_ true]):=by rw [k2];unfold aBr;dsimp only;rw [c2]
  have k3:=aHH false (0,0,1,0) (0,0,1,0)
  rw [decide_eq_true rfl,c1] at k3
  have k4:aEZ [b_ false,s_ (⟨#[1]⟩:ByteArray),b_ false,s_ (⟨#[]⟩:ByteArray),b_ false,s_ (⟨#[]⟩:ByteArray),b_ false,s_ (⟨#[2]⟩:ByteArray)]=some [s_ (aDt (1,0,0,2))]:=aNE p7 (by decide)
  rw [plt1] at k4
  have r3:RI 1 (Rat.divInt 3 1) [b_ false,s_ (⟨#[3]⟩:ByteArray),s_ (⟨#[]⟩:ByteArray)]:=aUf (x:=3) (by decide) (by decide)
  have k5:aFJ ([b_ false,s_ (⟨#[]⟩:ByteArray),b_ false,s_ (⟨#[]⟩:ByteArray),b_ true,s_ (⟨#[1]⟩:ByteArray),b_ false,s_ (⟨#[]⟩:ByteArray)]++[b_ false,s_ (⟨#[3]⟩:ByteArray),s_ (⟨#[]⟩:ByteArray)])=some (enc4 (off (0,0,-1,0) (Rat.divInt 3 1)).1):=aTl p4 r3 (by decide) (by decide)
  have c3:enc4 (0,0,-1,3)=[b_ false,s_ (⟨#[]⟩:ByteArray),b_ false,s_ (⟨#[]⟩:ByteArray),b_ true,s_ (⟨#[1]⟩:ByteArray),b_ false,s_ (⟨#[3]⟩:ByteArray)]:=by
   show enc 0++(enc 0++(enc (-1)++enc 3))=_
   rw [aDQ,em1,e3']
   rfl
  rw [off1] at k5
  have k5:aFJ ([b_ false,s_ (⟨#[]⟩:ByteArray),b_ false,s_ (⟨#[]⟩:ByteArray),b_ true,s_ (⟨#[1]⟩:ByteArray),b_ false,s_ (⟨#[]⟩:ByteArray)]++[b_ false,s_ (⟨#[3]⟩:ByteArray),s_ (⟨#[]⟩:ByteArray)])=some [b_ false,s_ (⟨#[]⟩:ByteArray),b_ false,s_ (⟨#[]⟩:ByteArray),b_ true,s_ (⟨#[1]⟩:ByteArray),b_ false,s_ (⟨#[3]⟩:ByteArray)]:=by rw [k5,c3]
  have k6:aEZ [b_ false,s_ (⟨#[]⟩:ByteArray),b_ false,s_ (⟨#[]⟩:ByteArray),b_ true,s_ (⟨#[1]⟩:ByteArray),b_ false,s_ (⟨#[3]⟩:ByteArray)]=some [s_ (aDt (0,0,-1,3))]:=aNE p8 (by decide)
  rw [plt2] at k6
  have k7:aBw ([b_ false,s_ (⟨#[]⟩:ByteArray),b_ false,s_ (⟨#[]⟩:ByteArray),b_ false,s_ (⟨#[1]⟩:ByteArray),b_ false,s_ (⟨#[]⟩:ByteArray)]++[b_ false,s_ (⟨#[]⟩:ByteArray),b_ false,s_ (⟨#[]⟩:ByteArray),b_ false,s_ (⟨#[1]⟩:ByteArray),b_ false,s_ (⟨#[1]⟩:ByteArray)])=some [i_ (sgn (sdz (0,0,1,0) (0,0,1,1)))]:=aEn p6 p5 (by decide) (by decide)
  rw [sid1] at k7
  have t1:(Pu.bin .eql 9 true).run Tryz.prog [.one (s_ (⟨#[91,49,32,48,32,48,32,50,93]⟩:ByteArray)),.one (s_ (⟨#[91,49,32,48,32,48,32,50,93]⟩:ByteArray))]=some (b_ true):=by rw [aC0,decide_eq_true rfl]
  have t2:(Pu.bin .eql 9 true).run Tryz.prog [.one (s_ (⟨#[91,48,32,48,32,45,49,32,51,93]⟩:ByteArray)),.one (s_ (⟨#[91,48,32,48,32,45,49,32,51,93]⟩:ByteArray))]=some (b_ true):=by rw [aC0,decide_eq_true rfl]
  clear c1 c2 c3 r3 p0 p1 p2 p3 p4 p5 p6 p7 p8
  refine ⟨0,?_⟩
  refine gC (RuS Tryz.prog) sm0 ?_
  refine gC (RuS Tryz.prog) sm0 ?_
  refine gC (RuS Tryz.prog) sm0 ?_
  refine gC (RuS Tryz.prog) sm1 ?_
  refine gC (RuS Tryz.prog) sm1 ?_
  refine gC (RuS Tryz.prog) sm0 ?_
  refine gC (RuS Tryz.prog) sm0 ?_
  refine gC (RuS Tryz.prog) sm1 ?_
  refine gC (RuS Tryz.prog) sm0 ?_
  refine gC (RuS Tryz.prog) sm1 ?_
  refine gC (RuS Tryz.prog) sm0 ?_
  refine gC (RuS Tryz.prog) sm1 ?_
  refine gC aAV k1 ?_
  refine gC (RuS Tryz.prog) sm2 ?_
  refine gC (RuS Tryz.prog) sm4 ?_
  refine gC aAA k2 ?_
  refine gC (RuS Tryz.prog) smm1 ?_
  refine aAH (by kernel_rfl) ?_
  refine gC (RuS Tryz.prog) sm1 ?_
  refine aAf (by kernel_rfl) k3 (aAH (by kernel_rfl) (aAH (by kernel_rfl) ?_))
  refine gC aEZ k4 (aAf (by kernel_rfl) t1 (aAH (by kernel_rfl) ?_))
  refine gC aFJ k5 (gC aEZ k6 (aAf (by kernel_rfl) t2 (aAH (by kernel_rfl) ?_)))
  refine gC (RuS Tryz.prog) sm0 ?_
  refine gC (RuS Tryz.prog) sm0 ?_
  refine gC (RuS Tryz.prog) sm1 ?_
  refine gC (RuS Tryz.prog) sm1 ?_
  exact gC aBw k7 (gP (aAD _ _ .i64 1 1) (aAc (by kernel_rfl)))
 ·cases h
def aOC:Tb:=[(37,aEp),(69,aAY),(101,aAY)]++aNH
theorem aRe:TbOk Tryz.prog X.G aOC:=.cons (by kernel_rfl) g_alivel (.cons (by kernel_rfl) g_great (.cons (by kernel_rfl) g_greatl aR1))
end Go.Proofs.YtjefbecmeobegaaGreatDoor.Sp
