import Derived.Test.YtkkjlpfomofiaaaGreatDoorSpI
import Derived.Test.YtkkjlpfomofiaaaGreatDoorTr1
namespace Go.Proofs.YtkkjlpfomofiaaaGreatDoor.Sp
open Go Go.RowKit Sx NatA NatB NatC NatD NatI NatJ IntZ RatZ
abbrev encR (q:Rat):List D:=[.v (.bool (I q.num).1),.v (.string (I q.num).2),.v (.string (dnc q.den))]
def Rc (lim:Nat) (g:Int→Int→List D):Fct
 | [.v (.bool n),.v (.string a),.v (.string b)]=>if a.size≤lim∧b.size≤lim then some (g (Z n a) (dn b)) else none
 | _=>none
def R1 (lim:Nat) (g:Rat→List D):Fct:=Rc lim fun x y=>g (Rat.divInt x y)
theorem Rc.eq {lim:Nat} {g:Int→Int→List D} {n:Bool} {a b:ByteArray} (ha:a.size≤lim) (hb:b.size≤lim):Rc lim g [b_ n,s_ a,s_ b]=some (g (Z n a) (dn b)):=if_pos ⟨ha,hb⟩
theorem Rc.can {lim:Nat} {g:Int→Int→List D} {q:Rat} (h:Sq lim q):Rc lim g (encR q)=some (g q.num q.den):=by
 have:=Rc.eq (g:=g) (n:=(I q.num).1) h.1 h.dnc
 rw [Z_I,aQd q.den_nz] at this
 exact this
theorem Rc.inv {lim:Nat} {g:Int→Int→List D} {ds rs:List D} (h:Rc lim g ds=some rs):∃ n a b,ds=[b_ n,s_ a,s_ b]∧a.size≤lim∧b.size≤lim∧rs=g (Z n a) (dn b):=by
 unfold Rc at h
 split at h
 ·split at h
  ·rename_i hc
   exact ⟨_,_,_,rfl,hc.1,hc.2,(Option.some.inj h).symm⟩
  ·cases h
 ·cases h
theorem R1.eq {lim:Nat} {g:Rat→List D} {n:Bool} {a b:ByteArray} (ha:a.size≤lim) (hb:b.size≤lim):R1 lim g [b_ n,s_ a,s_ b]=some (g (qv n a b)):=Rc.eq ha hb
theorem R1.can {lim:Nat} {g:Rat→List D} {q:Rat} (h:Sq lim q):R1 lim g (encR q)=some (g q):=by
 have:R1 lim g (encR q)=some (g (Rat.divInt q.num q.den)):=Rc.can h
 rw [Rat.num_divInt_den] at this
 exact this
theorem R1.inv {lim:Nat} {g:Rat→List D} {ds rs:List D} (h:R1 lim g ds=some rs):∃ n a b,ds=[b_ n,s_ a,s_ b]∧a.size≤lim∧b.size≤lim∧rs=g (qv n a b):=Rc.inv h
theorem aO7 (x:Nat):I (x:Int)=(false,N x):=by
 unfold I
 rw [decide_eq_false (by omega),Int.natAbs_natCast]
theorem I_sg (c:Bool) {k:Nat} (h:k≠0):I (sg c k)=(c,N k):=by
 unfold I
 rw [aB3]
 congr 1
 cases c
 ·exact decide_eq_false (by unfold sg;rw [if_neg (by decide)];omega)
 ·exact decide_eq_true (by unfold sg;rw [if_pos rfl];omega)
theorem aQA:N 1=(⟨#[1]⟩:ByteArray):=N_V (a:=(⟨#[1]⟩:ByteArray)) (.inr (by decide))
theorem aIr {k:Nat}:N k=(⟨#[1]⟩:ByteArray) ↔ k=1:=by rw [← aQA,aLQ]
theorem aIs:encR 0=[b_ false,s_ (⟨#[]⟩:ByteArray),s_ (⟨#[]⟩:ByteArray)]:=by
 show [b_ (I (0:Int)).1,s_ (I (0:Int)).2,s_ (dnc 1)]=_
 rw [show I (0:Int)=(false,N 0) from aO7 0,aFs]
 rfl
theorem aNU (n m:Bool) {p q:Nat} (hp:p≠0) (hq:q≠0):encR (Rat.divInt (sg n p) (sg m q))=[b_ (!(n == m)),s_ (N (p / Nat.gcd p q)),s_ (dnc (q / Nat.gcd p q))]:=by
 have h:p / Nat.gcd p q≠0:=by
  have h1:Nat.gcd p q≤p:=Nat.le_of_dvd (by omega) (Nat.gcd_dvd_left p q)
  have h2:0 < Nat.gcd p q:=Nat.gcd_pos_of_pos_left _ (by omega)
  have:=Nat.div_pos h1 h2
  omega
 have e1:=aPr n m (p:=p) hq
 have e2:=aPs n m (p:=p) hq
 show [b_ (I (Rat.divInt (sg n p) (sg m q)).num).1,s_ (I (Rat.divInt (sg n p) (sg m q)).num).2,s_ (dnc (Rat.divInt (sg n p) (sg m q)).den)]=_
 rw [e1,e2,I_sg _ h]
 cases n<;>cases m<;>rfl
theorem aMV {n:Bool} {a:ByteArray}:Z n a=0 ↔ V a=0:=by
 have:=aJX n a
 omega
theorem aJS {z:Int}:(sgn z == 0)=decide (z=0):=by
 rw [Bool.eq_iff_iff,beq_iff_eq,decide_eq_true_iff]
 unfold sgn
 split
 ·omega
 ·split<;>omega
def aFG:Fct:=Rc 9000 fun x y=>enc x++enc y
def aJT:Fct:=I2 fun x y=>encR (Rat.divInt x y)++[b_ (!decide (y=0))]
def aJU:Fct:=I2 fun x y=>encR (Rat.divInt x y)
def aFH:Fct:=R1 9000 encR
def aGu:Fct:=R1 9000 fun q=>enc q.num++enc q.den
theorem aPn {n:Bool} {a b:ByteArray}:qv n a b=0 ↔ Z n a=0:=by
 have hd:=aQc b
 have:qv n a b=0 ↔ Rat.divInt (Z n a) (dn b)=Rat.divInt 0 1:=by rw [Rat.zero_divInt];rfl
 rw [this,Rat.divInt_eq_divInt_iff (by omega) (by omega)]
 omega
theorem g_parts:Sx.Good Tryz.prog X.G 122 ⟨[.agg 3],.tup [.agg 2,.agg 2]⟩ aFG:=aAj ok11 (fun _ _=>X.G_below) 400 (by kernel_rfl) (by kernel_rfl:_=some aGt) fun ds rs h=>by
 obtain ⟨n,a,b,rfl,ha,hb,rfl⟩:=Rc.inv h
 refine ⟨0,aAo aGT rfl rfl (S1.eq (by omega)) rfl (aA4 rfl (aC1 _ _ _ _) (aDu rfl (fun e=>?_) (fun e=>?_)))⟩
 ·have hz:=N_nil.1 (of_decide_eq_true e)
  refine aAo F_ifrom rfl rfl (F_ifrom.eq (n:=1) (by decide) (by decide)) rfl (aAo aCF rfl rfl (I1.eq (by omega)) rfl (aAl ?_))
  have hd:dn b=1:=if_pos hz
  rw [hd]
  rfl
 ·have hz:¬ V b=0:=fun h=>of_decide_eq_false e (N_nil.2 h)
  refine aAo aCF rfl rfl (I1.eq (by omega)) rfl (aAl ?_)
  have hd:dn b=(V b:Int):=if_neg hz
  rw [hd]
  show some (enc (Z n a)++[b_ false,s_ (N (V b))])=some (enc (Z n a)++[b_ (I (V b:Int)).1,s_ (I (V b:Int)).2])
  rw [aO7]
def tbQ0:Tb:=(122,aFG)::tb11
theorem okQ0:TbOk Tryz.prog X.G tbQ0:=.cons (by kernel_rfl) g_parts ok11
theorem g_make:Sx.Good Tryz.prog X.G 104 ⟨[.agg 2,.agg 2],.tup [.agg 3,.one]⟩ aJT:=aAj okQ0 (fun _ _=>X.G_below) 400 (by kernel_rfl) (by kernel_rfl:_=some aHa) fun ds rs h=>by
 obtain ⟨n,a,m,b,rfl,ha,hb,rfl⟩:=I2.inv h
 refine ⟨0,aAo aFI rfl rfl (I1.eq (by omega)) rfl (aA4 rfl (aHq _ _ _ _ _) ?_)⟩
 rw [aJS]
 by_cases hz:Z m b=0
 ·refine aDh (congrArg (fun x=>some (b_ x)) (decide_eq_true hz)) (aAl ?_)
  rw [hz,Rat.divInt_zero,aIs]
  rfl
 refine aC0 (congrArg (fun x=>some (b_ x)) (decide_eq_false hz)) (aAo aFI rfl rfl (I1.eq (by omega)) rfl (aA4 rfl (aHq _ _ _ _ _) ?_))
 rw [aJS]
 by_cases hx:Z n a=0
 ·refine aDh (congrArg (fun x=>some (b_ x)) (decide_eq_true hx)) (aAl ?_)
  rw [hx,Rat.zero_divInt,aIs,decide_eq_false hz]
  rfl
 refine aC0 (congrArg (fun x=>some (b_ x)) (decide_eq_false hx)) ?_
 have hb0:V b≠0:=fun h=>hz (aMV.2 h)
 have ha0:V a≠0:=fun h=>hx (aMV.2 h)
 have hg:Nat.gcd (V a) (V b)≠0:=fun h=>hb0 (Nat.gcd_eq_zero_iff.1 h).2
 have hgs:(N (Nat.gcd (V a) (V b))).size≤9000:=Nat.le_trans ((aCT _ b.size).2 (Nat.lt_of_le_of_lt (aJW hb0) (aLP b))) hb
 refine aAo aLK rfl rfl (S2.eq (by omega) (by omega)) rfl (aA4 rfl (aK6 _ _ _ _ aE9) (aAo aDe rfl rfl (S2.eq (by omega) (by omega)) rfl ?_))
 rw [V_N]
 unfold aC7
 rw [if_neg hg]
 refine aAo aDe rfl rfl (S2.eq (by omega) (by omega)) rfl ?_
 rw [V_N]
 unfold aC7
 rw [if_neg hg]
 have e:=aNU n m ha0 hb0
 have e:encR (Rat.divInt (Z n a) (Z m b))=_:=e
 rw [e,decide_eq_false hz]
 unfold dnc
 refine aA4 rfl (aC1 _ _ _ _) (aDu rfl (fun h1=>?_) (fun h1=>?_))
 ·rw [if_pos (aIr.1 (of_decide_eq_true h1))]
  exact aAl rfl
 ·rw [if_neg (fun h=>of_decide_eq_false h1 (aIr.2 h))]
  exact aAl rfl
def tbQ1:Tb:=(104,aJT)::tbQ0
theorem okQ1:TbOk Tryz.prog X.G tbQ1:=.cons (by kernel_rfl) g_make okQ0
theorem g_made:Sx.Good Tryz.prog X.G 123 ⟨[.agg 2,.agg 2],.v1 (.agg 3)⟩ aJU:=aAj okQ1 (fun _ _=>X.G_below) 400 (by kernel_rfl) (by kernel_rfl:_=some aHb) fun ds rs h=>by
 obtain ⟨n,a,m,b,rfl,ha,hb,rfl⟩:=I2.inv h
 exact ⟨0,aAo aJT rfl rfl (I2.eq ha hb) rfl (aAl rfl)⟩
def tbQ2:Tb:=(123,aJU)::tbQ1
theorem okQ2:TbOk Tryz.prog X.G tbQ2:=.cons (by kernel_rfl) g_made okQ1
theorem g_rnorm:Sx.Good Tryz.prog X.G 86 ⟨[.agg 3],.v1 (.agg 3)⟩ aFH:=aAj okQ2 (fun _ _=>X.G_below) 400 (by kernel_rfl) (by kernel_rfl:_=some aE6) fun ds rs h=>by
 obtain ⟨n,a,b,rfl,ha,hb,rfl⟩:=R1.inv h
 have s1:Sz 9000 (Z n a):=.of ha
 have s2:Sz 9000 (dn b):=.dn hb (by decide)
 exact ⟨0,aAo aFG rfl rfl (Rc.eq ha hb) rfl (aAo aJU rfl rfl (I2.can s1 s2) rfl (aAl rfl))⟩
def tbQ3:Tb:=(86,aFH)::tbQ2
theorem okQ3:TbOk Tryz.prog X.G tbQ3:=.cons (by kernel_rfl) g_rnorm okQ2
def tbQ4:Tb:=tbQ3
theorem okQ4:TbOk Tryz.prog X.G tbQ4:=okQ3
theorem g_numden:Sx.Good Tryz.prog X.G 85 ⟨[.agg 3],.tup [.agg 2,.agg 2]⟩ aGu:=aAj okQ4 (fun _ _=>X.G_below) 400 (by kernel_rfl) (by kernel_rfl:_=some aEH) fun ds rs h=>by
 obtain ⟨n,a,b,rfl,ha,hb,rfl⟩:=R1.inv h
 have hq:Sq 9000 (qv n a b):=.qv (by decide) ha hb
 exact ⟨0,aAo aFH rfl rfl (R1.eq ha hb) rfl (aAo aFG rfl rfl (Rc.can hq) rfl (aAl rfl))⟩
def tbQ5:Tb:=(85,aGu)::tbQ4
theorem okQ5:TbOk Tryz.prog X.G tbQ5:=.cons (by kernel_rfl) g_numden okQ4
def tbQ6:Tb:=tbQ5
theorem okQ6:TbOk Tryz.prog X.G tbQ6:=okQ5
def tbQ7:Tb:=tbQ6
theorem okQ7:TbOk Tryz.prog X.G tbQ7:=okQ6
def tbQ8:Tb:=tbQ7
theorem okQ8:TbOk Tryz.prog X.G tbQ8:=okQ7
def tbQ9:Tb:=tbQ8
theorem okQ9:TbOk Tryz.prog X.G tbQ9:=okQ8
def aO8:Tb:=tbQ9
theorem aQB:TbOk Tryz.prog X.G aO8:=okQ9
def aO9:Tb:=aO8
theorem aQC:TbOk Tryz.prog X.G aO9:=aQB
def aQD:Tb:=aO9
theorem aQE:TbOk Tryz.prog X.G aQD:=aQC
end Go.Proofs.YtkkjlpfomofiaaaGreatDoor.Sp
