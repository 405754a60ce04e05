import Derived.Test.YtjefbecmeobegaaGreatDoorSpL
import Derived.Test.YtjefbecmeobegaaGreatDoorTr1
import Derived.Test.YtjefbecmeobegaaGreatDoorNatE
namespace Go.Proofs.YtjefbecmeobegaaGreatDoor.Sp
open Go Go.RowKit YtjefbecmeobegaaGreatDoorW.PrintWords Sx NatA NatB NatC NatD NatE NatI NatJ
def aAN:Fct:=S1 100000 λ x=>[D.v (Value.string (N x))]
def aEG:Fct:=S2 100000 λ x y=>[D.v (Value.int .i64 (aBu x y))]
def aHK:Fct:=S2 50000 λ x y=>[D.v (Value.string ((aD0 x y).1)),D.v (Value.bool ((aD0 x y).2))]
theorem aFL {G:World->Prop} {f:FuncId} {ct:Ct} {F F':Fct} (h:Sx.Good Tryz.prog G f ct F) (hw:∀ ds rs,F' ds=some rs->F ds=some rs):Sx.Good Tryz.prog G f ct F':=λ ds rs e=>h ds rs (hw ds rs e)
theorem S1.weak {l l':Nat} {g:Nat->List D} (hl:l<=l') (ds rs:List D) (h:S1 l g ds=some rs):S1 l' g ds=some rs:=by
 obtain ⟨a,rfl,ha,rfl⟩:=S1.inv h
 exact S1.eq (Nat.le_trans ha hl)
theorem S2.weak {l l':Nat} {g:Nat->Nat->List D} (hl:l<=l') (ds rs:List D) (h:S2 l g ds=some rs):S2 l' g ds=some rs:=by
 obtain ⟨a,b,rfl,ha,hb,rfl⟩:=S2.inv h
 exact S2.eq (Nat.le_trans ha hl) (Nat.le_trans hb hl)
theorem aJ4 {C:Cf} (a:ByteArray) (ha:a.size<=1000000) (e:D):∀ n:Nat,n<=a.size->∃ m,aDz.run Tryz.prog C m [aDz] [s_ a,e,i_ n]=some [s_ (N (V (a.extract 0 n)))]
 | 0,h=>by
  have hz:(a.extract 0 0).size=0:=size_extract a 0 h
  have:N (V (a.extract 0 0))=a.extract 0 0:=N_V (.inl hz)
  rw [this]
  exact ⟨0,aFm kJ rfl (aA8 _ _ _ _ _) rfl (aAf rfl (aK2 aA5 a .i64 0 h) (aAc rfl))⟩
 | n+1,h=>by
  have hi:n < a.size:=by omega
  have es:((n+1:Nat):Int) - 1=(n:Int):=by omega
  have p1:=aEP (P:=Tryz.prog) 3 true ((n+1:Nat):Int) 1 kJ
  rw [es] at p1
  by_cases hb:rd (bytesOf a) n=0
  ·obtain ⟨m,hm⟩:=aJ4 a ha e n kJ
   have hv:V (a.extract 0 (n+1))=V (a.extract 0 n):=by
    have:=aKF a n hi
    rw [aED,hb,Int.mul_zero] at this
    omega
   rw [hv]
   exact ⟨m+1,aEI kJ rfl (aA8 _ _ _ _ _) rfl (aAf rfl p1 (aAf rfl (aHR aA5 a n hi .i64) (aEI hb rfl (aAz _ _ _ _ _) rfl (aAf rfl p1 (aI7 rfl rfl hm)))))⟩
  ·rw [aKG a n hi (by rw [aED];exact hb)]
   exact ⟨0,aEI kJ rfl (aA8 _ _ _ _ _) rfl (aAf rfl p1 (aAf rfl (aHR aA5 a n hi .i64) (aFm hb rfl (aAz _ _ _ _ _) rfl (aAf rfl (aK2 aA5 a .i64 (n+1) h) (aAc rfl)))))⟩
theorem aM6:Sx.Good Tryz.prog X.G 95 ⟨[.one],.v1 .one⟩ aAN:=aAe (tb:=[]) trivial (λ _ _=>X.G_below) 400 kK (by kernel_rfl:_=some aCK) λ ds rs h=>by
 obtain ⟨a,rfl,ha,rfl⟩:=S1.inv h
 obtain ⟨m,hm⟩:=aJ4 (C:=aBp []) a kJ (i_ a.size) a.size (Nat.le_refl _)
 rw [extract_all] at hm
 exact ⟨m,aAf rfl (aAu aA5 a) (aJE rfl hm)⟩
def tbR1:Tb:=[(95,aAN)]
theorem okR1:TbOk Tryz.prog X.G tbR1:=.cons kK aM6 trivial
def F_at:Fct
 | [.v (.string a),.v (.int .i64 i)]=>if 0<=i then some [i_ (rd (bytesOf a) i)] else none
 | _=>none
theorem F_at.eq (a:ByteArray) (i:Nat):F_at [s_ a,i_ i]=some [i_ (rd (bytesOf a) i)]:=by
 show (if 0<=(i:Int) then _ else none)=_
 exact if_pos (Int.natCast_nonneg _)
theorem r_at:Sx.Good Tryz.prog X.G 142 ⟨[.one,.one],.v1 .one⟩ F_at:=aAe (tb:=[]) trivial (λ _ _=>X.G_below) 400 kK (by kernel_rfl:_=some aDo) λ ds rs h=>by
 unfold F_at at h
 split at h
 ·rename_i a i
  split at h
  ·rename_i hi
   obtain ⟨i,rfl⟩:=Int.eq_ofNat_of_zero_le hi
   obtain rfl:=Option.some.inj h
   by_cases hl:i < a.size
   ·exact ⟨0,aAf rfl (aAu aA5 a) (aEI kJ rfl (aAi _ _ _ _ _) rfl (aAf rfl (aHR aA5 a i hl .i64) (aAf rfl (aTE aEe .u8 _ aCP (aAA (aBN a) (by rw [bytesOf_length];exact hl))) (aAc rfl))))⟩
   ·rw [aEq (by rw [bytesOf_length];omega)]
    exact ⟨0,aAf rfl (aAu aA5 a) (aFm kJ rfl (aAi _ _ _ _ _) rfl (aAc rfl))⟩
  ·cases h
 ·cases h
def aGT:Tb:=(142,F_at)::tbR1
theorem aRo:TbOk Tryz.prog X.G aGT:=.cons kK r_at okR1
theorem aKM {C:Cf} (x y:Nat) (hs:(N x).size=(N y).size) (hx:(N x).size<=1000000) (e0 e1 e4 e5 e6 e7 e8 e9 e10 e11:D):∀ r:Nat,r<=(N x).size->(nb x).drop r=(nb y).drop r->∃ m,aD4.run Tryz.prog C m [aD4] [e0,e1,s_ (N x),s_ (N y),e4,e5,e6,e7,e8,e9,e10,e11,i_ ((r:Int) - 1)]=some [i_ (aBu x y)]
 | 0,_,hd=>by
  rw [List.drop_zero,List.drop_zero] at hd
  have:x=y:=by
   have:=congrArg (val 256) hd
   rw [aBO,aBO] at this
   exact Int.ofNat_inj.1 this
  unfold aBu
  rw [if_neg kJ,if_pos this]
  exact ⟨0,aFm kJ rfl (aFb _ _ _ _ _) rfl (aAc rfl)⟩
 | r+1,hr,hd=>by
  have lx:(nb x).length=(N x).size:=by rw [<- bytesOf_length,aBa]
  have ly:(nb y).length=(N x).size:=by rw [hs,<- bytesOf_length,aBa]
  have es:((r+1:Nat):Int) - 1=(r:Int):=by omega
  rw [es]
  have px:=aHR (P:=Tryz.prog) aA5 (N x) r kJ .i64
  have py:=aHR (P:=Tryz.prog) aA5 (N y) r kJ .i64
  rw [aBa] at px py
  by_cases hl:rd (nb x) (r:Int) < rd (nb y) (r:Int)
  ·have:=aFK (B:=256) kQ (aC9 x) (aC9 y) kJ r kJ hd hl
   rw [aBO,aBO] at this
   unfold aBu
   rw [if_pos kJ]
   exact ⟨0,aEI kJ rfl (aFb _ _ _ _ _) rfl (aAf rfl px (aAf rfl py (aEI hl rfl (aAi _ _ _ _ _) rfl (aAc rfl))))⟩
  ·by_cases he:rd (nb y) (r:Int) < rd (nb x) (r:Int)
   ·have:=aFK (B:=256) kQ (aC9 y) (aC9 x) kJ r kJ hd.symm he
    rw [aBO,aBO] at this
    unfold aBu
    rw [if_neg kJ,if_neg kJ]
    exact ⟨0,aEI kJ rfl (aFb _ _ _ _ _) rfl (aAf rfl px (aAf rfl py (aFm hl rfl (aAi _ _ _ _ _) rfl (aAf rfl px (aAf rfl py (aEI he rfl (aA8 _ _ _ _ _) rfl (aAc rfl)))))))⟩
   ·obtain ⟨m,hm⟩:=aKM x y hs hx e0 e1 e4 e5 e6 e7 e8 e9 e10 e11 r kJ (aN4 kJ kJ hd kJ)
    exact ⟨m+1,aEI kJ rfl (aFb _ _ _ _ _) rfl (aAf rfl px (aAf rfl py (aFm hl rfl (aAi _ _ _ _ _) rfl (aAf rfl px (aAf rfl py (aFm he rfl (aA8 _ _ _ _ _) rfl (aAf rfl (aEP _ _ _ _ kJ) (aI7 rfl rfl hm))))))))⟩
theorem aSs:Sx.Good Tryz.prog X.G 155 ⟨[.one,.one],.v1 .one⟩ aEG:=aAe aRo (λ _ _=>X.G_below) 400 kK (by kernel_rfl:_=some aCW) λ ds rs h=>by
 obtain ⟨a,b,rfl,ha,hb,rfl⟩:=S2.inv h
 have sx:=aC6 ha
 have sy:=aC6 hb
 have n1:aAN [s_ a]=some [s_ (N (V a))]:=S1.eq kJ
 have n2:aAN [s_ b]=some [s_ (N (V b))]:=S1.eq kJ
 generalize V a=x at *
 generalize V b=y at *
 have l1:=aAu (P:=Tryz.prog) aA5 (N x)
 have l2:=aAu (P:=Tryz.prog) aA5 (N y)
 by_cases h1:(N x).size < (N y).size
 ·have:=aEV h1
  unfold aBu
  rw [if_pos this]
  exact ⟨0,aAb aAN rfl rfl n1 rfl (aAb aAN rfl rfl n2 rfl (aAf rfl l1 (aAf rfl l2 (aEI kJ rfl (aAi _ _ _ _ _) rfl (aAc rfl)))))⟩
 ·by_cases h2:(N y).size < (N x).size
  ·have:=aEV h2
   unfold aBu
   rw [if_neg kJ,if_neg kJ]
   exact ⟨0,aAb aAN rfl rfl n1 rfl (aAb aAN rfl rfl n2 rfl (aAf rfl l1 (aAf rfl l2 (aFm kJ rfl (aAi _ _ _ _ _) rfl (aAf rfl l1 (aAf rfl l2 (aEI kJ rfl (aA8 _ _ _ _ _) rfl (aAc rfl))))))))⟩
  ·have lx:(nb x).length=(N x).size:=by rw [<- bytesOf_length,aBa]
   have ly:(nb y).length=(N y).size:=by rw [<- bytesOf_length,aBa]
   obtain ⟨m,hm⟩:=aKM (C:=aBp aGT) x y kJ kJ (s_ a) (s_ b) (i_ (N x).size) (i_ (N y).size) (b_ false) (i_ (N x).size) (i_ (N y).size) (b_ false) (i_ (N x).size) (i_ (((N x).size:Int) - 1)) (N x).size (Nat.le_refl _) (by rw [List.drop_eq_nil_of_le kJ,List.drop_eq_nil_of_le kJ])
   exact ⟨m,aAb aAN rfl rfl n1 rfl (aAb aAN rfl rfl n2 rfl (aAf rfl l1 (aAf rfl l2 (aFm kJ rfl (aAi _ _ _ _ _) rfl (aAf rfl l1 (aAf rfl l2 (aFm kJ rfl (aA8 _ _ _ _ _) rfl (aAf rfl l1 (aAf rfl (aEP _ _ _ _ kJ) (aJE rfl hm))))))))))⟩
def aOF:Tb:=(155,aEG)::aGT
theorem okR3:TbOk Tryz.prog X.G aOF:=.cons kK aSs aRo
theorem aGU (a:ByteArray) (i:Nat):0<=rd (bytesOf a) (i:Int)/\rd (bytesOf a) (i:Int) < 256:=aFh kQ (aBN a) i
theorem aIK {B:Int} {l:List Int} {x:Int} (h:Dig B l) (h0:0<=x/\x < B):Dig B (l++[x]):=aDY.2 ⟨h,aBf.2 ⟨h0,aC8 _⟩⟩
theorem aIL (B:Int) (l:List Int) (x:Int):val B (l++[x])=val B l+B ^ l.length*x:=by rw [val_append,aEW]
theorem aM7 (a:ByteArray):(V a:Int) < 256 ^ a.size:=by
 have:=aBG (B:=256) kQ (aBN a)
 rw [<- aCy,bytesOf_length] at this
 exact this
theorem aGV {l:List Int} (hd:Dig 256 l) (hl:l.length<=100000) {x:Nat} (hx:val 256 l=x):aAN [s_ (strOfNums l)]=some [s_ (N x)]:=by
 have:V (strOfNums l)=x:=by
  have:=aLk hd
  omega
 rw [<- this]
 exact S1.eq (by rw [aFv];exact hl)
theorem aQd (a b:ByteArray) (ha:a.size<=20000) (hb:b.size<=20000) (e:D) (r:Nat):∀ (i:Nat) (l:List Int) (c:Int),i+r=20001->l.length=i->Dig 256 l->(0<=c/\c<=1) ->
  val 256 l+256 ^ i*c=val 256 ((bytesOf a).take i)+val 256 ((bytesOf b).take i)->Rn Tryz.prog (aBp aOF) aBv [aBv] [s_ a,s_ b,e,i_ c,i_ i,Bl l] [s_ (N (V a+V b))]:=by
 have fin:∀ (i:Nat) (l:List Int),l.length=i->i<=20001->Dig 256 l->¬ i < a.size->¬ i < b.size->val 256 l=val 256 ((bytesOf a).take i)+val 256 ((bytesOf b).take i)->Rn Tryz.prog (aBp aOF) aBv [aBv] [s_ a,s_ b,e,i_ 0,i_ i,Bl l] [s_ (N (V a+V b))]:=λ i l hl hi hd h1 h2 hv=>by
  rw [List.take_of_length_le (by rw [bytesOf_length];omega),List.take_of_length_le (by rw [bytesOf_length];omega),<- aCy,<- aCy] at hv
  exact rp (aAu aA5 a) (rF kJ (aAi 3 false .i64 i a.size) (rp (aAu aA5 b) (rF kJ (aAi 3 false .i64 i b.size) (rF kQ (aA8 3 true .i64 0 0) (rp (aFS l) (rc aAN (aGV hd kJ (x:=V a+V b) kJ) rr))))))
 induction r with
 | zero =>
  intro i l c hi hl hd hc hv
  have hc0:c=0:=by
   rcases (show c=0\/c=1 by omega) with h | h
   ·exact h
   ·rw [List.take_of_length_le (by rw [bytesOf_length];omega),List.take_of_length_le (by rw [bytesOf_length];omega),<- aCy,<- aCy,h,Int.mul_one] at hv
    have h0:=aA4 kQ hd
    have h1:=aDZ a
    have h2:=aDZ b
    generalize hM:20000=M at *
    have h3:256 ^ a.size<=256 ^ M:=Nat.pow_le_pow_right kQ ha
    have h4:256 ^ b.size<=256 ^ M:=Nat.pow_le_pow_right kQ hb
    have h5:(256:Int) ^ i=((256 ^ M:Nat):Int)*256:=by rw [show i=M+1 by omega,Int.pow_succ,Int.natCast_pow];rfl
    omega
  subst hc0
  exact fin i l hl kJ hd kJ kJ (by rw [Int.mul_zero] at hv;omega)
 | succ r ih =>
  intro i l c hi hl hd hc hv
  by_cases hgo:i < a.size\/i < b.size\/c > 0
  ·have h1:=aGU a i
   have h2:=aGU b i
   have e1:=aAk 256 (bytesOf a) i
   have e2:=aAk 256 (bytesOf b) i
   obtain ⟨n,hn⟩:∃ n,n=c+(rd (bytesOf a) i+rd (bytesOf b) i):=⟨_,rfl⟩
   have hdm:256*(n / 256)+n % 256=n:=Int.mul_ediv_add_emod _ _
   have next:=ih (i+1) (l++[n % 256]) (n / 256) kJ (by simp [hl]) (aIK hd kJ) kJ (by
    rw [aIL,hl,e1,e2,Int.pow_succ]
    grind)
   have c1:=F_at.eq a i
   have c2:=F_at.eq b i
   have p1:=aBh (P:=Tryz.prog) 3 false (rd (bytesOf a) i) (rd (bytesOf b) i) kJ
   have p2:=aBh (P:=Tryz.prog) 3 false c (rd (bytesOf a) i+rd (bytesOf b) i) kJ
   rw [<- hn] at p2
   have p3:=aIQ (P:=Tryz.prog) 3 true .i64 n 256 kJ kQ
   have p4:=aFn (P:=Tryz.prog) aCP .i64 (n % 256) aEe kJ
   have p5:=aDQ (P:=Tryz.prog) l (n % 256) kJ
   have p6:=aIP (P:=Tryz.prog) 3 true n 256 kJ kQ
   have p7:=aBh (P:=Tryz.prog) 3 true (i:Int) 1 kJ
   by_cases hx:i < a.size
   ·exact rp (aAu aA5 a) (rT kJ (aAi 3 false .i64 i a.size) (rc F_at c1 (rc F_at c2 (rp p1 (rp p2 (rp p3 (rp p4 (rp p5 (rp p6 (rp p7 (ra next)))))))))))
   ·by_cases hy:i < b.size
    ·exact rp (aAu aA5 a) (rF kJ (aAi 3 false .i64 i a.size) (rp (aAu aA5 b) (rT kJ (aAi 3 false .i64 i b.size) (rc F_at c1 (rc F_at c2 (rp p1 (rp p2 (rp p3 (rp p4 (rp p5 (rp p6 (rp p7 (ra next)))))))))))))
    ·exact rp (aAu aA5 a) (rF kJ (aAi 3 false .i64 i a.size) (rp (aAu aA5 b) (rF kJ (aAi 3 false .i64 i b.size) (rT kJ (aA8 3 true .i64 c 0) (rc F_at c1 (rc F_at c2 (rp p1 (rp p2 (rp p3 (rp p4 (rp p5 (rp p6 (rp p7 (ra next))))))))))))))
  ·obtain rfl:c=0:=by omega
   exact fin i l hl kJ hd kJ kJ (by rw [Int.mul_zero] at hv;omega)
theorem aSt:Sx.Good Tryz.prog X.G 144 ⟨[.one,.one],.v1 .one⟩ aFI:=aAe okR3 (λ _ _=>X.G_below) 400 kK (by kernel_rfl:_=some aCX) λ ds rs h=>by
 obtain ⟨a,b,rfl,ha,hb,rfl⟩:=S2.inv h
 exact rp aIR (rl (aQd a b ha hb (Bl []) 20001 0 [] 0 rfl rfl (aC8 _) kQ (by simp [val])))
def aRp:Tb:=(144,aFI)::aOF
theorem okR4:TbOk Tryz.prog X.G aRp:=.cons kK aSt okR3
theorem aQe (a b:ByteArray) (ha:a.size<=50000) (hge:V b<=V a) (e2 e3 e4:D) (r:Nat):∀ (i:Nat) (l:List Int) (c:Int),i+r=a.size->l.length=i->Dig 256 l->(0<=c/\c<=1) ->
  val 256 l+val 256 ((bytesOf b).take i)=val 256 ((bytesOf a).take i)+256 ^ i*c->Rn Tryz.prog (aBp aRp) aCu [aCu] [s_ a,s_ b,e2,e3,e4,i_ c,i_ i,Bl l] [s_ (N (V a - V b)),b_ true]:=by
 induction r with
 | zero =>
  intro i l c hi hl hd hc hv
  have hva:=aCy a
  have hvb:=aCy b
  rw [List.take_of_length_le (l:=bytesOf a) (by rw [bytesOf_length];omega),<- hva] at hv
  have hb2:val 256 ((bytesOf b).take i)=(V b:Int):=by
   by_cases hbl:b.size<=i
   ·rw [List.take_of_length_le (by rw [bytesOf_length];omega),hvb]
   ·have h1:=aCm 256 (bytesOf b) i (by rw [bytesOf_length];omega)
    have h2:=aA4 kQ (aAG (aBN b) i)
    have h3:=aA4 kQ (aCF (aBN b) i)
    have h4:(0:Int) < 256 ^ i:=Int.pow_pos kQ
    have h5:(V a:Int) < 256 ^ i:=by rw [show i=a.size by omega];exact aM7 a
    have h6:val 256 ((bytesOf b).drop i)=0:=by
     rcases (show val 256 ((bytesOf b).drop i)=0\/1<=val 256 ((bytesOf b).drop i) by omega) with h | h
     ·exact h
     ·have:=Int.mul_le_mul_of_nonneg_left h (Int.le_of_lt h4)
      rw [Int.mul_one] at this
      omega
    rw [h6,Int.mul_zero] at h1
    omega
  rw [hb2] at hv
  have hl0:=aBG kQ hd
  rw [hl] at hl0
  have hc0:c=0:=by
   rcases (show c=0\/c=1 by omega) with h | h
   ·exact h
   ·rw [h,Int.mul_one] at hv
    omega
  rw [hc0,Int.mul_zero] at hv
  exact rp (aAu aA5 a) (rF kJ (aAi 3 false .i64 i a.size) (rp (aFS l) (rc aAN (aGV hd kJ (x:=V a - V b) kJ) rr)))
 | succ r ih =>
  intro i l c hi hl hd hc hv
  have h1:=aGU a i
  have h2:=aGU b i
  have e1:=aAk 256 (bytesOf a) i
  have e2':=aAk 256 (bytesOf b) i
  obtain ⟨n,hn⟩:∃ n,n=rd (bytesOf a) i - rd (bytesOf b) i - c:=⟨_,rfl⟩
  have c1:=F_at.eq a i
  have c2:=F_at.eq b i
  have p1:=aEP (P:=Tryz.prog) 3 false (rd (bytesOf a) i) (rd (bytesOf b) i) kJ
  have p2:=aEP (P:=Tryz.prog) 3 false (rd (bytesOf a) i - rd (bytesOf b) i) c kJ
  rw [<- hn] at p2
  have p7:=aBh (P:=Tryz.prog) 3 true (i:Int) 1 kJ
  refine rp (aAu aA5 a) (rT kJ (aAi 3 false .i64 i a.size) (rc F_at c1 (rc F_at c2 (rp p1 (rp p2 ?_)))))
  by_cases hneg:n < 0
  ·have next:=ih (i+1) (l++[n+256]) 1 kJ (by simp [hl]) (aIK hd kJ) kJ (by
    rw [aIL,hl,e1,e2',Int.pow_succ]
    grind)
   exact rT hneg (aAi 3 true .i64 n 0) (rp (aBh 3 true n 256 kJ) (rp (aFn aCP .i64 (n+256) aEe kJ) (rp (aDQ l (n+256) kJ) (rp p7 (ra next)))))
  ·have next:=ih (i+1) (l++[n]) 0 kJ (by simp [hl]) (aIK hd kJ) kJ (by
    rw [aIL,hl,e1,e2']
    grind)
   exact rF hneg (aAi 3 true .i64 n 0) (rp (aFn aCP .i64 n aEe kJ) (rp (aDQ l n kJ) (rp p7 (ra next))))
theorem aSu:Sx.Good Tryz.prog X.G 145 ⟨[.one,.one],.tup [.one,.one]⟩ aHK:=aAe okR4 (λ _ _=>X.G_below) 400 kK (by kernel_rfl:_=some aCZ) λ ds rs h=>by
 obtain ⟨a,b,rfl,ha,hb,rfl⟩:=S2.inv h
 have c1:aEG [s_ a,s_ b]=some [i_ (aBu (V a) (V b))]:=S2.eq kJ kJ
 unfold aD0
 by_cases h:V a < V b
 ·rw [if_pos h]
  exact rc aEG c1 (rT (aEr.2 h) (aAi 3 true .i64 (aBu (V a) (V b)) 0) rr)
 ·rw [if_neg h]
  exact rc aEG c1 (rF (λ e=>h (aEr.1 e)) (aAi 3 true .i64 (aBu (V a) (V b)) 0) (rp aIR (rl (aQe a b ha kJ (i_ (aBu (V a) (V b))) (b_ false) (Bl []) a.size 0 [] 0 kJ rfl (aC8 _) kJ (by simp [val])))))
def tbR5:Tb:=(145,aHK)::aRp
theorem okR5:TbOk Tryz.prog X.G tbR5:=.cons kK aSu okR4
theorem aRq {C:Cf} (e0 e1:D):∀ (j m:Nat) (l:List Int),m < 256 ^ j->m < 18446744073709551616->l.length+j<=1000->Rn Tryz.prog C aB4 [aB4] [e0,e1,w_ m,Bl l] [s_ (strOfNums (l++nb m))]:=by
 have fin:∀ l:List Int,Rn Tryz.prog C aB4 [aB4] [e0,e1,w_ 0,Bl l] [s_ (strOfNums (l++nb 0))]:=λ l=>by
  rw [aDN,List.append_nil]
  exact rF kQ (aA8 116 true .u64 0 0) (rp (aFS l) rr)
 intro j
 induction j with
 | zero =>
  intro m l hm _ _
  obtain rfl:m=0:=by rw [Nat.pow_zero] at hm;omega
  exact fin l
 | succ j ih =>
  intro m l hm hlt hl
  by_cases h0:m=0
  ·subst h0
   exact fin l
  ·rw [aGe h0]
   rw [Nat.pow_succ] at hm
   have next:=ih (m / 256) (l++[((m % 256:Nat):Int)]) kJ kJ (by rw [List.length_append,List.length_singleton];omega)
   rw [List.append_assoc] at next
   have p3:=aIQ (P:=Tryz.prog) 116 true .u64 (m:Int) 256 kJ kQ
   have p6:=aU4 (P:=Tryz.prog) 116 true (m:Int) 256 kJ kQ
   rw [show (m:Int) % 256=((m % 256:Nat):Int) by omega] at p3
   rw [show (m:Int) / 256=((m / 256:Nat):Int) by omega] at p6
   exact rT kJ (aA8 116 true .u64 m 0) (rp p3 (rp (aFn aCP .u64 ((m % 256:Nat):Int) aBA kJ) (rp (aDQ l ((m % 256:Nat):Int) kJ) (rp p6 (ra next)))))
theorem r_of:Sx.Good Tryz.prog X.G 111 ⟨[.one],.v1 .one⟩ F_from:=aAe okR5 (λ _ _=>X.G_below) 400 kK (by kernel_rfl:_=some aDn) λ ds rs h=>by
 obtain ⟨n,rfl,hn,rfl⟩:=F_from.inv h
 exact rp aIR (rl (aRq (w_ n) (Bl []) 8 n [] (by simpa using hn) hn kQ))
theorem aRr (a b:ByteArray) (ha:a.size<=20000) (hb:b.size<=20000) (e2 e3 e4 e5 e6 e8 e9 e10:D) (i:Nat) (hi:i < a.size) (R:List D) (T0:Int) (hT:T0+256 ^ i*(rd (bytesOf a) i*V b) < 256 ^ (a.size+b.size+1)) (r:Nat):∀ (j:Nat) (z:List Int) (c:Int),j+r=a.size+b.size+1 - i->z.length=a.size+b.size+1->Dig 256 z->(0<=c/\c < 256) ->
  val 256 z+256 ^ (i+j)*c=T0+256 ^ i*(rd (bytesOf a) i*val 256 ((bytesOf b).take j)) ->
  (∀ z',z'.length=a.size+b.size+1->Dig 256 z'->val 256 z'=T0+256 ^ i*(rd (bytesOf a) i*V b)->Rn Tryz.prog (aBp aGT) aAC [aAC] [s_ a,s_ b,e2,e3,e4,e5,e6,i_ ((i+1:Nat):Int),Il z'] R) ->
  Rn Tryz.prog (aBp aGT) aBw [aAC,aBw] [s_ a,s_ b,e2,e3,e4,e5,e6,i_ i,e8,e9,e10,i_ c,i_ j,Il z] R:=by
 have hda:=aGU a i
 have fin:∀ (j:Nat) (z:List Int),z.length=a.size+b.size+1->Dig 256 z->¬ j < b.size->val 256 z=T0+256 ^ i*(rd (bytesOf a) i*val 256 ((bytesOf b).take j)) ->
  (∀ z',z'.length=a.size+b.size+1->Dig 256 z'->val 256 z'=T0+256 ^ i*(rd (bytesOf a) i*V b)->Rn Tryz.prog (aBp aGT) aAC [aAC] [s_ a,s_ b,e2,e3,e4,e5,e6,i_ ((i+1:Nat):Int),Il z'] R)->Rn Tryz.prog (aBp aGT) aBw [aAC,aBw] [s_ a,s_ b,e2,e3,e4,e5,e6,i_ i,e8,e9,e10,i_ 0,i_ j,Il z] R:=λ j z hz hd hj hv K=>by
  have k:=K z hz hd (by rw [hv,List.take_of_length_le (by rw [bytesOf_length];omega),aCy])
  exact rp (aAu aA5 b) (rF kJ (aAi 3 false .i64 j b.size) (rF kQ (aA8 3 true .i64 0 0) (rp (aBh 3 true (i:Int) 1 kJ) (ra k))))
 induction r with
 | zero =>
  intro j z c hj hz hd hc hv K
  have hc0:c=0:=by
   rcases (show c=0\/1<=c by omega) with h | h
   ·exact h
   ·rw [List.take_of_length_le (l:=bytesOf b) (by rw [bytesOf_length];omega),<- aCy] at hv
    have h0:=aA4 kQ hd
    have h1:(0:Int) < 256 ^ (i+j):=Int.pow_pos kQ
    have h2:=Int.mul_le_mul_of_nonneg_left h (Int.le_of_lt h1)
    rw [Int.mul_one,show i+j=a.size+b.size+1 by omega] at h2
    rw [show i+j=a.size+b.size+1 by omega] at hv
    omega
  subst hc0
  exact fin j z hz hd kJ (by rw [Int.mul_zero] at hv;omega) K
 | succ r ih =>
  intro j z c hj hz hd hc hv K
  by_cases hgo:j < b.size\/c > 0
  ·have hdb:=aGU b j
   have hzr:=aAA hd (i:=i+j) kJ
   have hp:0<=rd (bytesOf a) i*rd (bytesOf b) j:=Int.mul_nonneg hda.1 hdb.1
   have hp2:rd (bytesOf a) i*rd (bytesOf b) j<=255*255:=Int.mul_le_mul kJ kJ hdb.1 kJ
   obtain ⟨n,hn⟩:∃ n,n=rd z ((i+j:Nat):Int)+rd (bytesOf a) i*rd (bytesOf b) j+c:=⟨_,rfl⟩
   have hdm:256*(n / 256)+n % 256=n:=Int.mul_ediv_add_emod _ _
   have next:=ih (j+1) (z.set (i+j) (n % 256)) (n / 256) kJ (by rw [List.length_set,hz]) (aBk hd _ kJ kJ) kJ (by
    rw [val_put _ _ _ _ kJ,aAk,show i+(j+1)=i+j+1 by omega,Int.pow_succ]
    have e1:(256:Int) ^ (i+j)=256 ^ i*256 ^ j:=Int.pow_add _ _ _
    grind) K
   have c1:=F_at.eq a i
   have c2:=F_at.eq b j
   have p0:=aBh (P:=Tryz.prog) 3 false (i:Int) (j:Int) kJ
   rw [show (i:Int)+j=((i+j:Nat):Int) by omega] at p0
   have q1:=aB3 (P:=Tryz.prog) i_ z (i+j) kJ .i64
   have q2:=aC2 (P:=Tryz.prog) i_ z (i+j) kJ .i64
   have p1:=aNQ (P:=Tryz.prog) 3 false (rd (bytesOf a) i) (rd (bytesOf b) j) kJ
   have p2:=aBh (P:=Tryz.prog) 3 false (rd z ((i+j:Nat):Int)) (rd (bytesOf a) i*rd (bytesOf b) j) kJ
   have p3:=aBh (P:=Tryz.prog) 3 false (rd z ((i+j:Nat):Int)+rd (bytesOf a) i*rd (bytesOf b) j) c kJ
   rw [<- hn] at p3
   have p4:=aIQ (P:=Tryz.prog) 3 true .i64 n 256 kJ kQ
   have q3:=aD3 (P:=Tryz.prog) i_ z (i+j) kJ .i64 (n % 256)
   have p5:=aIP (P:=Tryz.prog) 3 true n 256 kJ kQ
   have p6:=aBh (P:=Tryz.prog) 3 true (j:Int) 1 kJ
   by_cases hj':j < b.size
   ·exact rp (aAu aA5 b) (rT kJ (aAi 3 false .i64 j b.size) (rp p0 (rp q1 (rp q2 (rc F_at c1 (rc F_at c2 (rp p1 (rp p2 (rp p3 (rp p0 (rp p4 (rp q1 (rp q3 (rp p5 (rp p6 (ra next))))))))))))))))
   ·exact rp (aAu aA5 b) (rF kJ (aAi 3 false .i64 j b.size) (rT kJ (aA8 3 true .i64 c 0) (rp p0 (rp q1 (rp q2 (rc F_at c1 (rc F_at c2 (rp p1 (rp p2 (rp p3 (rp p0 (rp p4 (rp q1 (rp q3 (rp p5 (rp p6 (ra next)))))))))))))))))
  ·obtain rfl:c=0:=by omega
   exact fin j z hz hd kJ (by rw [Int.mul_zero] at hv;omega) K
theorem aRs (z:List Int) (hd:Dig 256 z) (hs:z.length<=100000) (x:Nat) (hx:val 256 z=x) (e0 e1 e2 e3 e4 e5 e6 e7 e9 e10 e11:D) (r:Nat):∀ (i:Nat) (l:List Int),i+r=z.length->l=z.take i->Rn Tryz.prog (aBp aGT) aCt [aCt] [e0,e1,e2,e3,e4,e5,e6,e7,Il z,e9,e10,e11,i_ z.length,i_ i,Bl l] [s_ (N x)]:=by
 induction r with
 | zero =>
  intro i l hi hl
  rw [List.take_of_length_le kJ] at hl
  subst hl
  exact rF kJ (aAi 3 false .i64 i l.length) (rp (aFS l) (rc aAN (aGV hd hs hx) rr))
 | succ r ih =>
  intro i l hi hl
  have hr:=aAA hd (i:=i) kJ
  have hll:l.length=i:=by rw [hl,List.length_take];omega
  have next:=ih (i+1) (l++[rd z i]) kJ (by rw [hl,aKH z i kJ])
  exact rT kJ (aAi 3 false .i64 i z.length) (rp (aB3 i_ z i kJ .i64) (rp (aC2 i_ z i kJ .i64) (rp (aFn aCP .i64 (rd z i) aEe hr) (rp (aDQ l (rd z i) kJ) (rp (aBh 3 true (i:Int) 1 kJ) (ra next))))))
theorem aQf (a b:ByteArray) (ha:a.size<=20000) (hb:b.size<=20000) (e2 e3 e4 e5 e6:D) (r:Nat):∀ (i:Nat) (z:List Int),i+r=a.size->z.length=a.size+b.size+1->Dig 256 z->val 256 z=val 256 ((bytesOf a).take i)*V b->Rn Tryz.prog (aBp aGT) aAC [aAC] [s_ a,s_ b,e2,e3,e4,e5,e6,i_ i,Il z] [s_ (N (V a*V b))]:=by
 induction r with
 | zero =>
  intro i z hi hz hd hv
  rw [List.take_of_length_le (by rw [bytesOf_length];omega),<- aCy,<- Int.natCast_mul] at hv
  have:=aRs z hd kJ (V a*V b) hv (s_ a) (s_ b) e2 e3 e4 e5 e6 (i_ i) (i_ a.size) (b_ false) (Bl []) z.length 0 [] kJ rfl
  exact rp (aAu aA5 a) (rF kJ (aAi 3 false .i64 i a.size) (rp aIR (rp (aSH z) (rl this))))
 | succ r ih =>
  intro i z hi hz hd hv
  have hda:=aGU a i
  have e1:=aAk 256 (bytesOf a) i
  have row:=aRr a b ha hb e2 e3 e4 e5 e6 (Il z) (i_ a.size) (b_ true) i kJ [s_ (N (V a*V b))] (val 256 z) ?_ (a.size+b.size+1 - i) 0 z 0 kJ hz hd kJ (by simp [val]) (λ z' hz' hd' hv'=>ih (i+1) z' kJ hz' hd' (by rw [hv',hv,e1,Int.add_mul,Int.mul_assoc]))
  ·exact rp (aAu aA5 a) (rT kJ (aAi 3 false .i64 i a.size) (rl row))
  have h1:val 256 z+256 ^ i*(rd (bytesOf a) i*V b)=val 256 ((bytesOf a).take (i+1))*V b:=by rw [hv,e1,Int.add_mul,Int.mul_assoc]
  rw [h1]
  have h2:=aBG kQ (aAG (aBN a) (i+1))
  rw [List.length_take,bytesOf_length,Nat.min_eq_left kJ] at h2
  have h3':=aM7 b
  have h4:=aA4 kQ (aAG (aBN a) (i+1))
  have h5:val 256 ((bytesOf a).take (i+1))*V b<=256 ^ (i+1)*256 ^ b.size:=Int.mul_le_mul (Int.le_of_lt h2) (Int.le_of_lt h3') kJ (Int.le_of_lt (Int.pow_pos kQ))
  rw [<- Int.pow_add] at h5
  have h6:(256:Int) ^ (i+1+b.size) < 256 ^ (a.size+b.size+1):=by
   have:=Nat.pow_lt_pow_right (show 1 < 256 by decide) (show i+1+b.size < a.size+b.size+1 by omega)
   have e:∀ m:Nat,(256:Int) ^ m=((256 ^ m:Nat):Int):=λ m=>by rw [Int.natCast_pow];rfl
   rw [e,e]
   exact Int.ofNat_lt.2 this
  exact Int.lt_of_le_of_lt h5 h6
theorem aOG:Sx.Good Tryz.prog X.G 97 ⟨[.one,.one],.v1 .one⟩ aDA:=aAe aRo (λ _ _=>X.G_below) 400 kK (by kernel_rfl:_=some aCY) λ ds rs h=>by
 obtain ⟨a,b,rfl,ha,hb,rfl⟩:=S2.inv h
 have p1:=aBh (P:=Tryz.prog) 3 false (a.size:Int) (b.size:Int) kJ
 have p2:=aBh (P:=Tryz.prog) 3 true ((a.size:Int)+b.size) 1 kJ
 rw [show (a.size:Int)+b.size+1=((a.size+b.size+1:Nat):Int) by omega] at p2
 have p3:=aGz (P:=Tryz.prog) (λ x=>.int .i64 x) 8 (a.size+b.size+1) kJ kJ .i64 .i64
 have lp:=aQf a b ha hb (i_ a.size) (i_ b.size) (i_ ((a.size:Int)+b.size)) (i_ ((a.size+b.size+1:Nat):Int)) (Il (List.replicate (a.size+b.size+1) 0)) a.size 0 _ kJ List.length_replicate (aAU kQ _) (by rw [aCN];simp [val])
 exact rp (aAu aA5 a) (rp (aAu aA5 b) (rp p1 (rp p2 (rp p3 (rl lp)))))
def aM8:Tb:=[(97,aDA),(111,F_from)]++tbR5
theorem okR6:TbOk Tryz.prog X.G aM8:=.cons kK aOG (.cons kK r_of okR5)
theorem aNJ {x y:Nat}:aBu x y<=0 ↔ x<=y:=by
 unfold aBu
 split
 ·omega
 ·split<;>omega
theorem aUy (a:ByteArray) (i m:Nat) (h:i < a.size):V (a.extract i (i+1)++N m)=(rd (bytesOf a) i).toNat+256*m:=by
 have h1:=aCy (a.extract i (i+1)++N m)
 have h2:=aGU a i
 rw [bytes_append,aCf,aBa,val_append,aBO,aEC _ _ (by rw [bytesOf_length];exact h),show i+1 - i=0+1 by omega,List.take_succ_cons,List.take_zero,aEW] at h1
 simp only [List.length_cons,List.length_nil,Nat.zero_add,Int.pow_succ,Int.pow_zero,Int.one_mul] at h1
 omega
theorem aUz {n:Nat} (h:n < 256):V (strOfNums [(n:Int)])=n:=by
 have:=aLk (aBf.2 ⟨(by omega:0<=(n:Int)/\(n:Int) < 256),aC8 _⟩)
 rw [aEW] at this
 omega
theorem aM9 {b:ByteArray} (hb:b.size<=20000) {n:Nat} (h:n < 256):aDA [s_ b,s_ (strOfNums [(n:Int)])]=some [s_ (N (V b*n))]:=by
 have:=S2.eq (lim:=20000) (g:=λ x y=>[D.v (Value.string (N (x*y)))]) (a:=b) (b:=strOfNums [(n:Int)]) hb (by rw [aFv,List.length_singleton];decide)
 rw [aUz h] at this
 exact this
theorem aQg (a b:ByteArray) (hb:b.size<=20000) (e2 e3 e4 e5 e6 e7 e8 e11 e12 e13 e14:D) (quot:List Int) (X i q M:Nat) (hX:(N X).size<=20001) (hq:q < 256) (hmq:∀ m,V b*m<=X ↔ m<=q) (hM:X - V b*q=M) (hi:i < quot.length) (hl:quot.length<=20000) (R:List D)
  (K:Rn Tryz.prog (aBp aM8) aBe [aBe] [s_ a,s_ b,e2,e3,e4,e5,e6,e7,s_ (N M),i_ ((i:Int) - 1),Bl (quot.set i (q:Int))] R) (r:Nat):∀ (lo hi:Nat),lo+r=hi->hi<=255->lo<=q->q<=hi ->
  Rn Tryz.prog (aBp aM8) aCv [aBe,aCv] [s_ a,s_ b,e2,e3,e4,e5,e6,e7,e8,i_ i,Bl quot,e11,e12,e13,e14,s_ (N X),i_ lo,i_ hi] R:=by
 induction r using Nat.strongRecOn with
 | _ r ih =>
  intro lo hi' hr hh h1 h2
  by_cases hlt:lo < hi'
  ·obtain ⟨mid,hm⟩:∃ mid,mid=(lo+hi'+1) / 2:=⟨_,rfl⟩
   have m1:mid < 256/\lo < mid/\mid<=hi':=by omega
   have hsm:(N (V b*mid)).size<=100000:=by
    have:=(aAH (V b*mid) (b.size+1)).2 (by rw [Nat.pow_succ];exact Nat.mul_lt_mul'' (aDZ b) m1.1)
    omega
   have p1:=aBh (P:=Tryz.prog) 3 false (lo:Int) (hi':Int) kJ
   have p2:=aBh (P:=Tryz.prog) 3 true ((lo:Int)+hi') 1 kJ
   have p3:=aIP (P:=Tryz.prog) 3 true ((lo:Int)+hi'+1) 2 kJ kQ
   rw [show ((lo:Int)+hi'+1) / 2=(mid:Int) by omega] at p3
   have p4:=aFn (P:=Tryz.prog) aCP .i64 (mid:Int) aEe kJ
   have p5:=aNb (P:=Tryz.prog) [(mid:Int)]
   have c1:=aM9 hb m1.1
   have c2:aEG [s_ (N (V b*mid)),s_ (N X)]=some [i_ (aBu (V b*mid) X)]:=S2.eqN hsm kJ
   by_cases hc:mid<=q
   ·have next:=ih (hi' - mid) kJ mid hi' kJ hh hc h2
    exact rT kJ (aAi 3 false .i64 lo hi') (rp p1 (rp p2 (rp p3 (rp p4 (rp p5 (rc aDA c1 (rc aEG c2 (rT (aNJ.2 ((hmq mid).2 hc)) (aNn 3 true .i64 (aBu (V b*mid) X) 0) (ra next)))))))))
   ·have next:=ih (mid - 1 - lo) kJ lo (mid - 1) kJ kJ h1 kJ
    have p6:=aEP (P:=Tryz.prog) 3 true (mid:Int) 1 kJ
    rw [show (mid:Int) - 1=((mid - 1:Nat):Int) by omega] at p6
    exact rT kJ (aAi 3 false .i64 lo hi') (rp p1 (rp p2 (rp p3 (rp p4 (rp p5 (rc aDA c1 (rc aEG c2 (rF (λ e=>hc ((hmq mid).1 (aNJ.1 e))) (aNn 3 true .i64 (aBu (V b*mid) X) 0) (rp p6 (ra next))))))))))
  ·have e:lo=q:=by omega
   subst e
   have hle:V b*lo<=X:=(hmq lo).2 (Nat.le_refl _)
   have hs:(N (V b*lo)).size<=20001:=Nat.le_trans ((aAH _ (N X).size).2 (Nat.lt_of_le_of_lt hle ((aAH X _).1 (Nat.le_refl _)))) hX
   have c3:aHK [s_ (N X),s_ (N (V b*lo))]=some [s_ (N M),b_ true]:=by
    have h3:aHK [s_ (N X),s_ (N (V b*lo))]=some [s_ (aD0 X (V b*lo)).1,b_ (aD0 X (V b*lo)).2]:=S2.eqN kJ kJ
    unfold aD0 at h3
    rw [if_neg kJ,hM] at h3
    exact h3
   have p4:=aFn (P:=Tryz.prog) aCP .i64 (lo:Int) aEe kJ
   have p5:=aNb (P:=Tryz.prog) [(lo:Int)]
   exact rF kJ (aAi 3 false .i64 lo hi') (rp p4 (rp p5 (rc aDA (aM9 hb hq) (rc aHK c3 (rp p4 (rp (aB3 y_ quot i kJ .i64) (rp (aD3 y_ quot i kJ .i64 (lo:Int)) (rp (aEP 3 true (i:Int) 1 kJ) (ra K)))))))))
theorem aQh (a b:ByteArray) (ha:a.size<=20000) (hb:b.size<=20000) (hb0:0 < V b) (e2 e3 e4 e5 e6 e7:D) (r:Nat):∀ (quot:List Int) (p:Nat),r<=a.size->quot.length=a.size->Dig 256 quot->p < V b ->
  val 256 ((bytesOf a).drop r)=val 256 (quot.drop r)*V b+p->Rn Tryz.prog (aBp aM8) aBe [aBe] [s_ a,s_ b,e2,e3,e4,e5,e6,e7,s_ (N p),i_ ((r:Int) - 1),Bl quot] [s_ (N (V a / V b)),s_ (N (V a % V b)),b_ true]:=by
 induction r with
 | zero =>
  intro quot p hr hl hd hp hv
  rw [List.drop_zero,List.drop_zero,<- aCy] at hv
  have h0:=aA4 kQ hd
  obtain ⟨Q,hQ⟩:=Int.eq_ofNat_of_zero_le h0
  rw [hQ] at hv
  have h2:V a=V b*Q+p:=by
   rw [<- Int.natCast_mul] at hv
   have:=Nat.mul_comm (V b) Q
   omega
  rw [h2,Nat.mul_add_div hb0,Nat.div_eq_of_lt hp,Nat.add_zero,Nat.mul_add_mod,Nat.mod_eq_of_lt hp]
  exact rF kJ (aFb 3 true .i64 (((0:Nat):Int) - 1) 0) (rp (aFS quot) (rc aAN (aGV hd kJ hQ) rr))
 | succ r ih =>
  intro quot p hr hl hd hp hv
  have hb1:=aGU a r
  have hps:(N p).size<=b.size:=aDC (Nat.le_of_lt hp)
  have hes:(a.extract r (r+1)).size=1:=by rw [ByteArray.size_extract];omega
  obtain ⟨X,hX⟩:∃ X,X=(rd (bytesOf a) r).toNat+256*p:=⟨_,rfl⟩
  have hXl:X < 256*V b:=by omega
  have hXs:(N X).size<=b.size+1:=(aAH X _).2 (by
   have:=aDZ b
   rw [Nat.pow_succ]
   omega)
  have c1:aAN [s_ (a.extract r (r+1)++N p)]=some [s_ (N X)]:=by
   have h1:aAN [s_ (a.extract r (r+1)++N p)]=some [s_ (N (V (a.extract r (r+1)++N p)))]:=S1.eq (by rw [ByteArray.size_append,hes];omega)
   rw [aUy a r p kJ,<- hX] at h1
   exact h1
  have hq:X / V b < 256:=Nat.div_lt_of_lt_mul (by rw [Nat.mul_comm];exact hXl)
  obtain ⟨q,hQ⟩:∃ q,q=X / V b:=⟨_,rfl⟩
  obtain ⟨M,hM⟩:∃ M,M=X % V b:=⟨_,rfl⟩
  have h3:V b*q+M=X:=by rw [hQ,hM];exact Nat.div_add_mod _ _
  have hMl:M < V b:=by rw [hM];exact Nat.mod_lt _ hb0
  have hmq:∀ m,V b*m<=X ↔ m<=q:=λ m=>by rw [hQ,Nat.mul_comm];exact (Nat.le_div_iff_mul_le hb0).symm
  rw [<- hQ] at hq
  clear hQ hM
  have es:((r+1:Nat):Int) - 1=(r:Int):=by omega
  rw [es]
  have p1:=aBh (P:=Tryz.prog) 3 true (r:Int) 1 kJ
  have p2:=aTI (P:=Tryz.prog) aA5 a .i64 .i64 r (r+1) kJ hr
  have p3:=aDd (P:=Tryz.prog) 9 false (a.extract r (r+1)) (N p) kJ
  have find:=aQg a b hb e2 e3 e4 e5 e6 e7 (s_ (N p)) (b_ true) (i_ ((r+1:Nat):Int)) (s_ (a.extract r (r+1))) (s_ (a.extract r (r+1)++N p)) quot X r q M kJ hq hmq kJ kJ kJ [s_ (N (V a / V b)),s_ (N (V a % V b)),b_ true] ?_ 255 0 255 kJ kJ kJ kJ
  ·exact rT kJ (aFb 3 true .i64 (r:Int) 0) (rp p1 (rp p2 (rp p3 (rc aAN c1 (rl find)))))
  refine ih (quot.set r (q:Int)) M kJ (by rw [List.length_set,hl]) (aBk hd _ kJ kJ) hMl ?_
  rw [aEC (bytesOf a) r (by rw [bytesOf_length];omega),val,aHa _ _ _ kJ,val,hv]
  have h2:(X:Int)=rd (bytesOf a) r+256*p:=by omega
  have h4:((V b*q+M:Nat):Int)=X:=by rw [h3]
  rw [Int.natCast_add,Int.natCast_mul] at h4
  clear h3 hmq ih hXl hXs hMl p1 p2 p3 c1
  generalize val 256 (quot.drop (r+1))=Z
  generalize (V b:Int)=D at *
  generalize rd (bytesOf a) r=x at *
  generalize (q:Int)=q at *
  generalize (M:Int)=M at *
  generalize (p:Int)=p at *
  generalize (X:Int)=X at *
  grind
theorem aLp {x:Nat}:N x=(⟨#[]⟩:ByteArray) ↔ x=0:=by rw [<- aCn,aLn]
theorem aSv:Sx.Good Tryz.prog X.G 130 ⟨[.one,.one],.tup [.one,.one,.one]⟩ aCx:=aAe okR6 (λ _ _=>X.G_below) 400 kK (by kernel_rfl:_=some aDa) λ ds rs h=>by
 obtain ⟨a,b,rfl,ha,hb,rfl⟩:=S2.inv h
 have c1:aAN [s_ b]=some [s_ (N (V b))]:=S1.eq kJ
 unfold aC5
 by_cases h:V b=0
 ·rw [if_pos h]
  exact rc aAN c1 (rT (aLp.2 h) (aC3 9 true (N (V b)) ⟨#[]⟩) rr)
 ·rw [if_neg h]
  have p3:=aGz (P:=Tryz.prog) (λ x=>.int .u8 x) 1 a.size kJ kJ .i64 .i64
  have lp:=aQh a b ha hb kJ (s_ (N (V b))) (b_ false) (i_ a.size) (Bl (List.replicate a.size 0)) (i_ a.size) (i_ ((a.size:Int) - 1)) a.size _ 0 (Nat.le_refl _) List.length_replicate (aAU kQ _) kJ (by rw [List.drop_eq_nil_of_le (by rw [bytesOf_length];exact Nat.le_refl _),List.drop_eq_nil_of_le (by rw [List.length_replicate];exact Nat.le_refl _)];simp [val])
  rw [aCn] at lp
  exact rc aAN c1 (rF (λ e=>h (aLp.1 e)) (aC3 9 true (N (V b)) ⟨#[]⟩) (rp (aAu aA5 a) (rp p3 (rp (aAu aA5 a) (rp (aEP 3 true (a.size:Int) 1 kJ) (rl lp))))))
def tbR7:Tb:=(130,aCx)::aM8
theorem okR7:TbOk Tryz.prog X.G tbR7:=.cons kK aSv okR6
theorem aQi (e0 e1 e2 e3:D) (n:Nat):∀ (x y:Nat),y=n->(N x).size<=20000->(N y).size<=20000->Rn Tryz.prog (aBp tbR7) aCw [aCw] [e0,e1,e2,e3,s_ (N x),s_ (N y)] [s_ (N (Nat.gcd x y))]:=by
 induction n using Nat.strongRecOn with
 | _ n ih =>
  intro x y hn hx hy
  by_cases h:y=0
  ·subst h
   rw [Nat.gcd_zero_right]
   exact rF (not_not_intro (aLp.2 rfl)) (aLz 9 true (N 0) ⟨#[]⟩) rr
  ·have h1:aCx [s_ (N x),s_ (N y)]=some [s_ (aC5 x y).1,s_ (aC5 x y).2.1,b_ (aC5 x y).2.2]:=S2.eqN hx hy
   unfold aC5 at h1
   rw [if_neg h] at h1
   have hlt:x % y < y:=Nat.mod_lt _ kJ
   have next:=ih (x % y) kJ y (x % y) rfl hy (Nat.le_trans ((aAH _ (N y).size).2 (Nat.lt_trans hlt ((aAH y _).1 (Nat.le_refl _)))) hy)
   have hg:Nat.gcd y (x % y)=Nat.gcd x y:=by rw [Nat.gcd_comm y (x % y),<- Nat.gcd_rec,Nat.gcd_comm]
   rw [hg] at next
   exact rT (mt aLp.1 h) (aLz 9 true (N y) ⟨#[]⟩) (rc aCx h1 (ra next))
theorem aUT:Sx.Good Tryz.prog X.G 129 ⟨[.one,.one],.v1 .one⟩ aA6:=aAe okR7 (λ _ _=>X.G_below) 400 kK (by kernel_rfl:_=some aDb) λ ds rs h=>by
 obtain ⟨a,b,rfl,ha,hb,rfl⟩:=S2.inv h
 have c1:aAN [s_ a]=some [s_ (N (V a))]:=S1.eq kJ
 have c2:aAN [s_ b]=some [s_ (N (V b))]:=S1.eq kJ
 exact rc aAN c1 (rc aAN c2 (rl (aQi (s_ a) (s_ b) (s_ (N (V a))) (s_ (N (V b))) _ (V a) (V b) rfl (aC6 ha) (aC6 hb))))
def tbR:Tb:=[(95,aDV),(155,aGE),(144,aFI),(97,aDA),(145,aFJ),(130,aCx),(129,aA6),(111,F_from)]
theorem okR:TbOk Tryz.prog X.G tbR:=.cons kK (aFL aM6 (S1.weak kQ)) <| .cons kK (aFL aSs (S2.weak kQ)) <| .cons kK aSt <| .cons kK aOG <| .cons kK (aFL aSu (S2.weak kQ)) <| .cons kK aSv <| .cons kK aUT <| .cons kK r_of <| trivial
end Go.Proofs.YtjefbecmeobegaaGreatDoor.Sp
