import Derived.Test.YtjefbecmeobegaaGreatDoorSpL
import Derived.Test.YtjefbecmeobegaaGreatDoorTr1
import Derived.Test.YtjefbecmeobegaaGreatDoorNatE
namespace Go.Proofs.YtjefbecmeobegaaGreatDoor.Sp
open Go Go.RowKit YtjefbecmeobegaaGreatDoorW.PrintWords Sx NatA NatB NatC NatD NatE NatI NatJ
def aA3:Fct:=S1 100000 fun x=>[D.v (Value.string (N x))]
def aE1:Fct:=S2 100000 fun x y=>[D.v (Value.int .i64 (aBl x y))]
def aH3:Fct:=S2 50000 fun x y=>[D.v (Value.string ((aDn x y).1)),D.v (Value.bool ((aDn x y).2))]
theorem aF3 {G:World→Prop} {f:FuncId} {ct:Ct} {F F':Fct} (h:Sx.Good Tryz.prog G f ct F) (hw:∀ ds rs,F' ds=some rs→F ds=some rs):Sx.Good Tryz.prog G f ct F':=fun ds rs e=>h ds rs (hw ds rs e)
theorem S1.weak {l l':Nat} {g:Nat→List D} (hl:l≤l') (ds rs:List D) (h:S1 l g ds=some rs):S1 l' g ds=some rs:=by
 obtain ⟨a,rfl,ha,rfl⟩:=S1.inv h
 exact S1.eq (Nat.le_trans ha hl)
theorem S2.weak {l l':Nat} {g:Nat→Nat→List D} (hl:l≤l') (ds rs:List D) (h:S2 l g ds=some rs):S2 l' g ds=some rs:=by
 obtain ⟨a,b,rfl,ha,hb,rfl⟩:=S2.inv h
 exact S2.eq (Nat.le_trans ha hl) (Nat.le_trans hb hl)
theorem aJe {C:Cf} (a:ByteArray) (ha:a.size≤1000000) (e:D):∀ n:Nat,n≤a.size→∃ m,aDl.run Tryz.prog C m [aDl] [s_ a,e,i_ n]=some [s_ (N (V (a.extract 0 n)))]
 | 0,h=>by
  have hz:(a.extract 0 0).size=0:=size_extract a 0 h
  have:N (V (a.extract 0 0))=a.extract 0 0:=N_V (.inl hz)
  rw [this]
  exact ⟨0,aET (by omega) rfl (aAC _ _ _ _ _) rfl (aAe rfl (aKb aAt a .i64 0 h) (aAc rfl))⟩
 | n+1,h=>by
  have hi:n < a.size:=by omega
  have es:((n+1:Nat):Int) - 1=(n:Int):=by omega
  have p1:=aDD (P:=Tryz.prog) 3 true ((n+1:Nat):Int) 1 (by omega)
  rw [es] at p1
  by_cases hb:rd (bytesOf a) n=0
  ·obtain ⟨m,hm⟩:=aJe a ha e n (by omega)
   have hv:V (a.extract 0 (n+1))=V (a.extract 0 n):=by
    have:=aKo a n hi
    rw [aE0,hb,Int.mul_zero] at this
    omega
   rw [hv]
   exact ⟨m+1,aE2 (by omega) rfl (aAC _ _ _ _ _) rfl (aAe rfl p1 (aAe rfl (aGc aAt a n hi .i64) (aE2 hb rfl (aBc _ _ _ _ _) rfl (aAe rfl p1 (aIj rfl rfl hm)))))⟩
  ·rw [aKp a n hi (by rw [aE0];exact hb)]
   exact ⟨0,aE2 (by omega) rfl (aAC _ _ _ _ _) rfl (aAe rfl p1 (aAe rfl (aGc aAt a n hi .i64) (aET hb rfl (aBc _ _ _ _ _) rfl (aAe rfl (aKb aAt a .i64 (n+1) h) (aAc rfl)))))⟩
theorem aLX:Sx.Good Tryz.prog X.G 95 ⟨[.one],.v1 .one⟩ aA3:=aAd (tb:=[]) trivial (fun _ _=>X.G_below) 400 (by kernel_rfl) (by kernel_rfl:_=some aC5) fun ds rs h=>by
 obtain ⟨a,rfl,ha,rfl⟩:=S1.inv h
 obtain ⟨m,hm⟩:=aJe (C:=aBa []) a (by omega) (i_ a.size) a.size (Nat.le_refl _)
 rw [extract_all] at hm
 exact ⟨m,aAe rfl (aAp aAt a) (aJq rfl hm)⟩
def tbR1:Tb:=[(95,aA3)]
theorem okR1:TbOk Tryz.prog X.G tbR1:=.cons (by kernel_rfl) aLX trivial
def F_at:Fct
 | [.v (.string a),.v (.int .i64 i)]=>if 0≤i then some [i_ (rd (bytesOf a) i)] else none
 | _=>none
theorem F_at.eq (a:ByteArray) (i:Nat):F_at [s_ a,i_ i]=some [i_ (rd (bytesOf a) i)]:=by
 show (if 0≤(i:Int) then _ else none)=_
 exact if_pos (Int.natCast_nonneg _)
theorem r_at:Sx.Good Tryz.prog X.G 142 ⟨[.one,.one],.v1 .one⟩ F_at:=aAd (tb:=[]) trivial (fun _ _=>X.G_below) 400 (by kernel_rfl) (by kernel_rfl:_=some aDc) fun ds rs h=>by
 unfold F_at at h
 split at h
 ·rename_i a i
  split at h
  ·rename_i hi
   obtain ⟨i,rfl⟩:=Int.eq_ofNat_of_zero_le hi
   obtain rfl:=Option.some.inj h
   by_cases hl:i < a.size
   ·exact ⟨0,aAe rfl (aAp aAt a) (aE2 (by omega) rfl (aAg _ _ _ _ _) rfl (aAe rfl (aGc aAt a i hl .i64) (aAe rfl (aS9 aDV .u8 _ aBX (aA2 (aB7 a) (by rw [bytesOf_length];exact hl))) (aAc rfl))))⟩
   ·rw [aEg (by rw [bytesOf_length];omega)]
    exact ⟨0,aAe rfl (aAp aAt a) (aET (by omega) rfl (aAg _ _ _ _ _) rfl (aAc rfl))⟩
  ·cases h
 ·cases h
def aG7:Tb:=(142,F_at)::tbR1
theorem aQl:TbOk Tryz.prog X.G aG7:=.cons (by kernel_rfl) r_at okR1
theorem aKv {C:Cf} (x y:Nat) (hs:(N x).size=(N y).size) (hx:(N x).size≤1000000) (e0 e1 e4 e5 e6 e7 e8 e9 e10 e11:D):∀ r:Nat,r≤(N x).size→(nb x).drop r=(nb y).drop r→∃ m,aDs.run Tryz.prog C m [aDs] [e0,e1,s_ (N x),s_ (N y),e4,e5,e6,e7,e8,e9,e10,e11,i_ ((r:Int) - 1)]=some [i_ (aBl x y)]
 | 0,_,hd=>by
  rw [List.drop_zero,List.drop_zero] at hd
  have:x=y:=by
   have:=congrArg (val 256) hd
   rw [aBu,aBu] at this
   exact Int.ofNat_inj.1 this
  unfold aBl
  rw [if_neg (by omega),if_pos this]
  exact ⟨0,aET (by omega) rfl (aD3 _ _ _ _ _) rfl (aAc rfl)⟩
 | r+1,hr,hd=>by
  have lx:(nb x).length=(N x).size:=by rw [← bytesOf_length,aAH]
  have ly:(nb y).length=(N x).size:=by rw [hs,← bytesOf_length,aAH]
  have es:((r+1:Nat):Int) - 1=(r:Int):=by omega
  rw [es]
  have px:=aGc (P:=Tryz.prog) aAt (N x) r (by omega) .i64
  have py:=aGc (P:=Tryz.prog) aAt (N y) r (by omega) .i64
  rw [aAH] at px py
  by_cases hl:rd (nb x) (r:Int) < rd (nb y) (r:Int)
  ·have:=aF0 (B:=256) (by decide) (aBF x) (aBF y) (by omega) r (by omega) hd hl
   rw [aBu,aBu] at this
   unfold aBl
   rw [if_pos (by omega)]
   exact ⟨0,aE2 (by omega) rfl (aD3 _ _ _ _ _) rfl (aAe rfl px (aAe rfl py (aE2 hl rfl (aAg _ _ _ _ _) rfl (aAc rfl))))⟩
  ·by_cases he:rd (nb y) (r:Int) < rd (nb x) (r:Int)
   ·have:=aF0 (B:=256) (by decide) (aBF y) (aBF x) (by omega) r (by omega) hd.symm he
    rw [aBu,aBu] at this
    unfold aBl
    rw [if_neg (by omega),if_neg (by omega)]
    exact ⟨0,aE2 (by omega) rfl (aD3 _ _ _ _ _) rfl (aAe rfl px (aAe rfl py (aET hl rfl (aAg _ _ _ _ _) rfl (aAe rfl px (aAe rfl py (aE2 he rfl (aAC _ _ _ _ _) rfl (aAc rfl)))))))⟩
   ·obtain ⟨m,hm⟩:=aKv x y hs hx e0 e1 e4 e5 e6 e7 e8 e9 e10 e11 r (by omega) (aMV (by omega) (by omega) hd (by omega))
    exact ⟨m+1,aE2 (by omega) rfl (aD3 _ _ _ _ _) rfl (aAe rfl px (aAe rfl py (aET hl rfl (aAg _ _ _ _ _) rfl (aAe rfl px (aAe rfl py (aET he rfl (aAC _ _ _ _ _) rfl (aAe rfl (aDD _ _ _ _ (by omega)) (aIj rfl rfl hm))))))))⟩
theorem aRk:Sx.Good Tryz.prog X.G 155 ⟨[.one,.one],.v1 .one⟩ aE1:=aAd aQl (fun _ _=>X.G_below) 400 (by kernel_rfl) (by kernel_rfl:_=some aCK) fun ds rs h=>by
 obtain ⟨a,b,rfl,ha,hb,rfl⟩:=S2.inv h
 have sx:=aBO ha
 have sy:=aBO hb
 have n1:aA3 [s_ a]=some [s_ (N (V a))]:=S1.eq (by omega)
 have n2:aA3 [s_ b]=some [s_ (N (V b))]:=S1.eq (by omega)
 generalize V a=x at *
 generalize V b=y at *
 have l1:=aAp (P:=Tryz.prog) aAt (N x)
 have l2:=aAp (P:=Tryz.prog) aAt (N y)
 by_cases h1:(N x).size < (N y).size
 ·have:=aEF h1
  unfold aBl
  rw [if_pos this]
  exact ⟨0,aAb aA3 rfl rfl n1 rfl (aAb aA3 rfl rfl n2 rfl (aAe rfl l1 (aAe rfl l2 (aE2 (by omega) rfl (aAg _ _ _ _ _) rfl (aAc rfl)))))⟩
 ·by_cases h2:(N y).size < (N x).size
  ·have:=aEF h2
   unfold aBl
   rw [if_neg (by omega),if_neg (by omega)]
   exact ⟨0,aAb aA3 rfl rfl n1 rfl (aAb aA3 rfl rfl n2 rfl (aAe rfl l1 (aAe rfl l2 (aET (by omega) rfl (aAg _ _ _ _ _) rfl (aAe rfl l1 (aAe rfl l2 (aE2 (by omega) rfl (aAC _ _ _ _ _) rfl (aAc rfl))))))))⟩
  ·have lx:(nb x).length=(N x).size:=by rw [← bytesOf_length,aAH]
   have ly:(nb y).length=(N y).size:=by rw [← bytesOf_length,aAH]
   obtain ⟨m,hm⟩:=aKv (C:=aBa aG7) x y (by omega) (by omega) (s_ a) (s_ b) (i_ (N x).size) (i_ (N y).size) (b_ false) (i_ (N x).size) (i_ (N y).size) (b_ false) (i_ (N x).size) (i_ (((N x).size:Int) - 1)) (N x).size (Nat.le_refl _) (by rw [List.drop_eq_nil_of_le (by omega),List.drop_eq_nil_of_le (by omega)])
   exact ⟨m,aAb aA3 rfl rfl n1 rfl (aAb aA3 rfl rfl n2 rfl (aAe rfl l1 (aAe rfl l2 (aET (by omega) rfl (aAg _ _ _ _ _) rfl (aAe rfl l1 (aAe rfl l2 (aET (by omega) rfl (aAC _ _ _ _ _) rfl (aAe rfl l1 (aAe rfl (aDD _ _ _ _ (by omega)) (aJq rfl hm))))))))))⟩
def aNZ:Tb:=(155,aE1)::aG7
theorem okR3:TbOk Tryz.prog X.G aNZ:=.cons (by kernel_rfl) aRk aQl
theorem aG8 (a:ByteArray) (i:Nat):0≤rd (bytesOf a) (i:Int)∧rd (bytesOf a) (i:Int) < 256:=aEO (by decide) (aB7 a) i
theorem aIw {B:Int} {l:List Int} {x:Int} (h:Dig B l) (h0:0≤x∧x < B):Dig B (l++[x]):=aDM.2 ⟨h,aAV.2 ⟨h0,aCx _⟩⟩
theorem aIx (B:Int) (l:List Int) (x:Int):val B (l++[x])=val B l+B ^ l.length*x:=by rw [val_append,aEG]
theorem aLY (a:ByteArray):(V a:Int) < 256 ^ a.size:=by
 have:=aB0 (B:=256) (by decide) (aB7 a)
 rw [← aCt,bytesOf_length] at this
 exact this
theorem aG9 {l:List Int} (hd:Dig 256 l) (hl:l.length≤100000) {x:Nat} (hx:val 256 l=x):aA3 [s_ (strOfNums l)]=some [s_ (N x)]:=by
 have:V (strOfNums l)=x:=by
  have:=aKJ hd
  omega
 rw [← this]
 exact S1.eq (by rw [aFb];exact hl)
theorem aPo (a b:ByteArray) (ha:a.size≤20000) (hb:b.size≤20000) (e:D) (r:Nat):∀ (i:Nat) (l:List Int) (c:Int),i+r=20001→l.length=i→Dig 256 l→(0≤c∧c≤1) →
  val 256 l+256 ^ i*c=val 256 ((bytesOf a).take i)+val 256 ((bytesOf b).take i)→Rn Tryz.prog (aBa aNZ) aBm [aBm] [s_ a,s_ b,e,i_ c,i_ i,Bl l] [s_ (N (V a+V b))]:=by
 have fin:∀ (i:Nat) (l:List Int),l.length=i→i≤20001→Dig 256 l→¬ i < a.size→¬ i < b.size→val 256 l=val 256 ((bytesOf a).take i)+val 256 ((bytesOf b).take i)→Rn Tryz.prog (aBa aNZ) aBm [aBm] [s_ a,s_ b,e,i_ 0,i_ i,Bl l] [s_ (N (V a+V b))]:=fun i l hl hi hd h1 h2 hv=>by
  rw [List.take_of_length_le (by rw [bytesOf_length];omega),List.take_of_length_le (by rw [bytesOf_length];omega),← aCt,← aCt] at hv
  exact rp (aAp aAt a) (rF (by omega) (aAg 3 false .i64 i a.size) (rp (aAp aAt b) (rF (by omega) (aAg 3 false .i64 i b.size) (rF (by decide) (aAC 3 true .i64 0 0) (rp (aFD l) (rc aA3 (aG9 hd (by omega) (x:=V a+V b) (by omega)) rr))))))
 induction r with
 | zero =>
  intro i l c hi hl hd hc hv
  have hc0:c=0:=by
   rcases (show c=0∨c=1 by omega) with h | h
   ·exact h
   ·rw [List.take_of_length_le (by rw [bytesOf_length];omega),List.take_of_length_le (by rw [bytesOf_length];omega),← aCt,← aCt,h,Int.mul_one] at hv
    have h0:=aAu (by decide) hd
    have h1:=aDN a
    have h2:=aDN b
    generalize hM:20000=M at *
    have h3:256 ^ a.size≤256 ^ M:=Nat.pow_le_pow_right (by decide) ha
    have h4:256 ^ b.size≤256 ^ M:=Nat.pow_le_pow_right (by decide) hb
    have h5:(256:Int) ^ i=((256 ^ M:Nat):Int)*256:=by rw [show i=M+1 by omega,Int.pow_succ,Int.natCast_pow];rfl
    omega
  subst hc0
  exact fin i l hl (by omega) hd (by omega) (by omega) (by rw [Int.mul_zero] at hv;omega)
 | succ r ih =>
  intro i l c hi hl hd hc hv
  by_cases hgo:i < a.size∨i < b.size∨c > 0
  ·have h1:=aG8 a i
   have h2:=aG8 b i
   have e1:=aAi 256 (bytesOf a) i
   have e2:=aAi 256 (bytesOf b) i
   obtain ⟨n,hn⟩:∃ n,n=c+(rd (bytesOf a) i+rd (bytesOf b) i):=⟨_,rfl⟩
   have hdm:256*(n / 256)+n % 256=n:=Int.mul_ediv_add_emod _ _
   have next:=ih (i+1) (l++[n % 256]) (n / 256) (by omega) (by simp [hl]) (aIw hd (by omega)) (by omega) (by
    rw [aIx,hl,e1,e2,Int.pow_succ]
    grind)
   have c1:=F_at.eq a i
   have c2:=F_at.eq b i
   have p1:=aAX (P:=Tryz.prog) 3 false (rd (bytesOf a) i) (rd (bytesOf b) i) (by omega)
   have p2:=aAX (P:=Tryz.prog) 3 false c (rd (bytesOf a) i+rd (bytesOf b) i) (by omega)
   rw [← hn] at p2
   have p3:=aI3 (P:=Tryz.prog) 3 true .i64 n 256 (by omega) (by decide)
   have p4:=aEq (P:=Tryz.prog) aBX .i64 (n % 256) aDV (by omega)
   have p5:=aDE (P:=Tryz.prog) l (n % 256) (by omega)
   have p6:=aI2 (P:=Tryz.prog) 3 true n 256 (by omega) (by decide)
   have p7:=aAX (P:=Tryz.prog) 3 true (i:Int) 1 (by omega)
   by_cases hx:i < a.size
   ·exact rp (aAp aAt a) (rT (by omega) (aAg 3 false .i64 i a.size) (rc F_at c1 (rc F_at c2 (rp p1 (rp p2 (rp p3 (rp p4 (rp p5 (rp p6 (rp p7 (ra next)))))))))))
   ·by_cases hy:i < b.size
    ·exact rp (aAp aAt a) (rF (by omega) (aAg 3 false .i64 i a.size) (rp (aAp aAt b) (rT (by omega) (aAg 3 false .i64 i b.size) (rc F_at c1 (rc F_at c2 (rp p1 (rp p2 (rp p3 (rp p4 (rp p5 (rp p6 (rp p7 (ra next)))))))))))))
    ·exact rp (aAp aAt a) (rF (by omega) (aAg 3 false .i64 i a.size) (rp (aAp aAt b) (rF (by omega) (aAg 3 false .i64 i b.size) (rT (by omega) (aAC 3 true .i64 c 0) (rc F_at c1 (rc F_at c2 (rp p1 (rp p2 (rp p3 (rp p4 (rp p5 (rp p6 (rp p7 (ra next))))))))))))))
  ·obtain rfl:c=0:=by omega
   exact fin i l hl (by omega) hd (by omega) (by omega) (by rw [Int.mul_zero] at hv;omega)
theorem aRl:Sx.Good Tryz.prog X.G 144 ⟨[.one,.one],.v1 .one⟩ aFx:=aAd okR3 (fun _ _=>X.G_below) 400 (by kernel_rfl) (by kernel_rfl:_=some aCL) fun ds rs h=>by
 obtain ⟨a,b,rfl,ha,hb,rfl⟩:=S2.inv h
 exact rp aI4 (rl (aPo a b ha hb (Bl []) 20001 0 [] 0 rfl rfl (aCx _) (by decide) (by simp [val])))
def aQm:Tb:=(144,aFx)::aNZ
theorem okR4:TbOk Tryz.prog X.G aQm:=.cons (by kernel_rfl) aRl okR3
theorem aPp (a b:ByteArray) (ha:a.size≤50000) (hge:V b≤V a) (e2 e3 e4:D) (r:Nat):∀ (i:Nat) (l:List Int) (c:Int),i+r=a.size→l.length=i→Dig 256 l→(0≤c∧c≤1) →
  val 256 l+val 256 ((bytesOf b).take i)=val 256 ((bytesOf a).take i)+256 ^ i*c→Rn Tryz.prog (aBa aQm) aCo [aCo] [s_ a,s_ b,e2,e3,e4,i_ c,i_ i,Bl l] [s_ (N (V a - V b)),b_ true]:=by
 induction r with
 | zero =>
  intro i l c hi hl hd hc hv
  have hva:=aCt a
  have hvb:=aCt b
  rw [List.take_of_length_le (l:=bytesOf a) (by rw [bytesOf_length];omega),← hva] at hv
  have hb2:val 256 ((bytesOf b).take i)=(V b:Int):=by
   by_cases hbl:b.size≤i
   ·rw [List.take_of_length_le (by rw [bytesOf_length];omega),hvb]
   ·have h1:=aBL 256 (bytesOf b) i (by rw [bytesOf_length];omega)
    have h2:=aAu (by decide) (aA7 (aB7 b) i)
    have h3:=aAu (by decide) (aCm (aB7 b) i)
    have h4:(0:Int) < 256 ^ i:=Int.pow_pos (by decide)
    have h5:(V a:Int) < 256 ^ i:=by rw [show i=a.size by omega];exact aLY a
    have h6:val 256 ((bytesOf b).drop i)=0:=by
     rcases (show val 256 ((bytesOf b).drop i)=0∨1≤val 256 ((bytesOf b).drop i) by omega) with h | h
     ·exact h
     ·have:=Int.mul_le_mul_of_nonneg_left h (Int.le_of_lt h4)
      rw [Int.mul_one] at this
      omega
    rw [h6,Int.mul_zero] at h1
    omega
  rw [hb2] at hv
  have hl0:=aB0 (by decide) hd
  rw [hl] at hl0
  have hc0:c=0:=by
   rcases (show c=0∨c=1 by omega) with h | h
   ·exact h
   ·rw [h,Int.mul_one] at hv
    omega
  rw [hc0,Int.mul_zero] at hv
  exact rp (aAp aAt a) (rF (by omega) (aAg 3 false .i64 i a.size) (rp (aFD l) (rc aA3 (aG9 hd (by omega) (x:=V a - V b) (by omega)) rr)))
 | succ r ih =>
  intro i l c hi hl hd hc hv
  have h1:=aG8 a i
  have h2:=aG8 b i
  have e1:=aAi 256 (bytesOf a) i
  have e2':=aAi 256 (bytesOf b) i
  obtain ⟨n,hn⟩:∃ n,n=rd (bytesOf a) i - rd (bytesOf b) i - c:=⟨_,rfl⟩
  have c1:=F_at.eq a i
  have c2:=F_at.eq b i
  have p1:=aDD (P:=Tryz.prog) 3 false (rd (bytesOf a) i) (rd (bytesOf b) i) (by omega)
  have p2:=aDD (P:=Tryz.prog) 3 false (rd (bytesOf a) i - rd (bytesOf b) i) c (by omega)
  rw [← hn] at p2
  have p7:=aAX (P:=Tryz.prog) 3 true (i:Int) 1 (by omega)
  refine rp (aAp aAt a) (rT (by omega) (aAg 3 false .i64 i a.size) (rc F_at c1 (rc F_at c2 (rp p1 (rp p2 ?_)))))
  by_cases hneg:n < 0
  ·have next:=ih (i+1) (l++[n+256]) 1 (by omega) (by simp [hl]) (aIw hd (by omega)) (by omega) (by
    rw [aIx,hl,e1,e2',Int.pow_succ]
    grind)
   exact rT hneg (aAg 3 true .i64 n 0) (rp (aAX 3 true n 256 (by omega)) (rp (aEq aBX .i64 (n+256) aDV (by omega)) (rp (aDE l (n+256) (by omega)) (rp p7 (ra next)))))
  ·have next:=ih (i+1) (l++[n]) 0 (by omega) (by simp [hl]) (aIw hd (by omega)) (by omega) (by
    rw [aIx,hl,e1,e2']
    grind)
   exact rF hneg (aAg 3 true .i64 n 0) (rp (aEq aBX .i64 n aDV (by omega)) (rp (aDE l n (by omega)) (rp p7 (ra next))))
theorem aRm:Sx.Good Tryz.prog X.G 145 ⟨[.one,.one],.tup [.one,.one]⟩ aH3:=aAd okR4 (fun _ _=>X.G_below) 400 (by kernel_rfl) (by kernel_rfl:_=some aCN) fun ds rs h=>by
 obtain ⟨a,b,rfl,ha,hb,rfl⟩:=S2.inv h
 have c1:aE1 [s_ a,s_ b]=some [i_ (aBl (V a) (V b))]:=S2.eq (by omega) (by omega)
 unfold aDn
 by_cases h:V a < V b
 ·rw [if_pos h]
  exact rc aE1 c1 (rT (aEh.2 h) (aAg 3 true .i64 (aBl (V a) (V b)) 0) rr)
 ·rw [if_neg h]
  exact rc aE1 c1 (rF (fun e=>h (aEh.1 e)) (aAg 3 true .i64 (aBl (V a) (V b)) 0) (rp aI4 (rl (aPp a b ha (by omega) (i_ (aBl (V a) (V b))) (b_ false) (Bl []) a.size 0 [] 0 (by omega) rfl (aCx _) (by omega) (by simp [val])))))
def tbR5:Tb:=(145,aH3)::aQm
theorem okR5:TbOk Tryz.prog X.G tbR5:=.cons (by kernel_rfl) aRm okR4
theorem aQn {C:Cf} (e0 e1:D):∀ (j m:Nat) (l:List Int),m < 256 ^ j→m < 18446744073709551616→l.length+j≤1000→Rn Tryz.prog C aBs [aBs] [e0,e1,w_ m,Bl l] [s_ (strOfNums (l++nb m))]:=by
 have fin:∀ l:List Int,Rn Tryz.prog C aBs [aBs] [e0,e1,w_ 0,Bl l] [s_ (strOfNums (l++nb 0))]:=fun l=>by
  rw [aDA,List.append_nil]
  exact rF (by decide) (aAC 116 true .u64 0 0) (rp (aFD l) rr)
 intro j
 induction j with
 | zero =>
  intro m l hm _ _
  obtain rfl:m=0:=by rw [Nat.pow_zero] at hm;omega
  exact fin l
 | succ j ih =>
  intro m l hm hlt hl
  by_cases h0:m=0
  ·subst h0
   exact fin l
  ·rw [aFO h0]
   rw [Nat.pow_succ] at hm
   have next:=ih (m / 256) (l++[((m % 256:Nat):Int)]) (by omega) (by omega) (by rw [List.length_append,List.length_singleton];omega)
   rw [List.append_assoc] at next
   have p3:=aI3 (P:=Tryz.prog) 116 true .u64 (m:Int) 256 (by omega) (by decide)
   have p6:=aT6 (P:=Tryz.prog) 116 true (m:Int) 256 (by omega) (by decide)
   rw [show (m:Int) % 256=((m % 256:Nat):Int) by omega] at p3
   rw [show (m:Int) / 256=((m / 256:Nat):Int) by omega] at p6
   exact rT (by omega) (aAC 116 true .u64 m 0) (rp p3 (rp (aEq aBX .u64 ((m % 256:Nat):Int) aBi (by omega)) (rp (aDE l ((m % 256:Nat):Int) (by omega)) (rp p6 (ra next)))))
theorem r_of:Sx.Good Tryz.prog X.G 111 ⟨[.one],.v1 .one⟩ F_from:=aAd okR5 (fun _ _=>X.G_below) 400 (by kernel_rfl) (by kernel_rfl:_=some aDb) fun ds rs h=>by
 obtain ⟨n,rfl,hn,rfl⟩:=F_from.inv h
 exact rp aI4 (rl (aQn (w_ n) (Bl []) 8 n [] (by simpa using hn) hn (by decide)))
theorem aQo (a b:ByteArray) (ha:a.size≤20000) (hb:b.size≤20000) (e2 e3 e4 e5 e6 e8 e9 e10:D) (i:Nat) (hi:i < a.size) (R:List D) (T0:Int) (hT:T0+256 ^ i*(rd (bytesOf a) i*V b) < 256 ^ (a.size+b.size+1)) (r:Nat):∀ (j:Nat) (z:List Int) (c:Int),j+r=a.size+b.size+1 - i→z.length=a.size+b.size+1→Dig 256 z→(0≤c∧c < 256) →
  val 256 z+256 ^ (i+j)*c=T0+256 ^ i*(rd (bytesOf a) i*val 256 ((bytesOf b).take j)) →
  (∀ z',z'.length=a.size+b.size+1→Dig 256 z'→val 256 z'=T0+256 ^ i*(rd (bytesOf a) i*V b)→Rn Tryz.prog (aBa aG7) aA4 [aA4] [s_ a,s_ b,e2,e3,e4,e5,e6,i_ ((i+1:Nat):Int),Il z'] R) →
  Rn Tryz.prog (aBa aG7) aBn [aA4,aBn] [s_ a,s_ b,e2,e3,e4,e5,e6,i_ i,e8,e9,e10,i_ c,i_ j,Il z] R:=by
 have hda:=aG8 a i
 have fin:∀ (j:Nat) (z:List Int),z.length=a.size+b.size+1→Dig 256 z→¬ j < b.size→val 256 z=T0+256 ^ i*(rd (bytesOf a) i*val 256 ((bytesOf b).take j)) →
  (∀ z',z'.length=a.size+b.size+1→Dig 256 z'→val 256 z'=T0+256 ^ i*(rd (bytesOf a) i*V b)→Rn Tryz.prog (aBa aG7) aA4 [aA4] [s_ a,s_ b,e2,e3,e4,e5,e6,i_ ((i+1:Nat):Int),Il z'] R)→Rn Tryz.prog (aBa aG7) aBn [aA4,aBn] [s_ a,s_ b,e2,e3,e4,e5,e6,i_ i,e8,e9,e10,i_ 0,i_ j,Il z] R:=fun j z hz hd hj hv K=>by
  have k:=K z hz hd (by rw [hv,List.take_of_length_le (by rw [bytesOf_length];omega),aCt])
  exact rp (aAp aAt b) (rF (by omega) (aAg 3 false .i64 j b.size) (rF (by decide) (aAC 3 true .i64 0 0) (rp (aAX 3 true (i:Int) 1 (by omega)) (ra k))))
 induction r with
 | zero =>
  intro j z c hj hz hd hc hv K
  have hc0:c=0:=by
   rcases (show c=0∨1≤c by omega) with h | h
   ·exact h
   ·rw [List.take_of_length_le (l:=bytesOf b) (by rw [bytesOf_length];omega),← aCt] at hv
    have h0:=aAu (by decide) hd
    have h1:(0:Int) < 256 ^ (i+j):=Int.pow_pos (by decide)
    have h2:=Int.mul_le_mul_of_nonneg_left h (Int.le_of_lt h1)
    rw [Int.mul_one,show i+j=a.size+b.size+1 by omega] at h2
    rw [show i+j=a.size+b.size+1 by omega] at hv
    omega
  subst hc0
  exact fin j z hz hd (by omega) (by rw [Int.mul_zero] at hv;omega) K
 | succ r ih =>
  intro j z c hj hz hd hc hv K
  by_cases hgo:j < b.size∨c > 0
  ·have hdb:=aG8 b j
   have hzr:=aA2 hd (i:=i+j) (by omega)
   have hp:0≤rd (bytesOf a) i*rd (bytesOf b) j:=Int.mul_nonneg hda.1 hdb.1
   have hp2:rd (bytesOf a) i*rd (bytesOf b) j≤255*255:=Int.mul_le_mul (by omega) (by omega) hdb.1 (by omega)
   obtain ⟨n,hn⟩:∃ n,n=rd z ((i+j:Nat):Int)+rd (bytesOf a) i*rd (bytesOf b) j+c:=⟨_,rfl⟩
   have hdm:256*(n / 256)+n % 256=n:=Int.mul_ediv_add_emod _ _
   have next:=ih (j+1) (z.set (i+j) (n % 256)) (n / 256) (by omega) (by rw [List.length_set,hz]) (aAY hd _ (by omega) (by omega)) (by omega) (by
    rw [val_put _ _ _ _ (by omega),aAi,show i+(j+1)=i+j+1 by omega,Int.pow_succ]
    have e1:(256:Int) ^ (i+j)=256 ^ i*256 ^ j:=Int.pow_add _ _ _
    grind) K
   have c1:=F_at.eq a i
   have c2:=F_at.eq b j
   have p0:=aAX (P:=Tryz.prog) 3 false (i:Int) (j:Int) (by omega)
   rw [show (i:Int)+j=((i+j:Nat):Int) by omega] at p0
   have q1:=aBr (P:=Tryz.prog) i_ z (i+j) (by omega) .i64
   have q2:=aCu (P:=Tryz.prog) i_ z (i+j) (by omega) .i64
   have p1:=aNk (P:=Tryz.prog) 3 false (rd (bytesOf a) i) (rd (bytesOf b) j) (by omega)
   have p2:=aAX (P:=Tryz.prog) 3 false (rd z ((i+j:Nat):Int)) (rd (bytesOf a) i*rd (bytesOf b) j) (by omega)
   have p3:=aAX (P:=Tryz.prog) 3 false (rd z ((i+j:Nat):Int)+rd (bytesOf a) i*rd (bytesOf b) j) c (by omega)
   rw [← hn] at p3
   have p4:=aI3 (P:=Tryz.prog) 3 true .i64 n 256 (by omega) (by decide)
   have q3:=aDr (P:=Tryz.prog) i_ z (i+j) (by omega) .i64 (n % 256)
   have p5:=aI2 (P:=Tryz.prog) 3 true n 256 (by omega) (by decide)
   have p6:=aAX (P:=Tryz.prog) 3 true (j:Int) 1 (by omega)
   by_cases hj':j < b.size
   ·exact rp (aAp aAt b) (rT (by omega) (aAg 3 false .i64 j b.size) (rp p0 (rp q1 (rp q2 (rc F_at c1 (rc F_at c2 (rp p1 (rp p2 (rp p3 (rp p0 (rp p4 (rp q1 (rp q3 (rp p5 (rp p6 (ra next))))))))))))))))
   ·exact rp (aAp aAt b) (rF (by omega) (aAg 3 false .i64 j b.size) (rT (by omega) (aAC 3 true .i64 c 0) (rp p0 (rp q1 (rp q2 (rc F_at c1 (rc F_at c2 (rp p1 (rp p2 (rp p3 (rp p0 (rp p4 (rp q1 (rp q3 (rp p5 (rp p6 (ra next)))))))))))))))))
  ·obtain rfl:c=0:=by omega
   exact fin j z hz hd (by omega) (by rw [Int.mul_zero] at hv;omega) K
theorem aQp (z:List Int) (hd:Dig 256 z) (hs:z.length≤100000) (x:Nat) (hx:val 256 z=x) (e0 e1 e2 e3 e4 e5 e6 e7 e9 e10 e11:D) (r:Nat):∀ (i:Nat) (l:List Int),i+r=z.length→l=z.take i→Rn Tryz.prog (aBa aG7) aCn [aCn] [e0,e1,e2,e3,e4,e5,e6,e7,Il z,e9,e10,e11,i_ z.length,i_ i,Bl l] [s_ (N x)]:=by
 induction r with
 | zero =>
  intro i l hi hl
  rw [List.take_of_length_le (by omega)] at hl
  subst hl
  exact rF (by omega) (aAg 3 false .i64 i l.length) (rp (aFD l) (rc aA3 (aG9 hd hs hx) rr))
 | succ r ih =>
  intro i l hi hl
  have hr:=aA2 hd (i:=i) (by omega)
  have hll:l.length=i:=by rw [hl,List.length_take];omega
  have next:=ih (i+1) (l++[rd z i]) (by omega) (by rw [hl,aKq z i (by omega)])
  exact rT (by omega) (aAg 3 false .i64 i z.length) (rp (aBr i_ z i (by omega) .i64) (rp (aCu i_ z i (by omega) .i64) (rp (aEq aBX .i64 (rd z i) aDV hr) (rp (aDE l (rd z i) (by omega)) (rp (aAX 3 true (i:Int) 1 (by omega)) (ra next))))))
theorem aPq (a b:ByteArray) (ha:a.size≤20000) (hb:b.size≤20000) (e2 e3 e4 e5 e6:D) (r:Nat):∀ (i:Nat) (z:List Int),i+r=a.size→z.length=a.size+b.size+1→Dig 256 z→val 256 z=val 256 ((bytesOf a).take i)*V b→Rn Tryz.prog (aBa aG7) aA4 [aA4] [s_ a,s_ b,e2,e3,e4,e5,e6,i_ i,Il z] [s_ (N (V a*V b))]:=by
 induction r with
 | zero =>
  intro i z hi hz hd hv
  rw [List.take_of_length_le (by rw [bytesOf_length];omega),← aCt,← Int.natCast_mul] at hv
  have:=aQp z hd (by omega) (V a*V b) hv (s_ a) (s_ b) e2 e3 e4 e5 e6 (i_ i) (i_ a.size) (b_ false) (Bl []) z.length 0 [] (by omega) rfl
  exact rp (aAp aAt a) (rF (by omega) (aAg 3 false .i64 i a.size) (rp aI4 (rp (aR4 z) (rl this))))
 | succ r ih =>
  intro i z hi hz hd hv
  have hda:=aG8 a i
  have e1:=aAi 256 (bytesOf a) i
  have row:=aQo a b ha hb e2 e3 e4 e5 e6 (Il z) (i_ a.size) (b_ true) i (by omega) [s_ (N (V a*V b))] (val 256 z) ?_ (a.size+b.size+1 - i) 0 z 0 (by omega) hz hd (by omega) (by simp [val]) (fun z' hz' hd' hv'=>ih (i+1) z' (by omega) hz' hd' (by rw [hv',hv,e1,Int.add_mul,Int.mul_assoc]))
  ·exact rp (aAp aAt a) (rT (by omega) (aAg 3 false .i64 i a.size) (rl row))
  have h1:val 256 z+256 ^ i*(rd (bytesOf a) i*V b)=val 256 ((bytesOf a).take (i+1))*V b:=by rw [hv,e1,Int.add_mul,Int.mul_assoc]
  rw [h1]
  have h2:=aB0 (by decide) (aA7 (aB7 a) (i+1))
  rw [List.length_take,bytesOf_length,Nat.min_eq_left (by omega)] at h2
  have h3':=aLY b
  have h4:=aAu (by decide) (aA7 (aB7 a) (i+1))
  have h5:val 256 ((bytesOf a).take (i+1))*V b≤256 ^ (i+1)*256 ^ b.size:=Int.mul_le_mul (Int.le_of_lt h2) (Int.le_of_lt h3') (by omega) (Int.le_of_lt (Int.pow_pos (by decide)))
  rw [← Int.pow_add] at h5
  have h6:(256:Int) ^ (i+1+b.size) < 256 ^ (a.size+b.size+1):=by
   have:=Nat.pow_lt_pow_right (show 1 < 256 by decide) (show i+1+b.size < a.size+b.size+1 by omega)
   have e:∀ m:Nat,(256:Int) ^ m=((256 ^ m:Nat):Int):=fun m=>by rw [Int.natCast_pow];rfl
   rw [e,e]
   exact Int.ofNat_lt.2 this
  exact Int.lt_of_le_of_lt h5 h6
theorem aOa:Sx.Good Tryz.prog X.G 97 ⟨[.one,.one],.v1 .one⟩ aDx:=aAd aQl (fun _ _=>X.G_below) 400 (by kernel_rfl) (by kernel_rfl:_=some aCM) fun ds rs h=>by
 obtain ⟨a,b,rfl,ha,hb,rfl⟩:=S2.inv h
 have p1:=aAX (P:=Tryz.prog) 3 false (a.size:Int) (b.size:Int) (by omega)
 have p2:=aAX (P:=Tryz.prog) 3 true ((a.size:Int)+b.size) 1 (by omega)
 rw [show (a.size:Int)+b.size+1=((a.size+b.size+1:Nat):Int) by omega] at p2
 have p3:=aGd (P:=Tryz.prog) (fun x=>.int .i64 x) 8 (a.size+b.size+1) (by omega) (by omega) .i64 .i64
 have lp:=aPq a b ha hb (i_ a.size) (i_ b.size) (i_ ((a.size:Int)+b.size)) (i_ ((a.size+b.size+1:Nat):Int)) (Il (List.replicate (a.size+b.size+1) 0)) a.size 0 _ (by omega) List.length_replicate (aAM (by decide) _) (by rw [aCA];simp [val])
 exact rp (aAp aAt a) (rp (aAp aAt b) (rp p1 (rp p2 (rp p3 (rl lp)))))
def aLZ:Tb:=[(97,aDx),(111,F_from)]++tbR5
theorem okR6:TbOk Tryz.prog X.G aLZ:=.cons (by kernel_rfl) aOa (.cons (by kernel_rfl) r_of okR5)
theorem aNe {x y:Nat}:aBl x y≤0 ↔ x≤y:=by
 unfold aBl
 split
 ·omega
 ·split<;>omega
theorem aTx (a:ByteArray) (i m:Nat) (h:i < a.size):V (a.extract i (i+1)++N m)=(rd (bytesOf a) i).toNat+256*m:=by
 have h1:=aCt (a.extract i (i+1)++N m)
 have h2:=aG8 a i
 rw [bytes_append,aBY,aAH,val_append,aBu,aEz _ _ (by rw [bytesOf_length];exact h),show i+1 - i=0+1 by omega,List.take_succ_cons,List.take_zero,aEG] at h1
 simp only [List.length_cons,List.length_nil,Nat.zero_add,Int.pow_succ,Int.pow_zero,Int.one_mul] at h1
 omega
theorem aTy {n:Nat} (h:n < 256):V (strOfNums [(n:Int)])=n:=by
 have:=aKJ (aAV.2 ⟨(by omega:0≤(n:Int)∧(n:Int) < 256),aCx _⟩)
 rw [aEG] at this
 omega
theorem aMa {b:ByteArray} (hb:b.size≤20000) {n:Nat} (h:n < 256):aDx [s_ b,s_ (strOfNums [(n:Int)])]=some [s_ (N (V b*n))]:=by
 have:=S2.eq (lim:=20000) (g:=fun x y=>[D.v (Value.string (N (x*y)))]) (a:=b) (b:=strOfNums [(n:Int)]) hb (by rw [aFb,List.length_singleton];decide)
 rw [aTy h] at this
 exact this
theorem aPr (a b:ByteArray) (hb:b.size≤20000) (e2 e3 e4 e5 e6 e7 e8 e11 e12 e13 e14:D) (quot:List Int) (X i q M:Nat) (hX:(N X).size≤20001) (hq:q < 256) (hmq:∀ m,V b*m≤X ↔ m≤q) (hM:X - V b*q=M) (hi:i < quot.length) (hl:quot.length≤20000) (R:List D)
  (K:Rn Tryz.prog (aBa aLZ) aAT [aAT] [s_ a,s_ b,e2,e3,e4,e5,e6,e7,s_ (N M),i_ ((i:Int) - 1),Bl (quot.set i (q:Int))] R) (r:Nat):∀ (lo hi:Nat),lo+r=hi→hi≤255→lo≤q→q≤hi →
  Rn Tryz.prog (aBa aLZ) aCp [aAT,aCp] [s_ a,s_ b,e2,e3,e4,e5,e6,e7,e8,i_ i,Bl quot,e11,e12,e13,e14,s_ (N X),i_ lo,i_ hi] R:=by
 induction r using Nat.strongRecOn with
 | _ r ih =>
  intro lo hi' hr hh h1 h2
  by_cases hlt:lo < hi'
  ·obtain ⟨mid,hm⟩:∃ mid,mid=(lo+hi'+1) / 2:=⟨_,rfl⟩
   have m1:mid < 256∧lo < mid∧mid≤hi':=by omega
   have hsm:(N (V b*mid)).size≤100000:=by
    have:=(aA9 (V b*mid) (b.size+1)).2 (by rw [Nat.pow_succ];exact Nat.mul_lt_mul'' (aDN b) m1.1)
    omega
   have p1:=aAX (P:=Tryz.prog) 3 false (lo:Int) (hi':Int) (by omega)
   have p2:=aAX (P:=Tryz.prog) 3 true ((lo:Int)+hi') 1 (by omega)
   have p3:=aI2 (P:=Tryz.prog) 3 true ((lo:Int)+hi'+1) 2 (by omega) (by decide)
   rw [show ((lo:Int)+hi'+1) / 2=(mid:Int) by omega] at p3
   have p4:=aEq (P:=Tryz.prog) aBX .i64 (mid:Int) aDV (by omega)
   have p5:=aJi (P:=Tryz.prog) [(mid:Int)]
   have c1:=aMa hb m1.1
   have c2:aE1 [s_ (N (V b*mid)),s_ (N X)]=some [i_ (aBl (V b*mid) X)]:=S2.eqN hsm (by omega)
   by_cases hc:mid≤q
   ·have next:=ih (hi' - mid) (by omega) mid hi' (by omega) hh hc h2
    exact rT (by omega) (aAg 3 false .i64 lo hi') (rp p1 (rp p2 (rp p3 (rp p4 (rp p5 (rc aDx c1 (rc aE1 c2 (rT (aNe.2 ((hmq mid).2 hc)) (aME 3 true .i64 (aBl (V b*mid) X) 0) (ra next)))))))))
   ·have next:=ih (mid - 1 - lo) (by omega) lo (mid - 1) (by omega) (by omega) h1 (by omega)
    have p6:=aDD (P:=Tryz.prog) 3 true (mid:Int) 1 (by omega)
    rw [show (mid:Int) - 1=((mid - 1:Nat):Int) by omega] at p6
    exact rT (by omega) (aAg 3 false .i64 lo hi') (rp p1 (rp p2 (rp p3 (rp p4 (rp p5 (rc aDx c1 (rc aE1 c2 (rF (fun e=>hc ((hmq mid).1 (aNe.1 e))) (aME 3 true .i64 (aBl (V b*mid) X) 0) (rp p6 (ra next))))))))))
  ·have e:lo=q:=by omega
   subst e
   have hle:V b*lo≤X:=(hmq lo).2 (Nat.le_refl _)
   have hs:(N (V b*lo)).size≤20001:=Nat.le_trans ((aA9 _ (N X).size).2 (Nat.lt_of_le_of_lt hle ((aA9 X _).1 (Nat.le_refl _)))) hX
   have c3:aH3 [s_ (N X),s_ (N (V b*lo))]=some [s_ (N M),b_ true]:=by
    have h3:aH3 [s_ (N X),s_ (N (V b*lo))]=some [s_ (aDn X (V b*lo)).1,b_ (aDn X (V b*lo)).2]:=S2.eqN (by omega) (by omega)
    unfold aDn at h3
    rw [if_neg (by omega),hM] at h3
    exact h3
   have p4:=aEq (P:=Tryz.prog) aBX .i64 (lo:Int) aDV (by omega)
   have p5:=aJi (P:=Tryz.prog) [(lo:Int)]
   exact rF (by omega) (aAg 3 false .i64 lo hi') (rp p4 (rp p5 (rc aDx (aMa hb hq) (rc aH3 c3 (rp p4 (rp (aBr y_ quot i (by omega) .i64) (rp (aDr y_ quot i (by omega) .i64 (lo:Int)) (rp (aDD 3 true (i:Int) 1 (by omega)) (ra K)))))))))
theorem aPs (a b:ByteArray) (ha:a.size≤20000) (hb:b.size≤20000) (hb0:0 < V b) (e2 e3 e4 e5 e6 e7:D) (r:Nat):∀ (quot:List Int) (p:Nat),r≤a.size→quot.length=a.size→Dig 256 quot→p < V b →
  val 256 ((bytesOf a).drop r)=val 256 (quot.drop r)*V b+p→Rn Tryz.prog (aBa aLZ) aAT [aAT] [s_ a,s_ b,e2,e3,e4,e5,e6,e7,s_ (N p),i_ ((r:Int) - 1),Bl quot] [s_ (N (V a / V b)),s_ (N (V a % V b)),b_ true]:=by
 induction r with
 | zero =>
  intro quot p hr hl hd hp hv
  rw [List.drop_zero,List.drop_zero,← aCt] at hv
  have h0:=aAu (by decide) hd
  obtain ⟨Q,hQ⟩:=Int.eq_ofNat_of_zero_le h0
  rw [hQ] at hv
  have h2:V a=V b*Q+p:=by
   rw [← Int.natCast_mul] at hv
   have:=Nat.mul_comm (V b) Q
   omega
  rw [h2,Nat.mul_add_div hb0,Nat.div_eq_of_lt hp,Nat.add_zero,Nat.mul_add_mod,Nat.mod_eq_of_lt hp]
  exact rF (by omega) (aD3 3 true .i64 (((0:Nat):Int) - 1) 0) (rp (aFD quot) (rc aA3 (aG9 hd (by omega) hQ) rr))
 | succ r ih =>
  intro quot p hr hl hd hp hv
  have hb1:=aG8 a r
  have hps:(N p).size≤b.size:=aD0 (Nat.le_of_lt hp)
  have hes:(a.extract r (r+1)).size=1:=by rw [ByteArray.size_extract];omega
  obtain ⟨X,hX⟩:∃ X,X=(rd (bytesOf a) r).toNat+256*p:=⟨_,rfl⟩
  have hXl:X < 256*V b:=by omega
  have hXs:(N X).size≤b.size+1:=(aA9 X _).2 (by
   have:=aDN b
   rw [Nat.pow_succ]
   omega)
  have c1:aA3 [s_ (a.extract r (r+1)++N p)]=some [s_ (N X)]:=by
   have h1:aA3 [s_ (a.extract r (r+1)++N p)]=some [s_ (N (V (a.extract r (r+1)++N p)))]:=S1.eq (by rw [ByteArray.size_append,hes];omega)
   rw [aTx a r p (by omega),← hX] at h1
   exact h1
  have hq:X / V b < 256:=Nat.div_lt_of_lt_mul (by rw [Nat.mul_comm];exact hXl)
  obtain ⟨q,hQ⟩:∃ q,q=X / V b:=⟨_,rfl⟩
  obtain ⟨M,hM⟩:∃ M,M=X % V b:=⟨_,rfl⟩
  have h3:V b*q+M=X:=by rw [hQ,hM];exact Nat.div_add_mod _ _
  have hMl:M < V b:=by rw [hM];exact Nat.mod_lt _ hb0
  have hmq:∀ m,V b*m≤X ↔ m≤q:=fun m=>by rw [hQ,Nat.mul_comm];exact (Nat.le_div_iff_mul_le hb0).symm
  rw [← hQ] at hq
  clear hQ hM
  have es:((r+1:Nat):Int) - 1=(r:Int):=by omega
  rw [es]
  have p1:=aAX (P:=Tryz.prog) 3 true (r:Int) 1 (by omega)
  have p2:=aSD (P:=Tryz.prog) aAt a .i64 .i64 r (r+1) (by omega) hr
  have p3:=aBf (P:=Tryz.prog) 9 false (a.extract r (r+1)) (N p) (by omega)
  have find:=aPr a b hb e2 e3 e4 e5 e6 e7 (s_ (N p)) (b_ true) (i_ ((r+1:Nat):Int)) (s_ (a.extract r (r+1))) (s_ (a.extract r (r+1)++N p)) quot X r q M (by omega) hq hmq (by omega) (by omega) (by omega) [s_ (N (V a / V b)),s_ (N (V a % V b)),b_ true] ?_ 255 0 255 (by omega) (by omega) (by omega) (by omega)
  ·exact rT (by omega) (aD3 3 true .i64 (r:Int) 0) (rp p1 (rp p2 (rp p3 (rc aA3 c1 (rl find)))))
  refine ih (quot.set r (q:Int)) M (by omega) (by rw [List.length_set,hl]) (aAY hd _ (by omega) (by omega)) hMl ?_
  rw [aEz (bytesOf a) r (by rw [bytesOf_length];omega),val,aGH _ _ _ (by omega),val,hv]
  have h2:(X:Int)=rd (bytesOf a) r+256*p:=by omega
  have h4:((V b*q+M:Nat):Int)=X:=by rw [h3]
  rw [Int.natCast_add,Int.natCast_mul] at h4
  clear h3 hmq ih hXl hXs hMl p1 p2 p3 c1
  generalize val 256 (quot.drop (r+1))=Z
  generalize (V b:Int)=D at *
  generalize rd (bytesOf a) r=x at *
  generalize (q:Int)=q at *
  generalize (M:Int)=M at *
  generalize (p:Int)=p at *
  generalize (X:Int)=X at *
  grind
theorem aGA {x:Nat}:N x=(⟨#[]⟩:ByteArray) ↔ x=0:=by rw [← aCg,aKM]
theorem aRn:Sx.Good Tryz.prog X.G 130 ⟨[.one,.one],.tup [.one,.one,.one]⟩ aBH:=aAd okR6 (fun _ _=>X.G_below) 400 (by kernel_rfl) (by kernel_rfl:_=some aCO) fun ds rs h=>by
 obtain ⟨a,b,rfl,ha,hb,rfl⟩:=S2.inv h
 have c1:aA3 [s_ b]=some [s_ (N (V b))]:=S1.eq (by omega)
 unfold aBI
 by_cases h:V b=0
 ·rw [if_pos h]
  exact rc aA3 c1 (rT (aGA.2 h) (aBN 9 true (N (V b)) ⟨#[]⟩) rr)
 ·rw [if_neg h]
  have p3:=aGd (P:=Tryz.prog) (fun x=>.int .u8 x) 1 a.size (by omega) (by omega) .i64 .i64
  have lp:=aPs a b ha hb (by omega) (s_ (N (V b))) (b_ false) (i_ a.size) (Bl (List.replicate a.size 0)) (i_ a.size) (i_ ((a.size:Int) - 1)) a.size _ 0 (Nat.le_refl _) List.length_replicate (aAM (by decide) _) (by omega) (by rw [List.drop_eq_nil_of_le (by rw [bytesOf_length];exact Nat.le_refl _),List.drop_eq_nil_of_le (by rw [List.length_replicate];exact Nat.le_refl _)];simp [val])
  rw [aCg] at lp
  exact rc aA3 c1 (rF (fun e=>h (aGA.1 e)) (aBN 9 true (N (V b)) ⟨#[]⟩) (rp (aAp aAt a) (rp p3 (rp (aAp aAt a) (rp (aDD 3 true (a.size:Int) 1 (by omega)) (rl lp))))))
def aOb:Tb:=(130,aBH)::aLZ
theorem aQq:TbOk Tryz.prog X.G aOb:=.cons (by kernel_rfl) aRn okR6
theorem aPt (e0 e1 e2 e3:D) (n:Nat):∀ (x y:Nat),y=n→(N x).size≤20000→(N y).size≤20000→Rn Tryz.prog (aBa aOb) aCq [aCq] [e0,e1,e2,e3,s_ (N x),s_ (N y)] [s_ (N (Nat.gcd x y))]:=by
 induction n using Nat.strongRecOn with
 | _ n ih =>
  intro x y hn hx hy
  by_cases h:y=0
  ·subst h
   rw [Nat.gcd_zero_right]
   exact rF (not_not_intro (aGA.2 rfl)) (aFC 9 true (N 0) ⟨#[]⟩) rr
  ·have h1:aBH [s_ (N x),s_ (N y)]=some [s_ (aBI x y).1,s_ (aBI x y).2.1,b_ (aBI x y).2.2]:=S2.eqN hx hy
   unfold aBI at h1
   rw [if_neg h] at h1
   have hlt:x % y < y:=Nat.mod_lt _ (by omega)
   have next:=ih (x % y) (by omega) y (x % y) rfl hy (Nat.le_trans ((aA9 _ (N y).size).2 (Nat.lt_trans hlt ((aA9 y _).1 (Nat.le_refl _)))) hy)
   have hg:Nat.gcd y (x % y)=Nat.gcd x y:=by rw [Nat.gcd_comm y (x % y),← Nat.gcd_rec,Nat.gcd_comm]
   rw [hg] at next
   exact rT (mt aGA.1 h) (aFC 9 true (N y) ⟨#[]⟩) (rc aBH h1 (ra next))
theorem aTS:Sx.Good Tryz.prog X.G 129 ⟨[.one,.one],.v1 .one⟩ aBh:=aAd aQq (fun _ _=>X.G_below) 400 (by kernel_rfl) (by kernel_rfl:_=some aCP) fun ds rs h=>by
 obtain ⟨a,b,rfl,ha,hb,rfl⟩:=S2.inv h
 have c1:aA3 [s_ a]=some [s_ (N (V a))]:=S1.eq (by omega)
 have c2:aA3 [s_ b]=some [s_ (N (V b))]:=S1.eq (by omega)
 exact rc aA3 c1 (rc aA3 c2 (rl (aPt (s_ a) (s_ b) (s_ (N (V a))) (s_ (N (V b))) _ (V a) (V b) rfl (aBO ha) (aBO hb))))
def tbR:Tb:=[(95,aDI),(155,aGs),(144,aFx),(97,aDx),(145,aFy),(130,aBH),(129,aBh),(111,F_from)]
theorem okR:TbOk Tryz.prog X.G tbR:=.cons (by kernel_rfl) (aF3 aLX (S1.weak (by decide))) <| .cons (by kernel_rfl) (aF3 aRk (S2.weak (by decide))) <| .cons (by kernel_rfl) aRl <| .cons (by kernel_rfl) aOa <| .cons (by kernel_rfl) (aF3 aRm (S2.weak (by decide))) <| .cons (by kernel_rfl) aRn <| .cons (by kernel_rfl) aTS <| .cons (by kernel_rfl) r_of <| trivial
end Go.Proofs.YtjefbecmeobegaaGreatDoor.Sp
