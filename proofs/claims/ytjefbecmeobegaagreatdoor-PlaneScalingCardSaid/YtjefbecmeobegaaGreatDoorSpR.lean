import Derived.Test.YtjefbecmeobegaaGreatDoorSpL
import Derived.Test.YtjefbecmeobegaaGreatDoorTr1
import Derived.Test.YtjefbecmeobegaaGreatDoorNatE
namespace Go.Proofs.YtjefbecmeobegaaGreatDoor.Sp
open Go Go.RowKit YtjefbecmeobegaaGreatDoorW.PrintWords Sx NatA NatB NatC NatD NatE NatI NatJ
def aAM:Fct:=S1 100000 fun x=>[D.v (Value.string (N x))]
def aE0:Fct:=S2 100000 fun x y=>[D.v (Value.int .i64 (aBm x y))]
def aHy:Fct:=S2 50000 fun x y=>[D.v (Value.string ((aDm x y).1)),D.v (Value.bool ((aDm x y).2))]
theorem aFB {G:World→Prop} {f:FuncId} {ct:Ct} {F F':Fct} (h:Sx.Good Tryz.prog G f ct F) (hw:∀ ds rs,F' ds=some rs→F ds=some rs):Sx.Good Tryz.prog G f ct F':=fun ds rs e=>h ds rs (hw ds rs e)
theorem S1.weak {l l':Nat} {g:Nat→List D} (hl:l≤l') (ds rs:List D) (h:S1 l g ds=some rs):S1 l' g ds=some rs:=by
 obtain ⟨a,rfl,ha,rfl⟩:=S1.inv h
 exact S1.eq (Nat.le_trans ha hl)
theorem S2.weak {l l':Nat} {g:Nat→Nat→List D} (hl:l≤l') (ds rs:List D) (h:S2 l g ds=some rs):S2 l' g ds=some rs:=by
 obtain ⟨a,b,rfl,ha,hb,rfl⟩:=S2.inv h
 exact S2.eq (Nat.le_trans ha hl) (Nat.le_trans hb hl)
theorem aIZ {C:Cf} (a:ByteArray) (ha:a.size≤1000000) (e:D):∀ n:Nat,n≤a.size→∃ m,aDk.run Tryz.prog C m [aDk] [s_ a,e,i_ n]=some [s_ (N (V (a.extract 0 n)))]
 | 0,h=>by
  have hz:(a.extract 0 0).size=0:=size_extract a 0 h
  have:N (V (a.extract 0 0))=a.extract 0 0:=N_V (.inl hz)
  rw [this]
  exact ⟨0,aFa (by omega) rfl (aAA _ _ _ _ _) rfl (aAe rfl (aJX aAy a .i64 0 h) (aAb rfl))⟩
 | n+1,h=>by
  have hi:n < a.size:=by omega
  have es:((n+1:Nat):Int) - 1=(n:Int):=by omega
  have p1:=aEC (P:=Tryz.prog) 3 true ((n+1:Nat):Int) 1 (by omega)
  rw [es] at p1
  by_cases hb:rd (bytesOf a) n=0
  ·obtain ⟨m,hm⟩:=aIZ a ha e n (by omega)
   have hv:V (a.extract 0 (n+1))=V (a.extract 0 n):=by
    have:=aKk a n hi
    rw [aEy,hb,Int.mul_zero] at this
    omega
   rw [hv]
   exact ⟨m+1,aE3 (by omega) rfl (aAA _ _ _ _ _) rfl (aAe rfl p1 (aAe rfl (aH5 aAy a n hi .i64) (aE3 hb rfl (aA9 _ _ _ _ _) rfl (aAe rfl p1 (aIg rfl rfl hm)))))⟩
  ·rw [aKl a n hi (by rw [aEy];exact hb)]
   exact ⟨0,aE3 (by omega) rfl (aAA _ _ _ _ _) rfl (aAe rfl p1 (aAe rfl (aH5 aAy a n hi .i64) (aFa hb rfl (aA9 _ _ _ _ _) rfl (aAe rfl (aJX aAy a .i64 (n+1) h) (aAb rfl)))))⟩
theorem aMd:Sx.Good Tryz.prog X.G 95 ⟨[.one],.v1 .one⟩ aAM:=aAf (tb:=[]) trivial (fun _ _=>X.G_below) 400 (by kernel_rfl) (by kernel_rfl:_=some aC5) fun ds rs h=>by
 obtain ⟨a,rfl,ha,rfl⟩:=S1.inv h
 obtain ⟨m,hm⟩:=aIZ (C:=aBh []) a (by omega) (i_ a.size) a.size (Nat.le_refl _)
 rw [extract_all] at hm
 exact ⟨m,aAe rfl (aAs aAy a) (aJj rfl hm)⟩
def tbR1:Tb:=[(95,aAM)]
theorem okR1:TbOk Tryz.prog X.G tbR1:=.cons (by kernel_rfl) aMd trivial
def F_at:Fct
 | [.v (.string a),.v (.int .i64 i)]=>if 0≤i then some [i_ (rd (bytesOf a) i)] else none
 | _=>none
theorem F_at.eq (a:ByteArray) (i:Nat):F_at [s_ a,i_ i]=some [i_ (rd (bytesOf a) i)]:=by
 show (if 0≤(i:Int) then _ else none)=_
 exact if_pos (Int.natCast_nonneg _)
theorem r_at:Sx.Good Tryz.prog X.G 142 ⟨[.one,.one],.v1 .one⟩ F_at:=aAf (tb:=[]) trivial (fun _ _=>X.G_below) 400 (by kernel_rfl) (by kernel_rfl:_=some aDd) fun ds rs h=>by
 unfold F_at at h
 split at h
 ·rename_i a i
  split at h
  ·rename_i hi
   obtain ⟨i,rfl⟩:=Int.eq_ofNat_of_zero_le hi
   obtain rfl:=Option.some.inj h
   by_cases hl:i < a.size
   ·exact ⟨0,aAe rfl (aAs aAy a) (aE3 (by omega) rfl (aAh _ _ _ _ _) rfl (aAe rfl (aH5 aAy a i hl .i64) (aAe rfl (aSN aDQ .u8 _ aCC (aA3 (aBA a) (by rw [bytesOf_length];exact hl))) (aAb rfl))))⟩
   ·rw [aEd (by rw [bytesOf_length];omega)]
    exact ⟨0,aAe rfl (aAs aAy a) (aFa (by omega) rfl (aAh _ _ _ _ _) rfl (aAb rfl))⟩
  ·cases h
 ·cases h
def aG9:Tb:=(142,F_at)::tbR1
theorem aQA:TbOk Tryz.prog X.G aG9:=.cons (by kernel_rfl) r_at okR1
theorem aKq {C:Cf} (x y:Nat) (hs:(N x).size=(N y).size) (hx:(N x).size≤1000000) (e0 e1 e4 e5 e6 e7 e8 e9 e10 e11:D):∀ r:Nat,r≤(N x).size→(nb x).drop r=(nb y).drop r→∃ m,aDp.run Tryz.prog C m [aDp] [e0,e1,s_ (N x),s_ (N y),e4,e5,e6,e7,e8,e9,e10,e11,i_ ((r:Int) - 1)]=some [i_ (aBm x y)]
 | 0,_,hd=>by
  rw [List.drop_zero,List.drop_zero] at hd
  have:x=y:=by
   have:=congrArg (val 256) hd
   rw [aBB,aBB] at this
   exact Int.ofNat_inj.1 this
  unfold aBm
  rw [if_neg (by omega),if_pos this]
  exact ⟨0,aFa (by omega) rfl (aDR _ _ _ _ _) rfl (aAb rfl)⟩
 | r+1,hr,hd=>by
  have lx:(nb x).length=(N x).size:=by rw [← bytesOf_length,aAY]
  have ly:(nb y).length=(N x).size:=by rw [hs,← bytesOf_length,aAY]
  have es:((r+1:Nat):Int) - 1=(r:Int):=by omega
  rw [es]
  have px:=aH5 (P:=Tryz.prog) aAy (N x) r (by omega) .i64
  have py:=aH5 (P:=Tryz.prog) aAy (N y) r (by omega) .i64
  rw [aAY] at px py
  by_cases hl:rd (nb x) (r:Int) < rd (nb y) (r:Int)
  ·have:=aF9 (B:=256) (by decide) (aCu x) (aCu y) (by omega) r (by omega) hd hl
   rw [aBB,aBB] at this
   unfold aBm
   rw [if_pos (by omega)]
   exact ⟨0,aE3 (by omega) rfl (aDR _ _ _ _ _) rfl (aAe rfl px (aAe rfl py (aE3 hl rfl (aAh _ _ _ _ _) rfl (aAb rfl))))⟩
  ·by_cases he:rd (nb y) (r:Int) < rd (nb x) (r:Int)
   ·have:=aF9 (B:=256) (by decide) (aCu y) (aCu x) (by omega) r (by omega) hd.symm he
    rw [aBB,aBB] at this
    unfold aBm
    rw [if_neg (by omega),if_neg (by omega)]
    exact ⟨0,aE3 (by omega) rfl (aDR _ _ _ _ _) rfl (aAe rfl px (aAe rfl py (aFa hl rfl (aAh _ _ _ _ _) rfl (aAe rfl px (aAe rfl py (aE3 he rfl (aAA _ _ _ _ _) rfl (aAb rfl)))))))⟩
   ·obtain ⟨m,hm⟩:=aKq x y hs hx e0 e1 e4 e5 e6 e7 e8 e9 e10 e11 r (by omega) (aMY (by omega) (by omega) hd (by omega))
    exact ⟨m+1,aE3 (by omega) rfl (aDR _ _ _ _ _) rfl (aAe rfl px (aAe rfl py (aFa hl rfl (aAh _ _ _ _ _) rfl (aAe rfl px (aAe rfl py (aFa he rfl (aAA _ _ _ _ _) rfl (aAe rfl (aEC _ _ _ _ (by omega)) (aIg rfl rfl hm))))))))⟩
theorem aRF:Sx.Good Tryz.prog X.G 155 ⟨[.one,.one],.v1 .one⟩ aE0:=aAf aQA (fun _ _=>X.G_below) 400 (by kernel_rfl) (by kernel_rfl:_=some aCJ) fun ds rs h=>by
 obtain ⟨a,b,rfl,ha,hb,rfl⟩:=S2.inv h
 have sx:=aCr ha
 have sy:=aCr hb
 have n1:aAM [s_ a]=some [s_ (N (V a))]:=S1.eq (by omega)
 have n2:aAM [s_ b]=some [s_ (N (V b))]:=S1.eq (by omega)
 generalize V a=x at *
 generalize V b=y at *
 have l1:=aAs (P:=Tryz.prog) aAy (N x)
 have l2:=aAs (P:=Tryz.prog) aAy (N y)
 by_cases h1:(N x).size < (N y).size
 ·have:=aEI h1
  unfold aBm
  rw [if_pos this]
  exact ⟨0,aAc aAM rfl rfl n1 rfl (aAc aAM rfl rfl n2 rfl (aAe rfl l1 (aAe rfl l2 (aE3 (by omega) rfl (aAh _ _ _ _ _) rfl (aAb rfl)))))⟩
 ·by_cases h2:(N y).size < (N x).size
  ·have:=aEI h2
   unfold aBm
   rw [if_neg (by omega),if_neg (by omega)]
   exact ⟨0,aAc aAM rfl rfl n1 rfl (aAc aAM rfl rfl n2 rfl (aAe rfl l1 (aAe rfl l2 (aFa (by omega) rfl (aAh _ _ _ _ _) rfl (aAe rfl l1 (aAe rfl l2 (aE3 (by omega) rfl (aAA _ _ _ _ _) rfl (aAb rfl))))))))⟩
  ·have lx:(nb x).length=(N x).size:=by rw [← bytesOf_length,aAY]
   have ly:(nb y).length=(N y).size:=by rw [← bytesOf_length,aAY]
   obtain ⟨m,hm⟩:=aKq (C:=aBh aG9) x y (by omega) (by omega) (s_ a) (s_ b) (i_ (N x).size) (i_ (N y).size) (b_ false) (i_ (N x).size) (i_ (N y).size) (b_ false) (i_ (N x).size) (i_ (((N x).size:Int) - 1)) (N x).size (Nat.le_refl _) (by rw [List.drop_eq_nil_of_le (by omega),List.drop_eq_nil_of_le (by omega)])
   exact ⟨m,aAc aAM rfl rfl n1 rfl (aAc aAM rfl rfl n2 rfl (aAe rfl l1 (aAe rfl l2 (aFa (by omega) rfl (aAh _ _ _ _ _) rfl (aAe rfl l1 (aAe rfl l2 (aFa (by omega) rfl (aAA _ _ _ _ _) rfl (aAe rfl l1 (aAe rfl (aEC _ _ _ _ (by omega)) (aJj rfl hm))))))))))⟩
def aOk:Tb:=(155,aE0)::aG9
theorem okR3:TbOk Tryz.prog X.G aOk:=.cons (by kernel_rfl) aRF aQA
theorem aGA (a:ByteArray) (i:Nat):0≤rd (bytesOf a) (i:Int)∧rd (bytesOf a) (i:Int) < 256:=aEU (by decide) (aBA a) i
theorem aIr {B:Int} {l:List Int} {x:Int} (h:Dig B l) (h0:0≤x∧x < B):Dig B (l++[x]):=aDG.2 ⟨h,aBa.2 ⟨h0,aCt _⟩⟩
theorem aIs (B:Int) (l:List Int) (x:Int):val B (l++[x])=val B l+B ^ l.length*x:=by rw [val_append,aEJ]
theorem aMe (a:ByteArray):(V a:Int) < 256 ^ a.size:=by
 have:=aB4 (B:=256) (by decide) (aBA a)
 rw [← aCm,bytesOf_length] at this
 exact this
theorem aGB {l:List Int} (hd:Dig 256 l) (hl:l.length≤100000) {x:Nat} (hx:val 256 l=x):aAM [s_ (strOfNums l)]=some [s_ (N x)]:=by
 have:V (strOfNums l)=x:=by
  have:=aKD hd
  omega
 rw [← this]
 exact S1.eq (by rw [aFj];exact hl)
theorem aP7 (a b:ByteArray) (ha:a.size≤20000) (hb:b.size≤20000) (e:D) (r:Nat):∀ (i:Nat) (l:List Int) (c:Int),i+r=20001→l.length=i→Dig 256 l→(0≤c∧c≤1) →
  val 256 l+256 ^ i*c=val 256 ((bytesOf a).take i)+val 256 ((bytesOf b).take i)→Rn Tryz.prog (aBh aOk) aBn [aBn] [s_ a,s_ b,e,i_ c,i_ i,Bl l] [s_ (N (V a+V b))]:=by
 have fin:∀ (i:Nat) (l:List Int),l.length=i→i≤20001→Dig 256 l→¬ i < a.size→¬ i < b.size→val 256 l=val 256 ((bytesOf a).take i)+val 256 ((bytesOf b).take i)→Rn Tryz.prog (aBh aOk) aBn [aBn] [s_ a,s_ b,e,i_ 0,i_ i,Bl l] [s_ (N (V a+V b))]:=fun i l hl hi hd h1 h2 hv=>by
  rw [List.take_of_length_le (by rw [bytesOf_length];omega),List.take_of_length_le (by rw [bytesOf_length];omega),← aCm,← aCm] at hv
  exact rp (aAs aAy a) (rF (by omega) (aAh 3 false .i64 i a.size) (rp (aAs aAy b) (rF (by omega) (aAh 3 false .i64 i b.size) (rF (by decide) (aAA 3 true .i64 0 0) (rp (aFK l) (rc aAM (aGB hd (by omega) (x:=V a+V b) (by omega)) rr))))))
 induction r with
 | zero =>
  intro i l c hi hl hd hc hv
  have hc0:c=0:=by
   rcases (show c=0∨c=1 by omega) with h | h
   ·exact h
   ·rw [List.take_of_length_le (by rw [bytesOf_length];omega),List.take_of_length_le (by rw [bytesOf_length];omega),← aCm,← aCm,h,Int.mul_one] at hv
    have h0:=aAx (by decide) hd
    have h1:=aDH a
    have h2:=aDH b
    generalize hM:20000=M at *
    have h3:256 ^ a.size≤256 ^ M:=Nat.pow_le_pow_right (by decide) ha
    have h4:256 ^ b.size≤256 ^ M:=Nat.pow_le_pow_right (by decide) hb
    have h5:(256:Int) ^ i=((256 ^ M:Nat):Int)*256:=by rw [show i=M+1 by omega,Int.pow_succ,Int.natCast_pow];rfl
    omega
  subst hc0
  exact fin i l hl (by omega) hd (by omega) (by omega) (by rw [Int.mul_zero] at hv;omega)
 | succ r ih =>
  intro i l c hi hl hd hc hv
  by_cases hgo:i < a.size∨i < b.size∨c > 0
  ·have h1:=aGA a i
   have h2:=aGA b i
   have e1:=aAi 256 (bytesOf a) i
   have e2:=aAi 256 (bytesOf b) i
   obtain ⟨n,hn⟩:∃ n,n=c+(rd (bytesOf a) i+rd (bytesOf b) i):=⟨_,rfl⟩
   have hdm:256*(n / 256)+n % 256=n:=Int.mul_ediv_add_emod _ _
   have next:=ih (i+1) (l++[n % 256]) (n / 256) (by omega) (by simp [hl]) (aIr hd (by omega)) (by omega) (by
    rw [aIs,hl,e1,e2,Int.pow_succ]
    grind)
   have c1:=F_at.eq a i
   have c2:=F_at.eq b i
   have p1:=aBb (P:=Tryz.prog) 3 false (rd (bytesOf a) i) (rd (bytesOf b) i) (by omega)
   have p2:=aBb (P:=Tryz.prog) 3 false c (rd (bytesOf a) i+rd (bytesOf b) i) (by omega)
   rw [← hn] at p2
   have p3:=aIw (P:=Tryz.prog) 3 true .i64 n 256 (by omega) (by decide)
   have p4:=aFb (P:=Tryz.prog) aCC .i64 (n % 256) aDQ (by omega)
   have p5:=aD9 (P:=Tryz.prog) l (n % 256) (by omega)
   have p6:=aIv (P:=Tryz.prog) 3 true n 256 (by omega) (by decide)
   have p7:=aBb (P:=Tryz.prog) 3 true (i:Int) 1 (by omega)
   by_cases hx:i < a.size
   ·exact rp (aAs aAy a) (rT (by omega) (aAh 3 false .i64 i a.size) (rc F_at c1 (rc F_at c2 (rp p1 (rp p2 (rp p3 (rp p4 (rp p5 (rp p6 (rp p7 (ra next)))))))))))
   ·by_cases hy:i < b.size
    ·exact rp (aAs aAy a) (rF (by omega) (aAh 3 false .i64 i a.size) (rp (aAs aAy b) (rT (by omega) (aAh 3 false .i64 i b.size) (rc F_at c1 (rc F_at c2 (rp p1 (rp p2 (rp p3 (rp p4 (rp p5 (rp p6 (rp p7 (ra next)))))))))))))
    ·exact rp (aAs aAy a) (rF (by omega) (aAh 3 false .i64 i a.size) (rp (aAs aAy b) (rF (by omega) (aAh 3 false .i64 i b.size) (rT (by omega) (aAA 3 true .i64 c 0) (rc F_at c1 (rc F_at c2 (rp p1 (rp p2 (rp p3 (rp p4 (rp p5 (rp p6 (rp p7 (ra next))))))))))))))
  ·obtain rfl:c=0:=by omega
   exact fin i l hl (by omega) hd (by omega) (by omega) (by rw [Int.mul_zero] at hv;omega)
theorem aRG:Sx.Good Tryz.prog X.G 144 ⟨[.one,.one],.v1 .one⟩ aF7:=aAf okR3 (fun _ _=>X.G_below) 400 (by kernel_rfl) (by kernel_rfl:_=some aCK) fun ds rs h=>by
 obtain ⟨a,b,rfl,ha,hb,rfl⟩:=S2.inv h
 exact rp aIx (rl (aP7 a b ha hb (Bl []) 20001 0 [] 0 rfl rfl (aCt _) (by decide) (by simp [val])))
def aQB:Tb:=(144,aF7)::aOk
theorem okR4:TbOk Tryz.prog X.G aQB:=.cons (by kernel_rfl) aRG okR3
theorem aP8 (a b:ByteArray) (ha:a.size≤50000) (hge:V b≤V a) (e2 e3 e4:D) (r:Nat):∀ (i:Nat) (l:List Int) (c:Int),i+r=a.size→l.length=i→Dig 256 l→(0≤c∧c≤1) →
  val 256 l+val 256 ((bytesOf b).take i)=val 256 ((bytesOf a).take i)+256 ^ i*c→Rn Tryz.prog (aBh aQB) aCi [aCi] [s_ a,s_ b,e2,e3,e4,i_ c,i_ i,Bl l] [s_ (N (V a - V b)),b_ true]:=by
 induction r with
 | zero =>
  intro i l c hi hl hd hc hv
  have hva:=aCm a
  have hvb:=aCm b
  rw [List.take_of_length_le (l:=bytesOf a) (by rw [bytesOf_length];omega),← hva] at hv
  have hb2:val 256 ((bytesOf b).take i)=(V b:Int):=by
   by_cases hbl:b.size≤i
   ·rw [List.take_of_length_le (by rw [bytesOf_length];omega),hvb]
   ·have h1:=aCb 256 (bytesOf b) i (by rw [bytesOf_length];omega)
    have h2:=aAx (by decide) (aAC (aBA b) i)
    have h3:=aAx (by decide) (aC1 (aBA b) i)
    have h4:(0:Int) < 256 ^ i:=Int.pow_pos (by decide)
    have h5:(V a:Int) < 256 ^ i:=by rw [show i=a.size by omega];exact aMe a
    have h6:val 256 ((bytesOf b).drop i)=0:=by
     rcases (show val 256 ((bytesOf b).drop i)=0∨1≤val 256 ((bytesOf b).drop i) by omega) with h | h
     ·exact h
     ·have:=Int.mul_le_mul_of_nonneg_left h (Int.le_of_lt h4)
      rw [Int.mul_one] at this
      omega
    rw [h6,Int.mul_zero] at h1
    omega
  rw [hb2] at hv
  have hl0:=aB4 (by decide) hd
  rw [hl] at hl0
  have hc0:c=0:=by
   rcases (show c=0∨c=1 by omega) with h | h
   ·exact h
   ·rw [h,Int.mul_one] at hv
    omega
  rw [hc0,Int.mul_zero] at hv
  exact rp (aAs aAy a) (rF (by omega) (aAh 3 false .i64 i a.size) (rp (aFK l) (rc aAM (aGB hd (by omega) (x:=V a - V b) (by omega)) rr)))
 | succ r ih =>
  intro i l c hi hl hd hc hv
  have h1:=aGA a i
  have h2:=aGA b i
  have e1:=aAi 256 (bytesOf a) i
  have e2':=aAi 256 (bytesOf b) i
  obtain ⟨n,hn⟩:∃ n,n=rd (bytesOf a) i - rd (bytesOf b) i - c:=⟨_,rfl⟩
  have c1:=F_at.eq a i
  have c2:=F_at.eq b i
  have p1:=aEC (P:=Tryz.prog) 3 false (rd (bytesOf a) i) (rd (bytesOf b) i) (by omega)
  have p2:=aEC (P:=Tryz.prog) 3 false (rd (bytesOf a) i - rd (bytesOf b) i) c (by omega)
  rw [← hn] at p2
  have p7:=aBb (P:=Tryz.prog) 3 true (i:Int) 1 (by omega)
  refine rp (aAs aAy a) (rT (by omega) (aAh 3 false .i64 i a.size) (rc F_at c1 (rc F_at c2 (rp p1 (rp p2 ?_)))))
  by_cases hneg:n < 0
  ·have next:=ih (i+1) (l++[n+256]) 1 (by omega) (by simp [hl]) (aIr hd (by omega)) (by omega) (by
    rw [aIs,hl,e1,e2',Int.pow_succ]
    grind)
   exact rT hneg (aAh 3 true .i64 n 0) (rp (aBb 3 true n 256 (by omega)) (rp (aFb aCC .i64 (n+256) aDQ (by omega)) (rp (aD9 l (n+256) (by omega)) (rp p7 (ra next)))))
  ·have next:=ih (i+1) (l++[n]) 0 (by omega) (by simp [hl]) (aIr hd (by omega)) (by omega) (by
    rw [aIs,hl,e1,e2']
    grind)
   exact rF hneg (aAh 3 true .i64 n 0) (rp (aFb aCC .i64 n aDQ (by omega)) (rp (aD9 l n (by omega)) (rp p7 (ra next))))
theorem aRH:Sx.Good Tryz.prog X.G 145 ⟨[.one,.one],.tup [.one,.one]⟩ aHy:=aAf okR4 (fun _ _=>X.G_below) 400 (by kernel_rfl) (by kernel_rfl:_=some aCM) fun ds rs h=>by
 obtain ⟨a,b,rfl,ha,hb,rfl⟩:=S2.inv h
 have c1:aE0 [s_ a,s_ b]=some [i_ (aBm (V a) (V b))]:=S2.eq (by omega) (by omega)
 unfold aDm
 by_cases h:V a < V b
 ·rw [if_pos h]
  exact rc aE0 c1 (rT (aEe.2 h) (aAh 3 true .i64 (aBm (V a) (V b)) 0) rr)
 ·rw [if_neg h]
  exact rc aE0 c1 (rF (fun e=>h (aEe.1 e)) (aAh 3 true .i64 (aBm (V a) (V b)) 0) (rp aIx (rl (aP8 a b ha (by omega) (i_ (aBm (V a) (V b))) (b_ false) (Bl []) a.size 0 [] 0 (by omega) rfl (aCt _) (by omega) (by simp [val])))))
def tbR5:Tb:=(145,aHy)::aQB
theorem okR5:TbOk Tryz.prog X.G tbR5:=.cons (by kernel_rfl) aRH okR4
theorem aQC {C:Cf} (e0 e1:D):∀ (j m:Nat) (l:List Int),m < 256 ^ j→m < 18446744073709551616→l.length+j≤1000→Rn Tryz.prog C aBt [aBt] [e0,e1,w_ m,Bl l] [s_ (strOfNums (l++nb m))]:=by
 have fin:∀ l:List Int,Rn Tryz.prog C aBt [aBt] [e0,e1,w_ 0,Bl l] [s_ (strOfNums (l++nb 0))]:=fun l=>by
  rw [aD6,List.append_nil]
  exact rF (by decide) (aAA 116 true .u64 0 0) (rp (aFK l) rr)
 intro j
 induction j with
 | zero =>
  intro m l hm _ _
  obtain rfl:m=0:=by rw [Nat.pow_zero] at hm;omega
  exact fin l
 | succ j ih =>
  intro m l hm hlt hl
  by_cases h0:m=0
  ·subst h0
   exact fin l
  ·rw [aFV h0]
   rw [Nat.pow_succ] at hm
   have next:=ih (m / 256) (l++[((m % 256:Nat):Int)]) (by omega) (by omega) (by rw [List.length_append,List.length_singleton];omega)
   rw [List.append_assoc] at next
   have p3:=aIw (P:=Tryz.prog) 116 true .u64 (m:Int) 256 (by omega) (by decide)
   have p6:=aT8 (P:=Tryz.prog) 116 true (m:Int) 256 (by omega) (by decide)
   rw [show (m:Int) % 256=((m % 256:Nat):Int) by omega] at p3
   rw [show (m:Int) / 256=((m / 256:Nat):Int) by omega] at p6
   exact rT (by omega) (aAA 116 true .u64 m 0) (rp p3 (rp (aFb aCC .u64 ((m % 256:Nat):Int) aBz (by omega)) (rp (aD9 l ((m % 256:Nat):Int) (by omega)) (rp p6 (ra next)))))
theorem r_of:Sx.Good Tryz.prog X.G 111 ⟨[.one],.v1 .one⟩ F_from:=aAf okR5 (fun _ _=>X.G_below) 400 (by kernel_rfl) (by kernel_rfl:_=some aDc) fun ds rs h=>by
 obtain ⟨n,rfl,hn,rfl⟩:=F_from.inv h
 exact rp aIx (rl (aQC (w_ n) (Bl []) 8 n [] (by simpa using hn) hn (by decide)))
theorem aQD (a b:ByteArray) (ha:a.size≤20000) (hb:b.size≤20000) (e2 e3 e4 e5 e6 e8 e9 e10:D) (i:Nat) (hi:i < a.size) (R:List D) (T0:Int) (hT:T0+256 ^ i*(rd (bytesOf a) i*V b) < 256 ^ (a.size+b.size+1)) (r:Nat):∀ (j:Nat) (z:List Int) (c:Int),j+r=a.size+b.size+1 - i→z.length=a.size+b.size+1→Dig 256 z→(0≤c∧c < 256) →
  val 256 z+256 ^ (i+j)*c=T0+256 ^ i*(rd (bytesOf a) i*val 256 ((bytesOf b).take j)) →
  (∀ z',z'.length=a.size+b.size+1→Dig 256 z'→val 256 z'=T0+256 ^ i*(rd (bytesOf a) i*V b)→Rn Tryz.prog (aBh aG9) aA4 [aA4] [s_ a,s_ b,e2,e3,e4,e5,e6,i_ ((i+1:Nat):Int),Il z'] R) →
  Rn Tryz.prog (aBh aG9) aBo [aA4,aBo] [s_ a,s_ b,e2,e3,e4,e5,e6,i_ i,e8,e9,e10,i_ c,i_ j,Il z] R:=by
 have hda:=aGA a i
 have fin:∀ (j:Nat) (z:List Int),z.length=a.size+b.size+1→Dig 256 z→¬ j < b.size→val 256 z=T0+256 ^ i*(rd (bytesOf a) i*val 256 ((bytesOf b).take j)) →
  (∀ z',z'.length=a.size+b.size+1→Dig 256 z'→val 256 z'=T0+256 ^ i*(rd (bytesOf a) i*V b)→Rn Tryz.prog (aBh aG9) aA4 [aA4] [s_ a,s_ b,e2,e3,e4,e5,e6,i_ ((i+1:Nat):Int),Il z'] R)→Rn Tryz.prog (aBh aG9) aBo [aA4,aBo] [s_ a,s_ b,e2,e3,e4,e5,e6,i_ i,e8,e9,e10,i_ 0,i_ j,Il z] R:=fun j z hz hd hj hv K=>by
  have k:=K z hz hd (by rw [hv,List.take_of_length_le (by rw [bytesOf_length];omega),aCm])
  exact rp (aAs aAy b) (rF (by omega) (aAh 3 false .i64 j b.size) (rF (by decide) (aAA 3 true .i64 0 0) (rp (aBb 3 true (i:Int) 1 (by omega)) (ra k))))
 induction r with
 | zero =>
  intro j z c hj hz hd hc hv K
  have hc0:c=0:=by
   rcases (show c=0∨1≤c by omega) with h | h
   ·exact h
   ·rw [List.take_of_length_le (l:=bytesOf b) (by rw [bytesOf_length];omega),← aCm] at hv
    have h0:=aAx (by decide) hd
    have h1:(0:Int) < 256 ^ (i+j):=Int.pow_pos (by decide)
    have h2:=Int.mul_le_mul_of_nonneg_left h (Int.le_of_lt h1)
    rw [Int.mul_one,show i+j=a.size+b.size+1 by omega] at h2
    rw [show i+j=a.size+b.size+1 by omega] at hv
    omega
  subst hc0
  exact fin j z hz hd (by omega) (by rw [Int.mul_zero] at hv;omega) K
 | succ r ih =>
  intro j z c hj hz hd hc hv K
  by_cases hgo:j < b.size∨c > 0
  ·have hdb:=aGA b j
   have hzr:=aA3 hd (i:=i+j) (by omega)
   have hp:0≤rd (bytesOf a) i*rd (bytesOf b) j:=Int.mul_nonneg hda.1 hdb.1
   have hp2:rd (bytesOf a) i*rd (bytesOf b) j≤255*255:=Int.mul_le_mul (by omega) (by omega) hdb.1 (by omega)
   obtain ⟨n,hn⟩:∃ n,n=rd z ((i+j:Nat):Int)+rd (bytesOf a) i*rd (bytesOf b) j+c:=⟨_,rfl⟩
   have hdm:256*(n / 256)+n % 256=n:=Int.mul_ediv_add_emod _ _
   have next:=ih (j+1) (z.set (i+j) (n % 256)) (n / 256) (by omega) (by rw [List.length_set,hz]) (aBc hd _ (by omega) (by omega)) (by omega) (by
    rw [val_put _ _ _ _ (by omega),aAi,show i+(j+1)=i+j+1 by omega,Int.pow_succ]
    have e1:(256:Int) ^ (i+j)=256 ^ i*256 ^ j:=Int.pow_add _ _ _
    grind) K
   have c1:=F_at.eq a i
   have c2:=F_at.eq b j
   have p0:=aBb (P:=Tryz.prog) 3 false (i:Int) (j:Int) (by omega)
   rw [show (i:Int)+j=((i+j:Nat):Int) by omega] at p0
   have q1:=aBr (P:=Tryz.prog) i_ z (i+j) (by omega) .i64
   have q2:=aCo (P:=Tryz.prog) i_ z (i+j) (by omega) .i64
   have p1:=aNv (P:=Tryz.prog) 3 false (rd (bytesOf a) i) (rd (bytesOf b) j) (by omega)
   have p2:=aBb (P:=Tryz.prog) 3 false (rd z ((i+j:Nat):Int)) (rd (bytesOf a) i*rd (bytesOf b) j) (by omega)
   have p3:=aBb (P:=Tryz.prog) 3 false (rd z ((i+j:Nat):Int)+rd (bytesOf a) i*rd (bytesOf b) j) c (by omega)
   rw [← hn] at p3
   have p4:=aIw (P:=Tryz.prog) 3 true .i64 n 256 (by omega) (by decide)
   have q3:=aDo (P:=Tryz.prog) i_ z (i+j) (by omega) .i64 (n % 256)
   have p5:=aIv (P:=Tryz.prog) 3 true n 256 (by omega) (by decide)
   have p6:=aBb (P:=Tryz.prog) 3 true (j:Int) 1 (by omega)
   by_cases hj':j < b.size
   ·exact rp (aAs aAy b) (rT (by omega) (aAh 3 false .i64 j b.size) (rp p0 (rp q1 (rp q2 (rc F_at c1 (rc F_at c2 (rp p1 (rp p2 (rp p3 (rp p0 (rp p4 (rp q1 (rp q3 (rp p5 (rp p6 (ra next))))))))))))))))
   ·exact rp (aAs aAy b) (rF (by omega) (aAh 3 false .i64 j b.size) (rT (by omega) (aAA 3 true .i64 c 0) (rp p0 (rp q1 (rp q2 (rc F_at c1 (rc F_at c2 (rp p1 (rp p2 (rp p3 (rp p0 (rp p4 (rp q1 (rp q3 (rp p5 (rp p6 (ra next)))))))))))))))))
  ·obtain rfl:c=0:=by omega
   exact fin j z hz hd (by omega) (by rw [Int.mul_zero] at hv;omega) K
theorem aQE (z:List Int) (hd:Dig 256 z) (hs:z.length≤100000) (x:Nat) (hx:val 256 z=x) (e0 e1 e2 e3 e4 e5 e6 e7 e9 e10 e11:D) (r:Nat):∀ (i:Nat) (l:List Int),i+r=z.length→l=z.take i→Rn Tryz.prog (aBh aG9) aCh [aCh] [e0,e1,e2,e3,e4,e5,e6,e7,Il z,e9,e10,e11,i_ z.length,i_ i,Bl l] [s_ (N x)]:=by
 induction r with
 | zero =>
  intro i l hi hl
  rw [List.take_of_length_le (by omega)] at hl
  subst hl
  exact rF (by omega) (aAh 3 false .i64 i l.length) (rp (aFK l) (rc aAM (aGB hd hs hx) rr))
 | succ r ih =>
  intro i l hi hl
  have hr:=aA3 hd (i:=i) (by omega)
  have hll:l.length=i:=by rw [hl,List.length_take];omega
  have next:=ih (i+1) (l++[rd z i]) (by omega) (by rw [hl,aKm z i (by omega)])
  exact rT (by omega) (aAh 3 false .i64 i z.length) (rp (aBr i_ z i (by omega) .i64) (rp (aCo i_ z i (by omega) .i64) (rp (aFb aCC .i64 (rd z i) aDQ hr) (rp (aD9 l (rd z i) (by omega)) (rp (aBb 3 true (i:Int) 1 (by omega)) (ra next))))))
theorem aP9 (a b:ByteArray) (ha:a.size≤20000) (hb:b.size≤20000) (e2 e3 e4 e5 e6:D) (r:Nat):∀ (i:Nat) (z:List Int),i+r=a.size→z.length=a.size+b.size+1→Dig 256 z→val 256 z=val 256 ((bytesOf a).take i)*V b→Rn Tryz.prog (aBh aG9) aA4 [aA4] [s_ a,s_ b,e2,e3,e4,e5,e6,i_ i,Il z] [s_ (N (V a*V b))]:=by
 induction r with
 | zero =>
  intro i z hi hz hd hv
  rw [List.take_of_length_le (by rw [bytesOf_length];omega),← aCm,← Int.natCast_mul] at hv
  have:=aQE z hd (by omega) (V a*V b) hv (s_ a) (s_ b) e2 e3 e4 e5 e6 (i_ i) (i_ a.size) (b_ false) (Bl []) z.length 0 [] (by omega) rfl
  exact rp (aAs aAy a) (rF (by omega) (aAh 3 false .i64 i a.size) (rp aIx (rp (aSb z) (rl this))))
 | succ r ih =>
  intro i z hi hz hd hv
  have hda:=aGA a i
  have e1:=aAi 256 (bytesOf a) i
  have row:=aQD a b ha hb e2 e3 e4 e5 e6 (Il z) (i_ a.size) (b_ true) i (by omega) [s_ (N (V a*V b))] (val 256 z) ?_ (a.size+b.size+1 - i) 0 z 0 (by omega) hz hd (by omega) (by simp [val]) (fun z' hz' hd' hv'=>ih (i+1) z' (by omega) hz' hd' (by rw [hv',hv,e1,Int.add_mul,Int.mul_assoc]))
  ·exact rp (aAs aAy a) (rT (by omega) (aAh 3 false .i64 i a.size) (rl row))
  have h1:val 256 z+256 ^ i*(rd (bytesOf a) i*V b)=val 256 ((bytesOf a).take (i+1))*V b:=by rw [hv,e1,Int.add_mul,Int.mul_assoc]
  rw [h1]
  have h2:=aB4 (by decide) (aAC (aBA a) (i+1))
  rw [List.length_take,bytesOf_length,Nat.min_eq_left (by omega)] at h2
  have h3':=aMe b
  have h4:=aAx (by decide) (aAC (aBA a) (i+1))
  have h5:val 256 ((bytesOf a).take (i+1))*V b≤256 ^ (i+1)*256 ^ b.size:=Int.mul_le_mul (Int.le_of_lt h2) (Int.le_of_lt h3') (by omega) (Int.le_of_lt (Int.pow_pos (by decide)))
  rw [← Int.pow_add] at h5
  have h6:(256:Int) ^ (i+1+b.size) < 256 ^ (a.size+b.size+1):=by
   have:=Nat.pow_lt_pow_right (show 1 < 256 by decide) (show i+1+b.size < a.size+b.size+1 by omega)
   have e:∀ m:Nat,(256:Int) ^ m=((256 ^ m:Nat):Int):=fun m=>by rw [Int.natCast_pow];rfl
   rw [e,e]
   exact Int.ofNat_lt.2 this
  exact Int.lt_of_le_of_lt h5 h6
theorem aOl:Sx.Good Tryz.prog X.G 97 ⟨[.one,.one],.v1 .one⟩ aDs:=aAf aQA (fun _ _=>X.G_below) 400 (by kernel_rfl) (by kernel_rfl:_=some aCL) fun ds rs h=>by
 obtain ⟨a,b,rfl,ha,hb,rfl⟩:=S2.inv h
 have p1:=aBb (P:=Tryz.prog) 3 false (a.size:Int) (b.size:Int) (by omega)
 have p2:=aBb (P:=Tryz.prog) 3 true ((a.size:Int)+b.size) 1 (by omega)
 rw [show (a.size:Int)+b.size+1=((a.size+b.size+1:Nat):Int) by omega] at p2
 have p3:=aGl (P:=Tryz.prog) (fun x=>.int .i64 x) 8 (a.size+b.size+1) (by omega) (by omega) .i64 .i64
 have lp:=aP9 a b ha hb (i_ a.size) (i_ b.size) (i_ ((a.size:Int)+b.size)) (i_ ((a.size+b.size+1:Nat):Int)) (Il (List.replicate (a.size+b.size+1) 0)) a.size 0 _ (by omega) List.length_replicate (aAS (by decide) _) (by rw [aCA];simp [val])
 exact rp (aAs aAy a) (rp (aAs aAy b) (rp p1 (rp p2 (rp p3 (rl lp)))))
def aMf:Tb:=[(97,aDs),(111,F_from)]++tbR5
theorem okR6:TbOk Tryz.prog X.G aMf:=.cons (by kernel_rfl) aOl (.cons (by kernel_rfl) r_of okR5)
theorem aNk {x y:Nat}:aBm x y≤0 ↔ x≤y:=by
 unfold aBm
 split
 ·omega
 ·split<;>omega
theorem aT4 (a:ByteArray) (i m:Nat) (h:i < a.size):V (a.extract i (i+1)++N m)=(rd (bytesOf a) i).toNat+256*m:=by
 have h1:=aCm (a.extract i (i+1)++N m)
 have h2:=aGA a i
 rw [bytes_append,aBS,aAY,val_append,aBB,aEx _ _ (by rw [bytesOf_length];exact h),show i+1 - i=0+1 by omega,List.take_succ_cons,List.take_zero,aEJ] at h1
 simp only [List.length_cons,List.length_nil,Nat.zero_add,Int.pow_succ,Int.pow_zero,Int.one_mul] at h1
 omega
theorem aT5 {n:Nat} (h:n < 256):V (strOfNums [(n:Int)])=n:=by
 have:=aKD (aBa.2 ⟨(by omega:0≤(n:Int)∧(n:Int) < 256),aCt _⟩)
 rw [aEJ] at this
 omega
theorem aMg {b:ByteArray} (hb:b.size≤20000) {n:Nat} (h:n < 256):aDs [s_ b,s_ (strOfNums [(n:Int)])]=some [s_ (N (V b*n))]:=by
 have:=S2.eq (lim:=20000) (g:=fun x y=>[D.v (Value.string (N (x*y)))]) (a:=b) (b:=strOfNums [(n:Int)]) hb (by rw [aFj,List.length_singleton];decide)
 rw [aT5 h] at this
 exact this
theorem aPA (a b:ByteArray) (hb:b.size≤20000) (e2 e3 e4 e5 e6 e7 e8 e11 e12 e13 e14:D) (quot:List Int) (X i q M:Nat) (hX:(N X).size≤20001) (hq:q < 256) (hmq:∀ m,V b*m≤X ↔ m≤q) (hM:X - V b*q=M) (hi:i < quot.length) (hl:quot.length≤20000) (R:List D)
  (K:Rn Tryz.prog (aBh aMf) aAZ [aAZ] [s_ a,s_ b,e2,e3,e4,e5,e6,e7,s_ (N M),i_ ((i:Int) - 1),Bl (quot.set i (q:Int))] R) (r:Nat):∀ (lo hi:Nat),lo+r=hi→hi≤255→lo≤q→q≤hi →
  Rn Tryz.prog (aBh aMf) aCj [aAZ,aCj] [s_ a,s_ b,e2,e3,e4,e5,e6,e7,e8,i_ i,Bl quot,e11,e12,e13,e14,s_ (N X),i_ lo,i_ hi] R:=by
 induction r using Nat.strongRecOn with
 | _ r ih =>
  intro lo hi' hr hh h1 h2
  by_cases hlt:lo < hi'
  ·obtain ⟨mid,hm⟩:∃ mid,mid=(lo+hi'+1) / 2:=⟨_,rfl⟩
   have m1:mid < 256∧lo < mid∧mid≤hi':=by omega
   have hsm:(N (V b*mid)).size≤100000:=by
    have:=(aAP (V b*mid) (b.size+1)).2 (by rw [Nat.pow_succ];exact Nat.mul_lt_mul'' (aDH b) m1.1)
    omega
   have p1:=aBb (P:=Tryz.prog) 3 false (lo:Int) (hi':Int) (by omega)
   have p2:=aBb (P:=Tryz.prog) 3 true ((lo:Int)+hi') 1 (by omega)
   have p3:=aIv (P:=Tryz.prog) 3 true ((lo:Int)+hi'+1) 2 (by omega) (by decide)
   rw [show ((lo:Int)+hi'+1) / 2=(mid:Int) by omega] at p3
   have p4:=aFb (P:=Tryz.prog) aCC .i64 (mid:Int) aDQ (by omega)
   have p5:=aM6 (P:=Tryz.prog) [(mid:Int)]
   have c1:=aMg hb m1.1
   have c2:aE0 [s_ (N (V b*mid)),s_ (N X)]=some [i_ (aBm (V b*mid) X)]:=S2.eqN hsm (by omega)
   by_cases hc:mid≤q
   ·have next:=ih (hi' - mid) (by omega) mid hi' (by omega) hh hc h2
    exact rT (by omega) (aAh 3 false .i64 lo hi') (rp p1 (rp p2 (rp p3 (rp p4 (rp p5 (rc aDs c1 (rc aE0 c2 (rT (aNk.2 ((hmq mid).2 hc)) (aMI 3 true .i64 (aBm (V b*mid) X) 0) (ra next)))))))))
   ·have next:=ih (mid - 1 - lo) (by omega) lo (mid - 1) (by omega) (by omega) h1 (by omega)
    have p6:=aEC (P:=Tryz.prog) 3 true (mid:Int) 1 (by omega)
    rw [show (mid:Int) - 1=((mid - 1:Nat):Int) by omega] at p6
    exact rT (by omega) (aAh 3 false .i64 lo hi') (rp p1 (rp p2 (rp p3 (rp p4 (rp p5 (rc aDs c1 (rc aE0 c2 (rF (fun e=>hc ((hmq mid).1 (aNk.1 e))) (aMI 3 true .i64 (aBm (V b*mid) X) 0) (rp p6 (ra next))))))))))
  ·have e:lo=q:=by omega
   subst e
   have hle:V b*lo≤X:=(hmq lo).2 (Nat.le_refl _)
   have hs:(N (V b*lo)).size≤20001:=Nat.le_trans ((aAP _ (N X).size).2 (Nat.lt_of_le_of_lt hle ((aAP X _).1 (Nat.le_refl _)))) hX
   have c3:aHy [s_ (N X),s_ (N (V b*lo))]=some [s_ (N M),b_ true]:=by
    have h3:aHy [s_ (N X),s_ (N (V b*lo))]=some [s_ (aDm X (V b*lo)).1,b_ (aDm X (V b*lo)).2]:=S2.eqN (by omega) (by omega)
    unfold aDm at h3
    rw [if_neg (by omega),hM] at h3
    exact h3
   have p4:=aFb (P:=Tryz.prog) aCC .i64 (lo:Int) aDQ (by omega)
   have p5:=aM6 (P:=Tryz.prog) [(lo:Int)]
   exact rF (by omega) (aAh 3 false .i64 lo hi') (rp p4 (rp p5 (rc aDs (aMg hb hq) (rc aHy c3 (rp p4 (rp (aBr y_ quot i (by omega) .i64) (rp (aDo y_ quot i (by omega) .i64 (lo:Int)) (rp (aEC 3 true (i:Int) 1 (by omega)) (ra K)))))))))
theorem aPB (a b:ByteArray) (ha:a.size≤20000) (hb:b.size≤20000) (hb0:0 < V b) (e2 e3 e4 e5 e6 e7:D) (r:Nat):∀ (quot:List Int) (p:Nat),r≤a.size→quot.length=a.size→Dig 256 quot→p < V b →
  val 256 ((bytesOf a).drop r)=val 256 (quot.drop r)*V b+p→Rn Tryz.prog (aBh aMf) aAZ [aAZ] [s_ a,s_ b,e2,e3,e4,e5,e6,e7,s_ (N p),i_ ((r:Int) - 1),Bl quot] [s_ (N (V a / V b)),s_ (N (V a % V b)),b_ true]:=by
 induction r with
 | zero =>
  intro quot p hr hl hd hp hv
  rw [List.drop_zero,List.drop_zero,← aCm] at hv
  have h0:=aAx (by decide) hd
  obtain ⟨Q,hQ⟩:=Int.eq_ofNat_of_zero_le h0
  rw [hQ] at hv
  have h2:V a=V b*Q+p:=by
   rw [← Int.natCast_mul] at hv
   have:=Nat.mul_comm (V b) Q
   omega
  rw [h2,Nat.mul_add_div hb0,Nat.div_eq_of_lt hp,Nat.add_zero,Nat.mul_add_mod,Nat.mod_eq_of_lt hp]
  exact rF (by omega) (aDR 3 true .i64 (((0:Nat):Int) - 1) 0) (rp (aFK quot) (rc aAM (aGB hd (by omega) hQ) rr))
 | succ r ih =>
  intro quot p hr hl hd hp hv
  have hb1:=aGA a r
  have hps:(N p).size≤b.size:=aDw (Nat.le_of_lt hp)
  have hes:(a.extract r (r+1)).size=1:=by rw [ByteArray.size_extract];omega
  obtain ⟨X,hX⟩:∃ X,X=(rd (bytesOf a) r).toNat+256*p:=⟨_,rfl⟩
  have hXl:X < 256*V b:=by omega
  have hXs:(N X).size≤b.size+1:=(aAP X _).2 (by
   have:=aDH b
   rw [Nat.pow_succ]
   omega)
  have c1:aAM [s_ (a.extract r (r+1)++N p)]=some [s_ (N X)]:=by
   have h1:aAM [s_ (a.extract r (r+1)++N p)]=some [s_ (N (V (a.extract r (r+1)++N p)))]:=S1.eq (by rw [ByteArray.size_append,hes];omega)
   rw [aT4 a r p (by omega),← hX] at h1
   exact h1
  have hq:X / V b < 256:=Nat.div_lt_of_lt_mul (by rw [Nat.mul_comm];exact hXl)
  obtain ⟨q,hQ⟩:∃ q,q=X / V b:=⟨_,rfl⟩
  obtain ⟨M,hM⟩:∃ M,M=X % V b:=⟨_,rfl⟩
  have h3:V b*q+M=X:=by rw [hQ,hM];exact Nat.div_add_mod _ _
  have hMl:M < V b:=by rw [hM];exact Nat.mod_lt _ hb0
  have hmq:∀ m,V b*m≤X ↔ m≤q:=fun m=>by rw [hQ,Nat.mul_comm];exact (Nat.le_div_iff_mul_le hb0).symm
  rw [← hQ] at hq
  clear hQ hM
  have es:((r+1:Nat):Int) - 1=(r:Int):=by omega
  rw [es]
  have p1:=aBb (P:=Tryz.prog) 3 true (r:Int) 1 (by omega)
  have p2:=aSR (P:=Tryz.prog) aAy a .i64 .i64 r (r+1) (by omega) hr
  have p3:=aCS (P:=Tryz.prog) 9 false (a.extract r (r+1)) (N p) (by omega)
  have find:=aPA a b hb e2 e3 e4 e5 e6 e7 (s_ (N p)) (b_ true) (i_ ((r+1:Nat):Int)) (s_ (a.extract r (r+1))) (s_ (a.extract r (r+1)++N p)) quot X r q M (by omega) hq hmq (by omega) (by omega) (by omega) [s_ (N (V a / V b)),s_ (N (V a % V b)),b_ true] ?_ 255 0 255 (by omega) (by omega) (by omega) (by omega)
  ·exact rT (by omega) (aDR 3 true .i64 (r:Int) 0) (rp p1 (rp p2 (rp p3 (rc aAM c1 (rl find)))))
  refine ih (quot.set r (q:Int)) M (by omega) (by rw [List.length_set,hl]) (aBc hd _ (by omega) (by omega)) hMl ?_
  rw [aEx (bytesOf a) r (by rw [bytesOf_length];omega),val,aGI _ _ _ (by omega),val,hv]
  have h2:(X:Int)=rd (bytesOf a) r+256*p:=by omega
  have h4:((V b*q+M:Nat):Int)=X:=by rw [h3]
  rw [Int.natCast_add,Int.natCast_mul] at h4
  clear h3 hmq ih hXl hXs hMl p1 p2 p3 c1
  generalize val 256 (quot.drop (r+1))=Z
  generalize (V b:Int)=D at *
  generalize rd (bytesOf a) r=x at *
  generalize (q:Int)=q at *
  generalize (M:Int)=M at *
  generalize (p:Int)=p at *
  generalize (X:Int)=X at *
  grind
theorem aKI {x:Nat}:N x=(⟨#[]⟩:ByteArray) ↔ x=0:=by rw [← aDa,aKG]
theorem aRI:Sx.Good Tryz.prog X.G 130 ⟨[.one,.one],.tup [.one,.one,.one]⟩ aCl:=aAf okR6 (fun _ _=>X.G_below) 400 (by kernel_rfl) (by kernel_rfl:_=some aCN) fun ds rs h=>by
 obtain ⟨a,b,rfl,ha,hb,rfl⟩:=S2.inv h
 have c1:aAM [s_ b]=some [s_ (N (V b))]:=S1.eq (by omega)
 unfold aCq
 by_cases h:V b=0
 ·rw [if_pos h]
  exact rc aAM c1 (rT (aKI.2 h) (aD0 9 true (N (V b)) ⟨#[]⟩) rr)
 ·rw [if_neg h]
  have p3:=aGl (P:=Tryz.prog) (fun x=>.int .u8 x) 1 a.size (by omega) (by omega) .i64 .i64
  have lp:=aPB a b ha hb (by omega) (s_ (N (V b))) (b_ false) (i_ a.size) (Bl (List.replicate a.size 0)) (i_ a.size) (i_ ((a.size:Int) - 1)) a.size _ 0 (Nat.le_refl _) List.length_replicate (aAS (by decide) _) (by omega) (by rw [List.drop_eq_nil_of_le (by rw [bytesOf_length];exact Nat.le_refl _),List.drop_eq_nil_of_le (by rw [List.length_replicate];exact Nat.le_refl _)];simp [val])
  rw [aDa] at lp
  exact rc aAM c1 (rF (fun e=>h (aKI.1 e)) (aD0 9 true (N (V b)) ⟨#[]⟩) (rp (aAs aAy a) (rp p3 (rp (aAs aAy a) (rp (aEC 3 true (a.size:Int) 1 (by omega)) (rl lp))))))
def tbR7:Tb:=(130,aCl)::aMf
theorem okR7:TbOk Tryz.prog X.G tbR7:=.cons (by kernel_rfl) aRI okR6
theorem aPC (e0 e1 e2 e3:D) (n:Nat):∀ (x y:Nat),y=n→(N x).size≤20000→(N y).size≤20000→Rn Tryz.prog (aBh tbR7) aCk [aCk] [e0,e1,e2,e3,s_ (N x),s_ (N y)] [s_ (N (Nat.gcd x y))]:=by
 induction n using Nat.strongRecOn with
 | _ n ih =>
  intro x y hn hx hy
  by_cases h:y=0
  ·subst h
   rw [Nat.gcd_zero_right]
   exact rF (not_not_intro (aKI.2 rfl)) (aKV 9 true (N 0) ⟨#[]⟩) rr
  ·have h1:aCl [s_ (N x),s_ (N y)]=some [s_ (aCq x y).1,s_ (aCq x y).2.1,b_ (aCq x y).2.2]:=S2.eqN hx hy
   unfold aCq at h1
   rw [if_neg h] at h1
   have hlt:x % y < y:=Nat.mod_lt _ (by omega)
   have next:=ih (x % y) (by omega) y (x % y) rfl hy (Nat.le_trans ((aAP _ (N y).size).2 (Nat.lt_trans hlt ((aAP y _).1 (Nat.le_refl _)))) hy)
   have hg:Nat.gcd y (x % y)=Nat.gcd x y:=by rw [Nat.gcd_comm y (x % y),← Nat.gcd_rec,Nat.gcd_comm]
   rw [hg] at next
   exact rT (mt aKI.1 h) (aKV 9 true (N y) ⟨#[]⟩) (rc aCl h1 (ra next))
theorem aTV:Sx.Good Tryz.prog X.G 129 ⟨[.one,.one],.v1 .one⟩ aAH:=aAf okR7 (fun _ _=>X.G_below) 400 (by kernel_rfl) (by kernel_rfl:_=some aCO) fun ds rs h=>by
 obtain ⟨a,b,rfl,ha,hb,rfl⟩:=S2.inv h
 have c1:aAM [s_ a]=some [s_ (N (V a))]:=S1.eq (by omega)
 have c2:aAM [s_ b]=some [s_ (N (V b))]:=S1.eq (by omega)
 exact rc aAM c1 (rc aAM c2 (rl (aPC (s_ a) (s_ b) (s_ (N (V a))) (s_ (N (V b))) _ (V a) (V b) rfl (aCr ha) (aCr hb))))
def tbR:Tb:=[(95,aDD),(155,aGz),(144,aF7),(97,aDs),(145,aF8),(130,aCl),(129,aAH),(111,F_from)]
theorem okR:TbOk Tryz.prog X.G tbR:=.cons (by kernel_rfl) (aFB aMd (S1.weak (by decide))) <| .cons (by kernel_rfl) (aFB aRF (S2.weak (by decide))) <| .cons (by kernel_rfl) aRG <| .cons (by kernel_rfl) aOl <| .cons (by kernel_rfl) (aFB aRH (S2.weak (by decide))) <| .cons (by kernel_rfl) aRI <| .cons (by kernel_rfl) aTV <| .cons (by kernel_rfl) r_of <| trivial
end Go.Proofs.YtjefbecmeobegaaGreatDoor.Sp
