import Derived.Test.YtjefbecmeobegaaGreatDoorSpL
import Derived.Test.YtjefbecmeobegaaGreatDoorTr1
import Derived.Test.YtjefbecmeobegaaGreatDoorNatD
import Derived.Test.YtjefbecmeobegaaGreatDoorPxNA
namespace Go.Proofs.YtjefbecmeobegaaGreatDoor.Sp
open Go Go.RowKit YtjefbecmeobegaaGreatDoorW.PrintWords P Sx NatA NatB NatC NatD NatI NatJ
abbrev u_ (x:Int):D:=.v (.int .u32 x)
def Ul (l:List Int):D:=.l l.length (l.map u_)
section
variable {P:Program}
theorem aMZ (op:BinOp) (t:TypeId) (kk:Bool) (k q:IntKind) (a b:Int) {v:Value} (h:quiet P (binOp op t (.int k a) (.int q b))=some v) (hc:aAS v=true):(Pu.bin op t kk).run P [.one (.v (.int k a)),.one (.v (.int q b))]=some (.v v):=by
 show ((quiet P (do eqGuard op t (aB6 kk) (aB6 kk) (.int k a) (.int q b);binOp op t (.int k a) (.int q b))).bind _)=_
 have e:quiet P (eqGuard op t (aB6 kk) (aB6 kk) (.int k a) (.int q b))=some ():=by cases op<;>rfl
 rw [aAa e h,Option.bind_some,if_pos hc]
theorem aT9 (t:TypeId) (kk:Bool) (k q:IntKind) (x:Int) (j:Nat):(Pu.bin .shl t kk).run P [.one (.v (.int k x)),.one (.v (.int q (j:Int)))]=some (.v (.int k (shl k x (j:Int)))):=aMZ .shl t kk k q x j (by
 show quiet P (Op.shift .shl k x q (j:Int))=_
 unfold Op.shift
 rw [if_neg kJ]
 rfl) rfl
theorem aHo (t:TypeId) (kk:Bool) (k q:IntKind) (x:Int) (j:Nat):(Pu.bin .shr t kk).run P [.one (.v (.int k x)),.one (.v (.int q (j:Int)))]=some (.v (.int k (shr k x (j:Int)))):=aMZ .shr t kk k q x j (by
 show quiet P (Op.shift .shr k x q (j:Int))=_
 unfold Op.shift
 rw [if_neg kJ]
 show some (Value.int k (x.fdiv (2 ^ min (j:Int).toNat k.bits)))=_
 rw [Int.fdiv_eq_ediv_of_nonneg _ (Int.le_of_lt (aDl kQ _))]
 rfl) rfl
theorem aRN (t:TypeId) (kk:Bool) (k:IntKind) (a b:Int):(Pu.bin .or t kk).run P [.one (.v (.int k a)),.one (.v (.int k b))]=some (.v (.int k (bits .or k a b))):=aCa .or t kk k a b (by cases k<;>rfl) rfl
theorem aFl {src dst:TypeId} (hd:P.underlying dst=some (.int .u32)) (k:IntKind) (n:Int) {d:TypeDesc} (hs:P.underlying src=some d):(Pu.conv src dst).run P [.one (.v (.int k n))]=some (u_ (n % 4294967296)):=by rw [aDv hd k n hs,wrap_u32]
theorem aDP {src dst:TypeId} (hd:P.underlying dst=some (.int .u64)) (k:IntKind) (n:Int) {d:TypeDesc} (hs:P.underlying src=some d) (h:0<=n/\n < 18446744073709551616):(Pu.conv src dst).run P [.one (.v (.int k n))]=some (w_ n):=by rw [aDv hd k n hs,wu h.1 h.2]
theorem aFR (t:TypeId) (kk:Bool) (a b:Int) (h:0<=a+b/\a+b < 18446744073709551616):(Pu.bin .add t kk).run P [.one (w_ a),.one (w_ b)]=some (w_ (a+b)):=by rw [aEf,wu h.1 h.2]
theorem aAM (l:List Int):Pu.llen.run P [.one (Ul l)]=some (i_ l.length):=rfl
end
theorem aB2:Tryz.prog.underlying 143=some (.int .u32):=by kernel_rfl
def aBQ:Fct:=S1 400000 λ x=>[D.v (Value.string (N x))]
theorem g_normB:Sx.Good Tryz.prog X.G 123 ⟨[.one],.v1 .one⟩ aBQ:=aDc λ ds rs h=>by
 obtain ⟨a,rfl,ha,rfl⟩:=S1.inv h
 obtain ⟨k,hk⟩:=(NatJ.ev_normalize a kJ).rounds
 exact ⟨[.string a],[Value.string (N (V a))],rfl,rfl,rfl,rfl,λ w hw=>(nat_Normalize.calls k a _ w hk).mono λ e w' ⟨h1,h2⟩=>⟨h1,h2⟩⟩
def aQu:Tb:=[(123,aBQ),(150,aGE)]
theorem okM0:TbOk Tryz.prog X.G aQu:=.cons kK g_normB (.cons kK g_cmp trivial)
def F_limbs:Fct
 | [.v (.string a)]=>if a.size<=100000 then some [Ul (lb (V a))] else none
 | _=>none
theorem F_limbs.eq {a:ByteArray} (h:a.size<=100000):F_limbs [s_ a]=some [Ul (lb (V a))]:=if_pos h
theorem aNP {C:Cf} (n:Nat) (hs:(N n).size<=100000) (L:Nat) (hL:L=((N n).size+3) / 4) (e0 e2 e3 e4 e5 e6:D) (r:Nat):∀ (i:Nat) (x:List Int),i+r=(N n).size->x.length=L->Dig 4294967296 x->val 4294967296 x=val 256 ((nb n).take i) ->
  Rn Tryz.prog C aEv [aEv] [e0,s_ (N n),e2,e3,e4,e5,e6,i_ (N n).size,i_ i,Ul x] [Ul (lb n)]:=by
 have ln:(nb n).length=(N n).size:=by rw [<- bytesOf_length,aBa]
 induction r with
 | zero =>
  intro i x hi h3 hd hv
  rw [List.take_of_length_le kJ,aBO] at hv
  have:=aMq x hd (by
   by_cases hz:x.length=0
   ·exact .inl hz
   ·right
    have h1:=aEs (x:=n) (s:=4*(x.length - 1)) kJ
    have h2:((256 ^ (4*(x.length - 1)):Nat):Int)=4294967296 ^ (x.length - 1):=by rw [Int.natCast_pow];exact aFw _
    omega)
  rw [hv,Int.toNat_natCast] at this
  rw [this]
  exact rF kJ (aAi 3 false .i64 i (N n).size) rr
 | succ r ih =>
  intro i x hi h3 hd hv
  have hb:=aFh kQ (aBN (N n)) i
  rw [aBa] at hb
  have h1:=aAA hd (i:=i / 4) kJ
  have hlt:val 4294967296 x < 256 ^ (4*(i / 4)+i % 4):=by
   rw [hv,show 4*(i / 4)+i % 4=i by omega]
   have:=aBG (B:=256) kQ (aAG (aC9 n) i)
   rw [List.length_take,Nat.min_eq_left kJ] at this
   exact this
  have h2:=aMm hd (q:=i / 4) (r:=i % 4) kJ hlt
  have hor:=aN5 (rd x ((i / 4:Nat):Int)) (rd (nb n) (i:Int)) (i % 4) kJ h1.1 h2 hb
  have hnew:rd x ((i / 4:Nat):Int)+rd (nb n) (i:Int)*256 ^ (i % 4) < 4294967296:=by
   rcases (by omega:i % 4=0\/i % 4=1\/i % 4=2\/i % 4=3) with h | h | h | h<;>rw [h] at h2 ⊢
   ·rw [Int.pow_zero] at h2 ⊢;omega
   ·rw [show (256:Int) ^ 1=256 from rfl] at h2 ⊢;omega
   ·rw [show (256:Int) ^ 2=65536 from rfl] at h2 ⊢;omega
   ·rw [show (256:Int) ^ 3=16777216 from rfl] at h2 ⊢;omega
  have h5:0<=rd (nb n) (i:Int)*256 ^ (i % 4):=Int.mul_nonneg hb.1 (Int.le_of_lt (aDl kQ _))
  have next:=ih (i+1) (x.set (i / 4) (rd x ((i / 4:Nat):Int)+rd (nb n) (i:Int)*256 ^ (i % 4))) kJ (by rw [List.length_set,h3]) (aBk hd _ kJ hnew) (by
   rw [aDy _ _ _ _ kJ,hv,aBD _ _ _ kJ]
   have e:=aIE (i / 4) (i % 4)
   rw [show 4*(i / 4)+i % 4=i by omega] at e
   rw [e,show ∀ x y:Int,x+y - x=y from λ x y=>by omega,Int.mul_comm (rd (nb n) (i:Int)),<- Int.mul_assoc])
  have p1:=aIP (P:=Tryz.prog) 3 true (i:Int) 4 kJ kQ
  rw [show (i:Int) / 4=((i / 4:Nat):Int) by omega] at p1
  have p2:=aB3 (P:=Tryz.prog) u_ x (i / 4) kJ .i64
  have p3:=aC2 (P:=Tryz.prog) u_ x (i / 4) kJ .i64
  have p4:=aHR (P:=Tryz.prog) aA5 (N n) i kJ .i64
  rw [aBa] at p4
  have p5:=aFl (P:=Tryz.prog) aB2 .u8 (rd (nb n) (i:Int)) aCP
  have p6:=aIQ (P:=Tryz.prog) 3 true .i64 (i:Int) 4 kJ kQ
  rw [show (i:Int) % 4=((i % 4:Nat):Int) by omega] at p6
  have p7:=aNQ (P:=Tryz.prog) 3 true 8 ((i % 4:Nat):Int) kJ
  rw [show (8:Int)*((i % 4:Nat):Int)=((8*(i % 4):Nat):Int) by omega] at p7
  have p8:=aT9 (P:=Tryz.prog) 143 false .u32 .i64 (rd (nb n) (i:Int) % 4294967296) (8*(i % 4))
  have p9:=aRN (P:=Tryz.prog) 143 false .u32 (rd x ((i / 4:Nat):Int)) (shl .u32 (rd (nb n) (i:Int) % 4294967296) ((8*(i % 4):Nat):Int))
  rw [hor] at p9
  have p11:=aD3 (P:=Tryz.prog) u_ x (i / 4) kJ .i64 (rd x ((i / 4:Nat):Int)+rd (nb n) (i:Int)*256 ^ (i % 4))
  have p12:=aBh (P:=Tryz.prog) 3 true (i:Int) 1 kJ
  exact rT kJ (aAi 3 false .i64 i (N n).size) (rp p1 (rp p2 (rp p3 (rp p4 (rp p5 (rp p6 (rp p7 (rp p8 (rp p9 (rp p2 (rp p11 (rp p12 (ra next)))))))))))))
theorem g_limbs:Sx.Good Tryz.prog X.G 149 ⟨[.one],.v1 .one⟩ F_limbs:=aAe okM0 (λ _ _=>X.G_below) 400 kK (by kernel_rfl:_=some aMV) λ ds rs h=>by
 unfold F_limbs at h
 split at h
 ·rename_i a
  split at h
  ·rename_i ha
   obtain rfl:=Option.some.inj h
   have n1:aBQ [s_ a]=some [s_ (N (V a))]:=S1.eq kJ
   have hs:=aC6 ha
   obtain ⟨n,hn⟩:∃ n,n=V a:=⟨_,rfl⟩
   rw [<- hn] at n1 hs ⊢
   have p1:=aBh (P:=Tryz.prog) 3 true ((N n).size:Int) 4 kJ
   have p2:=aEP (P:=Tryz.prog) 3 true (((N n).size:Int)+4) 1 kJ
   have p3:=aIP (P:=Tryz.prog) 3 true (((N n).size:Int)+4 - 1) 4 kJ kQ
   rw [show (((N n).size:Int)+4 - 1) / 4=((((N n).size+3) / 4:Nat):Int) by omega] at p3
   have p4:=aGz (P:=Tryz.prog) (λ x=>Value.int .u32 x) 4 (((N n).size+3) / 4) kJ kJ .i64 .i64
   have loop:=aNP (C:=aBp aQu) n hs _ rfl (s_ a) (i_ (N n).size) (i_ (((N n).size:Int)+4)) (i_ (((N n).size:Int)+4 - 1)) (i_ ((((N n).size+3) / 4:Nat):Int)) (Ul (List.replicate (((N n).size+3) / 4) 0)) (N n).size 0 (List.replicate (((N n).size+3) / 4) 0) kJ (List.length_replicate ..) (aAU kQ _) (by rw [aCN];simp [val])
   exact rc aBQ n1 (rp (aAu aA5 (N n)) (rp p1 (rp p2 (rp p3 (rp p4 (rp (aAu aA5 (N n)) (rl loop)))))))
  ·cases h
 ·cases h
def aQv:Tb:=(149,F_limbs)::aQu
theorem okM1:TbOk Tryz.prog X.G aQv:=.cons kK g_limbs okM0
def aIx:List D->Option (List Int)
 | []=>some []
 | .v (.int .u32 x)::l=>if 0<=x/\x < 4294967296 then (aIx l).map (x::·) else none
 | _=>none
theorem aLw:∀ {ds:List D} {l:List Int},aIx ds=some l->ds=l.map u_/\Dig 4294967296 l
 | [],l,h=>by
  obtain rfl:=Option.some.inj h
  exact ⟨rfl,aC8 _⟩
 | d::ds,l,h=>by
  unfold aIx at h
  split at h
  ·rename_i h2
   cases h2
  ·rename_i x t h2
   injection h2 with h3 h4
   subst h3
   subst h4
   split at h
   ·rename_i hx
    obtain ⟨ys,h5,rfl⟩:=Option.map_eq_some_iff.1 h
    obtain ⟨h6,h7⟩:=aLw h5
    exact ⟨by rw [h6];rfl,aBf.2 ⟨hx,h7⟩⟩
   ·cases h
  ·cases h
theorem aNa:∀ {l:List Int},Dig 4294967296 l->aIx (l.map u_)=some l
 | [],_=>rfl
 | x::l,h=>by
  have h1:=aBf.1 h
  show (if 0<=x/\x < 4294967296 then (aIx (l.map u_)).map (x::·) else none)=_
  rw [if_pos h1.1,aNa h1.2]
  rfl
def F_mag:Fct
 | [.l n ds]=>(aIx ds).bind λ l=>if n=l.length/\l.length<=100000 then some [s_ (N (val 4294967296 l).toNat)] else none
 | _=>none
theorem F_mag.eq {l:List Int} (h:Dig 4294967296 l) (hl:l.length<=100000):F_mag [Ul l]=some [s_ (N (val 4294967296 l).toNat)]:=by
 show (aIx (l.map u_)).bind _=_
 rw [aNa h,Option.bind_some,if_pos ⟨rfl,hl⟩]
theorem F_mag.inv {ds rs:List D} (h:F_mag ds=some rs):∃ l,ds=[Ul l]/\Dig 4294967296 l/\l.length<=100000/\rs=[s_ (N (val 4294967296 l).toNat)]:=by
 unfold F_mag at h
 split at h
 ·rename_i n ds
  obtain ⟨l,h1,h2⟩:=Option.bind_eq_some_iff.1 h
  split at h2
  ·rename_i hc
   obtain ⟨rfl,hd⟩:=aLw h1
   obtain ⟨rfl,hl⟩:=hc
   exact ⟨l,rfl,hd,hl,(Option.some.inj h2).symm⟩
  ·cases h2
 ·cases h
theorem aQw (l:List Int) (hl:Dig 4294967296 l) (hs:l.length<=100000) (e1 e2 e3:D) (r:Nat):∀ (i:Nat) (x:List Int),i+r=l.length->x.length=4*i->Dig 256 x->val 256 x=val 4294967296 (l.take i) ->
  Rn Tryz.prog (aBp aQv) aFx [aFx] [Ul l,e1,e2,e3,i_ l.length,i_ i,Bl x] [s_ (N (val 4294967296 l).toNat)]:=by
 induction r with
 | zero =>
  intro i x hi hx hd hv
  rw [List.take_of_length_le kJ] at hv
  have hV:=aLk hd
  have n1:aBQ [s_ (strOfNums x)]=some [s_ (N (V (strOfNums x)))]:=S1.eq (by rw [aFv];omega)
  rw [show V (strOfNums x)=(val 4294967296 l).toNat by omega] at n1
  exact rF kJ (aAi 3 false .i64 i l.length) (rp (aFS x) (rc aBQ n1 rr))
 | succ r ih =>
  intro i x hi hx hd hv
  have h1:=aAA hl (i:=i) kJ
  obtain ⟨v,hv'⟩:∃ v,v=rd l (i:Int):=⟨_,rfl⟩
  rw [<- hv'] at h1
  have next:=ih (i+1) (x++four v) kJ (by rw [List.length_append,hx];show 4*i+4=_;omega) (aDY.2 ⟨hd,aMk v⟩) (by
   rw [val_append,hv,hx,aFw,aMl h1,aBD _ _ _ kJ,<- hv'])
  have p1:=aB3 (P:=Tryz.prog) u_ l i kJ .i64
  have p2:=aC2 (P:=Tryz.prog) u_ l i kJ .i64
  rw [<- hv'] at p2
  have s (j:Nat) (hj:j<=32):(Pu.bin .shr 143 false).run Tryz.prog [.one (u_ v),.one (i_ (j:Int))]=some (u_ (v / 2 ^ j)):=by
   have:=aHo (P:=Tryz.prog) 143 false .u32 .i64 v j
   rw [aId v j hj] at this
   exact this
  have c (z:Int):(Pu.conv 143 5).run Tryz.prog [.one (u_ z)]=some (y_ (z % 256)):=by
   rw [aDv aCP .u32 z aB2]
   have:IntKind.u8.wrap z=z % 256:=by simp [IntKind.wrap,IntKind.bits,IntKind.signed]
   rw [this]
  have e4:x++four v=x++[v / 2 ^ 0 % 256]++[v / 2 ^ 8 % 256]++[v / 2 ^ 16 % 256]++[v / 2 ^ 24 % 256]:=by
   unfold four
   simp
  rw [e4] at next
  have a1:=aDQ (P:=Tryz.prog) x (v / 2 ^ 0 % 256) kJ
  have a2:=aDQ (P:=Tryz.prog) (x++[v / 2 ^ 0 % 256]) (v / 2 ^ 8 % 256) (by rw [List.length_append,hx];show 4*i+1<=_;omega)
  have a3:=aDQ (P:=Tryz.prog) (x++[v / 2 ^ 0 % 256]++[v / 2 ^ 8 % 256]) (v / 2 ^ 16 % 256) (by rw [List.length_append,List.length_append,hx];show 4*i+1+1<=_;omega)
  have a4:=aDQ (P:=Tryz.prog) (x++[v / 2 ^ 0 % 256]++[v / 2 ^ 8 % 256]++[v / 2 ^ 16 % 256]) (v / 2 ^ 24 % 256) (by rw [List.length_append,List.length_append,List.length_append,hx];show 4*i+1+1+1<=_;omega)
  have p3:=aBh (P:=Tryz.prog) 3 true (i:Int) 1 kJ
  exact rT kJ (aAi 3 false .i64 i l.length) (rp p1 (rp p2 (rp (s 0 kQ) (rp (c (v / 2 ^ 0)) (rp a1 (rp (s 8 kQ) (rp (c (v / 2 ^ 8)) (rp a2 (rp (s 16 kQ) (rp (c (v / 2 ^ 16)) (rp a3 (rp (s 24 kQ) (rp (c (v / 2 ^ 24)) (rp a4 (rp p3 (ra next))))))))))))))))
theorem g_mag:Sx.Good Tryz.prog X.G 147 ⟨[.one],.v1 .one⟩ F_mag:=aAe okM1 (λ _ _=>X.G_below) 400 kK (by kernel_rfl:_=some aPK) λ ds rs h=>by
 obtain ⟨l,rfl,hd,hl,rfl⟩:=F_mag.inv h
 have p1:=aNQ (P:=Tryz.prog) 3 true 4 (l.length:Int) kJ
 have p2:(Pu.lmake (.int .u8 0) 1).run Tryz.prog [.one (i_ 0),.one (i_ (4*(l.length:Int)))]=some (Bl []):=by
  show (if 0<=(0:Int)/\(0:Int)<=4*(l.length:Int)/\aCh (4*(l.length:Int)).toNat 1=true then some (D.l 0 (List.replicate 0 (.v (.int .u8 0)))) else none)=_
  rw [if_pos ⟨by omega,by omega,aIy kJ kJ⟩]
  rfl
 exact rp (aAM l) (rp p1 (rp p2 (rp (aAM l) (rl (aQw l hd hl (i_ l.length) (i_ (4*(l.length:Int))) (Bl []) l.length 0 [] kJ rfl (aC8 _) (by simp [val]))))))
def aLx:Tb:=(147,F_mag)::aQv
theorem aQx:TbOk Tryz.prog X.G aLx:=.cons kK g_mag okM1
theorem aOV (x y:List Int) (hx:Dig 4294967296 x) (hy:Dig 4294967296 y) (hl:y.length<=x.length) (hs:x.length<=20000) (e0 e1 e4 e5 e6 e7 e8 e9:D) (r:Nat):∀ (i:Nat) (z:List Int) (c:Int),i+r=x.length->z.length=x.length+1->Dig 4294967296 z->(0<=c/\c<=1) ->
  val 4294967296 (z.take i)+4294967296 ^ i*c=val 4294967296 (x.take i)+val 4294967296 (y.take i)->Rn Tryz.prog (aBp aLx) aFy [aFy] [e0,e1,Ul y,Ul x,e4,e5,e6,e7,e8,e9,i_ x.length,u_ c,i_ i,Ul z] [s_ (N (val 4294967296 x+val 4294967296 y).toNat)]:=by
 induction r with
 | zero =>
  intro i z c hi hz hd hc hv
  have hw:val 4294967296 (z.set x.length c)=val 4294967296 x+val 4294967296 y:=by
   rw [List.take_of_length_le (l:=x) kJ,List.take_of_length_le (l:=y) kJ] at hv
   have:=aCc 4294967296 z x.length c kJ
   rw [List.take_of_length_le (by rw [List.length_set];omega)] at this
   rw [this,<- hv,show x.length=i by omega]
  have m:=F_mag.eq (l:=z.set x.length c) (aBk hd _ hc.1 kJ) (by rw [List.length_set];omega)
  rw [hw] at m
  have p1:=aB3 (P:=Tryz.prog) u_ z x.length kJ .i64
  have p2:=aD3 (P:=Tryz.prog) u_ z x.length kJ .i64 c
  exact rF kJ (aAi 3 false .i64 i x.length) (rp (aAM x) (rp p1 (rp p2 (rc F_mag m rr))))
 | succ r ih =>
  intro i z c hi hz hd hc hv
  have h1:=aAA hx (i:=i) kJ
  have h2:=aFh kQ hy i
  obtain ⟨s,hs'⟩:∃ s,s=rd x i+rd y i+c:=⟨_,rfl⟩
  have next:=ih (i+1) (z.set i (s % 4294967296)) (s / 4294967296) kJ (by rw [List.length_set,hz]) (aBk hd _ kJ kJ) kJ (by
   rw [aCc _ _ _ _ kJ,aAk _ x,aAk _ y,Int.pow_succ]
   have e:(4294967296:Int) ^ i*(s % 4294967296)+4294967296 ^ i*4294967296*(s / 4294967296)=4294967296 ^ i*rd x i+4294967296 ^ i*rd y i+4294967296 ^ i*c:=by
    rw [Int.mul_assoc,<- Int.mul_add,<- Int.mul_add,<- Int.mul_add]
    congr 1
    omega
   omega)
  obtain ⟨a,ha⟩:∃ a,a=rd x (i:Int):=⟨_,rfl⟩
  obtain ⟨b,hb⟩:∃ a,a=rd y (i:Int):=⟨_,rfl⟩
  have g1:=aB3 (P:=Tryz.prog) u_ x i kJ .i64
  have g2:=aC2 (P:=Tryz.prog) u_ x i kJ .i64
  have g5:=aB3 (P:=Tryz.prog) u_ z i kJ .i64
  have g6:=aD3 (P:=Tryz.prog) u_ z i kJ .i64 (s % 4294967296)
  rw [<- ha] at h1 hs' g2
  rw [<- hb] at h2 hs'
  have c1:=aDP (P:=Tryz.prog) aBA .u32 a aB2 kJ
  have c2:=aDP (P:=Tryz.prog) aBA .u32 b aB2 kJ
  have c3:=aDP (P:=Tryz.prog) aBA .u32 c aB2 kJ
  have a1:=aFR (P:=Tryz.prog) 116 false a b kJ
  have a2:=aFR (P:=Tryz.prog) 116 false (a+b) c kJ
  rw [<- hs'] at a2
  have c4:=aFl (P:=Tryz.prog) aB2 .u64 s aBA
  have q1:(Pu.bin .shr 116 true).run Tryz.prog [.one (w_ s),.one (w_ 32)]=some (w_ (s / 4294967296)):=by
   have:=aHo (P:=Tryz.prog) 116 true .u64 .u64 s 32
   rw [aLl s 32 kQ] at this
   exact this
  have c5:=aFl (P:=Tryz.prog) aB2 .u64 (s / 4294967296) aBA
  rw [show s / 4294967296 % 4294967296=s / 4294967296 by omega] at c5
  have p3:=aBh (P:=Tryz.prog) 3 true (i:Int) 1 kJ
  by_cases hlt:i < y.length
  ·have g3:=aB3 (P:=Tryz.prog) u_ y i hlt .i64
   have g4:=aC2 (P:=Tryz.prog) u_ y i hlt .i64
   rw [<- hb] at g4
   exact rT kJ (aAi 3 false .i64 i x.length) (rp (aAM y) (rT kJ (aAi 3 false .i64 i y.length) (rp g3 (rp g4 (rp g1 (rp g2 (rp c1 (rp c2 (rp a1 (rp c3 (rp a2 (rp c4 (rp q1 (rp c5 (rp g5 (rp g6 (rp p3 (ra next))))))))))))))))))
  ·have h0:=aEq (l:=y) (i:=i) kJ
   rw [<- hb] at h0
   subst h0
   exact rT kJ (aAi 3 false .i64 i x.length) (rp (aAM y) (rF kJ (aAi 3 false .i64 i y.length) (rp g1 (rp g2 (rp c1 (rp a1 (rp c3 (rp a2 (rp c4 (rp q1 (rp c5 (rp g5 (rp g6 (rp p3 (ra next)))))))))))))))
theorem aOW (x y:List Int) (hx:Dig 4294967296 x) (hy:Dig 4294967296 y) (hl:y.length<=x.length) (hs:x.length<=20000) (e0 e1 e4 e5 e6 e7 e8 e9:D) (r:Nat):∀ (i:Nat) (z:List Int) (c:Int),i+r=x.length->z.length=x.length+1->Dig 4294967296 z->(0<=c/\c<=1) ->
  val 4294967296 (z.take i)+4294967296 ^ i*c=val 4294967296 (x.take i)+val 4294967296 (y.take i)->Rn Tryz.prog (aBp aLx) aFz [aFz] [e0,e1,Ul x,Ul y,e4,e5,e6,e7,e8,e9,i_ x.length,u_ c,i_ i,Ul z] [s_ (N (val 4294967296 x+val 4294967296 y).toNat)]:=by
 induction r with
 | zero =>
  intro i z c hi hz hd hc hv
  have hw:val 4294967296 (z.set x.length c)=val 4294967296 x+val 4294967296 y:=by
   rw [List.take_of_length_le (l:=x) kJ,List.take_of_length_le (l:=y) kJ] at hv
   have:=aCc 4294967296 z x.length c kJ
   rw [List.take_of_length_le (by rw [List.length_set];omega)] at this
   rw [this,<- hv,show x.length=i by omega]
  have m:=F_mag.eq (l:=z.set x.length c) (aBk hd _ hc.1 kJ) (by rw [List.length_set];omega)
  rw [hw] at m
  have p1:=aB3 (P:=Tryz.prog) u_ z x.length kJ .i64
  have p2:=aD3 (P:=Tryz.prog) u_ z x.length kJ .i64 c
  exact rF kJ (aAi 3 false .i64 i x.length) (rp (aAM x) (rp p1 (rp p2 (rc F_mag m rr))))
 | succ r ih =>
  intro i z c hi hz hd hc hv
  have h1:=aAA hx (i:=i) kJ
  have h2:=aFh kQ hy i
  obtain ⟨s,hs'⟩:∃ s,s=rd x i+rd y i+c:=⟨_,rfl⟩
  have next:=ih (i+1) (z.set i (s % 4294967296)) (s / 4294967296) kJ (by rw [List.length_set,hz]) (aBk hd _ kJ kJ) kJ (by
   rw [aCc _ _ _ _ kJ,aAk _ x,aAk _ y,Int.pow_succ]
   have e:(4294967296:Int) ^ i*(s % 4294967296)+4294967296 ^ i*4294967296*(s / 4294967296)=4294967296 ^ i*rd x i+4294967296 ^ i*rd y i+4294967296 ^ i*c:=by
    rw [Int.mul_assoc,<- Int.mul_add,<- Int.mul_add,<- Int.mul_add]
    congr 1
    omega
   omega)
  obtain ⟨a,ha⟩:∃ a,a=rd x (i:Int):=⟨_,rfl⟩
  obtain ⟨b,hb⟩:∃ a,a=rd y (i:Int):=⟨_,rfl⟩
  have g1:=aB3 (P:=Tryz.prog) u_ x i kJ .i64
  have g2:=aC2 (P:=Tryz.prog) u_ x i kJ .i64
  have g5:=aB3 (P:=Tryz.prog) u_ z i kJ .i64
  have g6:=aD3 (P:=Tryz.prog) u_ z i kJ .i64 (s % 4294967296)
  rw [<- ha] at h1 hs' g2
  rw [<- hb] at h2 hs'
  have c1:=aDP (P:=Tryz.prog) aBA .u32 a aB2 kJ
  have c2:=aDP (P:=Tryz.prog) aBA .u32 b aB2 kJ
  have c3:=aDP (P:=Tryz.prog) aBA .u32 c aB2 kJ
  have a1:=aFR (P:=Tryz.prog) 116 false a b kJ
  have a2:=aFR (P:=Tryz.prog) 116 false (a+b) c kJ
  rw [<- hs'] at a2
  have c4:=aFl (P:=Tryz.prog) aB2 .u64 s aBA
  have q1:(Pu.bin .shr 116 true).run Tryz.prog [.one (w_ s),.one (w_ 32)]=some (w_ (s / 4294967296)):=by
   have:=aHo (P:=Tryz.prog) 116 true .u64 .u64 s 32
   rw [aLl s 32 kQ] at this
   exact this
  have c5:=aFl (P:=Tryz.prog) aB2 .u64 (s / 4294967296) aBA
  rw [show s / 4294967296 % 4294967296=s / 4294967296 by omega] at c5
  have p3:=aBh (P:=Tryz.prog) 3 true (i:Int) 1 kJ
  by_cases hlt:i < y.length
  ·have g3:=aB3 (P:=Tryz.prog) u_ y i hlt .i64
   have g4:=aC2 (P:=Tryz.prog) u_ y i hlt .i64
   rw [<- hb] at g4
   exact rT kJ (aAi 3 false .i64 i x.length) (rp (aAM y) (rT kJ (aAi 3 false .i64 i y.length) (rp g3 (rp g4 (rp g1 (rp g2 (rp c1 (rp c2 (rp a1 (rp c3 (rp a2 (rp c4 (rp q1 (rp c5 (rp g5 (rp g6 (rp p3 (ra next))))))))))))))))))
  ·have h0:=aEq (l:=y) (i:=i) kJ
   rw [<- hb] at h0
   subst h0
   exact rT kJ (aAi 3 false .i64 i x.length) (rp (aAM y) (rF kJ (aAi 3 false .i64 i y.length) (rp g1 (rp g2 (rp c1 (rp a1 (rp c3 (rp a2 (rp c4 (rp q1 (rp c5 (rp g5 (rp g6 (rp p3 (ra next)))))))))))))))
theorem g_add':Sx.Good Tryz.prog X.G 127 ⟨[.one,.one],.v1 .one⟩ aFI:=aAe aQx (λ _ _=>X.G_below) 400 kK (by kernel_rfl:_=some aPL) λ ds rs h=>by
 obtain ⟨a,b,rfl,ha,hb,rfl⟩:=S2.inv h
 have n1:F_limbs [s_ a]=some [Ul (lb (V a))]:=F_limbs.eq kJ
 have n2:F_limbs [s_ b]=some [Ul (lb (V b))]:=F_limbs.eq kJ
 have dp:=aCl (V a)
 have dq:=aCl (V b)
 have sp:=aDM a
 have sq:=aDM b
 have hv:(val 4294967296 (lb (V a))+val 4294967296 (lb (V b))).toNat=V a+V b:=by rw [aC7,aC7];omega
 generalize lb (V a)=p at *
 generalize lb (V b)=q at *
 by_cases hc:p.length < q.length
 ·have p1:=aBh (P:=Tryz.prog) 3 true (q.length:Int) 1 kJ
  rw [show (q.length:Int)+1=((q.length+1:Nat):Int) by omega] at p1
  have p2:=aGz (P:=Tryz.prog) (λ x=>Value.int .u32 x) 4 (q.length+1) kJ kJ .i64 .i64
  have loop:=aOV q p dq dp kJ kJ (s_ a) (s_ b) (i_ p.length) (i_ q.length) (b_ true) (i_ q.length) (i_ ((q.length+1:Nat):Int)) (Ul (List.replicate (q.length+1) 0)) q.length 0 (List.replicate (q.length+1) 0) 0 kJ (List.length_replicate ..) (aAU kQ _) kQ (by simp [val])
  rw [Int.add_comm] at loop
  rw [hv] at loop
  exact rc F_limbs n1 (rc F_limbs n2 (rp (aAM p) (rp (aAM q) (rT kJ (aAi 3 false .i64 p.length q.length) (rp (aAM q) (rp p1 (rp p2 (rp (aAM q) (rl loop)))))))))
 ·have p1:=aBh (P:=Tryz.prog) 3 true (p.length:Int) 1 kJ
  rw [show (p.length:Int)+1=((p.length+1:Nat):Int) by omega] at p1
  have p2:=aGz (P:=Tryz.prog) (λ x=>Value.int .u32 x) 4 (p.length+1) kJ kJ .i64 .i64
  have loop:=aOW p q dp dq kJ kJ (s_ a) (s_ b) (i_ p.length) (i_ q.length) (b_ false) (i_ p.length) (i_ ((p.length+1:Nat):Int)) (Ul (List.replicate (p.length+1) 0)) p.length 0 (List.replicate (p.length+1) 0) 0 kJ (List.length_replicate ..) (aAU kQ _) kQ (by simp [val])
  rw [hv] at loop
  exact rc F_limbs n1 (rc F_limbs n2 (rp (aAM p) (rp (aAM q) (rF kJ (aAi 3 false .i64 p.length q.length) (rp (aAM p) (rp p1 (rp p2 (rp (aAM p) (rl loop)))))))))
theorem aOX (t:TypeId) (kk:Bool) (k:IntKind) (a b:Int):(Pu.bin .and t kk).run Tryz.prog [.one (.v (.int k a)),.one (.v (.int k b))]=some (.v (.int k (bits .and k a b))):=aCa .and t kk k a b (by cases k<;>rfl) rfl
theorem aTA (t:TypeId) (kk:Bool) (k:IntKind) (a b:Int):(Pu.bin .xor t kk).run Tryz.prog [.one (.v (.int k a)),.one (.v (.int k b))]=some (.v (.int k (bits .xor k a b))):=aCa .xor t kk k a b (by cases k<;>rfl) rfl
theorem aLy (a:Int):(Pu.un .xor).run Tryz.prog [.one (u_ a)]=some (u_ (bits .xor .u32 4294967295 a)):=rfl
theorem aOY (t:TypeId) (kk:Bool) (a b:Int):(Pu.bin .sub t kk).run Tryz.prog [.one (u_ a),.one (u_ b)]=some (u_ ((a - b) % 4294967296)):=by rw [aLF,wrap_u32]
theorem aQy {a b c:Int} (ha:0<=a/\a < 4294967296) (hb:0<=b/\b < 4294967296) (hc:0<=c/\c<=1):(((a - b) % 4294967296) - c) % 4294967296=(a - b - c) % 4294967296/\(bits .or .u32 (bits .and .u32 (bits .xor .u32 4294967295 a) b) (bits .and .u32 (bits .xor .u32 4294967295 (bits .xor .u32 a b)) ((((a - b) % 4294967296) - c) % 4294967296))) / 2147483648=if a < b+c then 1 else 0:=by
 have:=aO6 ha hb hc
 unfold bits_Sub32.f at this
 exact Prod.mk.inj (Option.some.inj this)
theorem aQz (x y:List Int) (hx:Dig 4294967296 x) (hy:Dig 4294967296 y) (hge:val 4294967296 y<=val 4294967296 x) (hl:y.length<=x.length) (hs:x.length<=20000) (e0 e1 e2 e3 e6 e7:D) (r:Nat):∀ (i:Nat) (z:List Int) (c:Int),i+r=x.length->z.length=x.length->Dig 4294967296 z->(0<=c/\c<=1) ->
  val 4294967296 (z.take i) - 4294967296 ^ i*c=val 4294967296 (x.take i) - val 4294967296 (y.take i)->Rn Tryz.prog (aBp aLx) aF0 [aF0] [e0,e1,e2,e3,Ul x,Ul y,e6,e7,i_ x.length,u_ c,i_ i,Ul z] [s_ (N (val 4294967296 x - val 4294967296 y).toNat),b_ true]:=by
 induction r with
 | zero =>
  intro i z c hi hz hd hc hv
  have hw:val 4294967296 z=val 4294967296 x - val 4294967296 y:=by
   rw [List.take_of_length_le (l:=x) kJ,List.take_of_length_le (l:=y) kJ,List.take_of_length_le (l:=z) kJ] at hv
   have h3:=aBG (B:=4294967296) kQ hd
   rw [hz,<- show i=x.length by omega] at h3
   have h4:=aA4 (B:=4294967296) kQ hd
   rcases (by omega:c=0\/c=1) with rfl | rfl
   ·omega
   ·omega
  have m:=F_mag.eq (l:=z) hd kJ
  rw [hw] at m
  exact rF kJ (aAi 3 false .i64 i x.length) (rc F_mag m rr)
 | succ r ih =>
  intro i z c hi hz hd hc hv
  have h1:=aAA hx (i:=i) kJ
  have h2:=aFh kQ hy i
  obtain ⟨w1,w2⟩:=aQy h1 h2 hc
  have next:=ih (i+1) (z.set i ((rd x i - rd y i - c) % 4294967296)) (if rd x i < rd y i+c then 1 else 0) kJ (by rw [List.length_set,hz]) (aBk hd _ kJ kJ) (by split<;>omega) (by
   rw [aCc _ _ _ _ kJ,aAk _ x,aAk _ y,Int.pow_succ]
   have e:(4294967296:Int) ^ i*((rd x i - rd y i - c) % 4294967296) - 4294967296 ^ i*4294967296*(if rd x i < rd y i+c then 1 else 0)=4294967296 ^ i*rd x i - 4294967296 ^ i*rd y i - 4294967296 ^ i*c:=by
    rw [Int.mul_assoc,<- Int.mul_sub,<- Int.mul_sub,<- Int.mul_sub]
    congr 1
    split<;>omega
   omega)
  have g1:=aB3 (P:=Tryz.prog) u_ x i kJ .i64
  have g2:=aC2 (P:=Tryz.prog) u_ x i kJ .i64
  have g5:=aB3 (P:=Tryz.prog) u_ z i kJ .i64
  have g6:=aD3 (P:=Tryz.prog) u_ z i kJ .i64 ((rd x i - rd y i - c) % 4294967296)
  have p3:=aBh (P:=Tryz.prog) 3 true (i:Int) 1 kJ
  generalize (if rd x (i:Int) < rd y (i:Int)+c then (1:Int) else 0)=c' at *
  rw [<- w1] at g6 next
  clear w1 hv ih
  have hb0:¬ i < y.length->rd y (i:Int)=0:=λ h=>aEq (l:=y) (i:=i) kJ
  have g3:=λ h=>aB3 (P:=Tryz.prog) u_ y i h .i64
  have g4:=λ h=>aC2 (P:=Tryz.prog) u_ y i h .i64
  generalize rd x (i:Int)=a at *
  generalize rd y (i:Int)=b at *
  have s1:=aOY 143 false a b
  have s2:=aOY 143 false ((a - b) % 4294967296) c
  generalize ((a - b) % 4294967296 - c) % 4294967296=d at *
  generalize (a - b) % 4294967296=d0 at *
  have s3:=aLy a
  have s4:=aOX 143 false .u32 (bits .xor .u32 4294967295 a) b
  have s5:=aTA 143 false .u32 a b
  have s6:=aLy (bits .xor .u32 a b)
  have s7:=aOX 143 false .u32 (bits .xor .u32 4294967295 (bits .xor .u32 a b)) d
  have s8:=aRN (P:=Tryz.prog) 143 false .u32 (bits .and .u32 (bits .xor .u32 4294967295 a) b) (bits .and .u32 (bits .xor .u32 4294967295 (bits .xor .u32 a b)) d)
  have s9:(Pu.bin .shr 143 true).run Tryz.prog [.one (u_ (bits .or .u32 (bits .and .u32 (bits .xor .u32 4294967295 a) b) (bits .and .u32 (bits .xor .u32 4294967295 (bits .xor .u32 a b)) d))),.one (w_ 31)]=some (u_ c'):=by
   have:=aHo (P:=Tryz.prog) 143 true .u32 .u64 (bits .or .u32 (bits .and .u32 (bits .xor .u32 4294967295 a) b) (bits .and .u32 (bits .xor .u32 4294967295 (bits .xor .u32 a b)) d)) 31
   rw [aId _ 31 kQ,show (2:Int) ^ 31=2147483648 from rfl] at this
   rw [<- w2]
   exact this
  clear w2
  by_cases hlt:i < y.length
  ·exact rT kJ (aAi 3 false .i64 i x.length) (rp (aAM y) (rT kJ (aAi 3 false .i64 i y.length) (rp (g3 hlt) (rp (g4 hlt) (rp g1 (rp g2 (rp s1 (rp s2 (rp s3 (rp s4 (rp s5 (rp s6 (rp s7 (rp s8 (rp s9 (rp g5 (rp g6 (rp p3 (ra next)))))))))))))))))))
  ·obtain rfl:=hb0 hlt
   exact rT kJ (aAi 3 false .i64 i x.length) (rp (aAM y) (rF kJ (aAi 3 false .i64 i y.length) (rp g1 (rp g2 (rp s1 (rp s2 (rp s3 (rp s4 (rp s5 (rp s6 (rp s7 (rp s8 (rp s9 (rp g5 (rp g6 (rp p3 (ra next)))))))))))))))))
theorem g_sub':Sx.Good Tryz.prog X.G 128 ⟨[.one,.one],.tup [.one,.one]⟩ aFJ:=aAe aQx (λ _ _=>X.G_below) 400 kK (by kernel_rfl:_=some aPM) λ ds rs h=>by
 obtain ⟨a,b,rfl,ha,hb,rfl⟩:=S2.inv h
 have n0:aGE [s_ a,s_ b]=some [i_ (aBu (V a) (V b))]:=S2.eq ha hb
 have n1:F_limbs [s_ a]=some [Ul (lb (V a))]:=F_limbs.eq kJ
 have n2:F_limbs [s_ b]=some [Ul (lb (V b))]:=F_limbs.eq kJ
 have dp:=aCl (V a)
 have dq:=aCl (V b)
 have sp:=aDM a
 have hv:(val 4294967296 (lb (V a)) - val 4294967296 (lb (V b))).toNat=V a - V b:=by rw [aC7,aC7];omega
 unfold aD0
 by_cases hc:V a < V b
 ·rw [if_pos hc]
  exact rc aGE n0 (rT (aEr.2 hc) (aAi 3 true .i64 (aBu (V a) (V b)) 0) rr)
 ·rw [if_neg hc]
  have hm:=aJZ (x:=V a) (y:=V b) kJ
  have hge:val 4294967296 (lb (V b))<=val 4294967296 (lb (V a)):=by rw [aC7,aC7];omega
  have hn:¬ aBu (V a) (V b) < 0:=λ e=>hc (aEr.1 e)
  generalize lb (V a)=p at *
  generalize lb (V b)=q at *
  have p2:=aGz (P:=Tryz.prog) (λ x=>Value.int .u32 x) 4 p.length kJ kJ .i64 .i64
  have loop:=aQz p q dp dq hge hm kJ (s_ a) (s_ b) (i_ (aBu (V a) (V b))) (b_ false) (i_ p.length) (Ul (List.replicate p.length 0)) p.length 0 (List.replicate p.length 0) 0 kJ (List.length_replicate ..) (aAU kQ _) kQ (by simp [val])
  rw [hv] at loop
  exact rc aGE n0 (rF hn (aAi 3 true .i64 (aBu (V a) (V b)) 0) (rc F_limbs n1 (rc F_limbs n2 (rp (aAM p) (rp p2 (rp (aAM p) (rl loop)))))))
theorem aOZ {x:Nat}:(N x=(⟨#[]⟩:ByteArray)) ↔ x=0:=by rw [<- aCn,aLn]
theorem gcd_step (x y:Nat):Nat.gcd y (x % y)=Nat.gcd x y:=by rw [Nat.gcd_comm y (x % y),<- Nat.gcd_rec,Nat.gcd_comm]
def tbG:Tb:=[(123,aBQ),(148,aDW),(124,F_from),(126,aCx)]
theorem okG:TbOk Tryz.prog X.G tbG:=.cons kK g_normB (.cons kK g_u64 (.cons kK g_from (.cons kK g_div trivial)))
theorem aTB (e0 e1 e2 e3 e4 e5 e6 e7 e8 e9:D) (y:Nat):∀ x:Nat,x < 18446744073709551616->y < 18446744073709551616->Rn Tryz.prog (aBp tbG) aF2 [aEa,aF2] [e0,e1,e2,e3,e4,e5,e6,e7,e8,e9,w_ x,w_ y] [s_ (N (Nat.gcd x y))]:=by
 induction y using Nat.strongRecOn with
 | _ y ih =>
  intro x hx hy
  by_cases h:y=0
  ·subst h
   rw [Nat.gcd_zero_right]
   have p:(Pu.bin .neq 116 true).run Tryz.prog [.one (w_ (0:Nat)),.one (w_ 0)]=some (b_ false):=by rw [aFU];rfl
   exact rp p (rn (rc F_from (F_from.eq hx) rr))
  ·have p:(Pu.bin .neq 116 true).run Tryz.prog [.one (w_ (y:Int)),.one (w_ 0)]=some (b_ true):=by
    rw [aFU,show ((y:Int) != 0)=true by simp;omega]
   have q:=aIQ (P:=Tryz.prog) 116 false .u64 (x:Int) (y:Int) kJ kJ
   rw [<- Int.natCast_emod] at q
   have next:=ih (x % y) (Nat.mod_lt _ kJ) y hy (Nat.lt_trans (Nat.mod_lt _ kJ) hy)
   rw [gcd_step] at next
   exact rp p (ry (rp q (ra next)))
theorem aSE (e0 e1:D) (n:Nat):∀ (a b:ByteArray),V b=n->a.size<=20000->b.size<=20000->Rn Tryz.prog (aBp tbG) aEa [aEa] [e0,e1,s_ a,s_ b] [s_ (N (Nat.gcd (V a) (V b)))]:=by
 induction n using Nat.strongRecOn with
 | _ n ih =>
  intro a b hn ha hb
  have n1:aBQ [s_ b]=some [s_ (N (V b))]:=S1.eq kJ
  have n2:aBQ [s_ a]=some [s_ (N (V a))]:=S1.eq kJ
  have p:=aLz (P:=Tryz.prog) 9 true (N (V b)) (⟨#[]⟩:ByteArray)
  by_cases h:V b=0
  ·rw [h,Nat.gcd_zero_right]
   exact rc aBQ n1 (rF (λ g=>g (aOZ.2 h)) p (rc aBQ n2 rr))
  ·have hne:¬ N (V b)=(⟨#[]⟩:ByteArray):=λ g=>h (aOZ.1 g)
   have u1:aDW [s_ a]=some [w_ (aEN (V a)).1,b_ (aEN (V a)).2]:=S1.eq ha
   have u2:aDW [s_ b]=some [w_ (aEN (V b)).1,b_ (aEN (V b)).2]:=S1.eq hb
   have d:aCx [s_ a,s_ b]=some [s_ (N (V a / V b)),s_ (N (V a % V b)),b_ true]:=by
    rw [aCx,S2.eq ha hb]
    unfold aC5
    rw [if_neg h]
   have hlt:V a % V b < V b:=Nat.mod_lt _ kJ
   have next:=ih (V a % V b) kJ b (N (V a % V b)) (V_N _) hb (by have:=aDC (n:=V a % V b) (a:=b) kJ;omega)
   rw [V_N,gcd_step] at next
   unfold aEN at u1 u2
   by_cases hx:V a < 18446744073709551616
   ·rw [if_pos hx] at u1
    by_cases hy:V b < 18446744073709551616
    ·rw [if_pos hy] at u2
     exact rc aBQ n1 (rT hne p (rc aDW u1 (rc aDW u2 (ry (ry (rl (aTB e0 e1 (s_ a) (s_ b) (s_ (N (V b))) (b_ true) (w_ (V a)) (b_ true) (w_ (V b)) (b_ true) (V b) (V a) hx hy)))))))
    ·rw [if_neg hy] at u2
     exact rc aBQ n1 (rT hne p (rc aDW u1 (rc aDW u2 (ry (rn (rc aCx d (ra next)))))))
   ·rw [if_neg hx] at u1
    exact rc aBQ n1 (rT hne p (rc aDW u1 (rc aDW u2 (rn (rc aCx d (ra next))))))
theorem g_gcd':Sx.Good Tryz.prog X.G 125 ⟨[.one,.one],.v1 .one⟩ aA6:=aAe okG (λ _ _=>X.G_below) 400 kK (by kernel_rfl:_=some aPO) λ ds rs h=>by
 obtain ⟨a,b,rfl,ha,hb,rfl⟩:=S2.inv h
 exact rl (aSE (s_ a) (s_ b) (V b) a b rfl ha hb)
theorem val_put (B:Int) (z:List Int) (i:Nat) (d:Int) (h:i < z.length):val B (z.set i d)=val B z - B ^ i*rd z i+B ^ i*d:=by
 rw [aDy B z i d h,Int.mul_sub]
 omega
theorem aTC {C:Cf} {res:List D} (x y:List Int) (hx:Dig 4294967296 x) (hy:Dig 4294967296 y) (i:Nat) (hi:i < x.length) (hs:x.length+y.length<=40000) (e0 e1 e4 e5 e6 e7 e10:D) (T0:Int)
  (K:∀ z':List Int,z'.length=x.length+y.length->Dig 4294967296 z'->(∀ q:Nat,i+1+y.length<=q->rd z' q=0)->val 4294967296 z'=T0+4294967296 ^ i*(rd x i*val 4294967296 y)->Rn Tryz.prog C aCA [aCA] [e0,e1,Ul x,Ul y,e4,e5,e6,e7,i_ x.length,i_ (i+1:Nat),Ul z'] res)
  (r:Nat):∀ (j:Nat) (z:List Int) (c:Int),j+r=y.length->z.length=x.length+y.length->Dig 4294967296 z->(0<=c/\c < 4294967296)->(∀ q:Nat,i+y.length<=q->rd z q=0) ->
  val 4294967296 z+4294967296 ^ (i+j)*c=T0+4294967296 ^ i*(rd x i*val 4294967296 (y.take j)) ->
  Rn Tryz.prog C aF1 [aCA,aF1] [e0,e1,Ul x,Ul y,e4,e5,e6,e7,i_ x.length,i_ i,e10,b_ true,i_ y.length,w_ c,i_ j,Ul z] res:=by
 have q0:=aBh (P:=Tryz.prog) 3 true (i:Int) 1 kJ
 induction r with
 | zero =>
  intro j z c hj hz hd hc h0 hv
  have next:=K (z.set (i+y.length) c) (by rw [List.length_set,hz]) (aBk hd _ hc.1 hc.2) (λ q hq=>by rw [aGd _ _ _ _ kJ,if_neg kJ];exact h0 q kJ) (by
   rw [val_put _ _ _ _ kJ,h0 (i+y.length) (Nat.le_refl _),Int.mul_zero,Int.sub_zero]
   rw [List.take_of_length_le (l:=y) kJ] at hv
   rw [show y.length=j by omega]
   exact hv)
  have p1:=aBh (P:=Tryz.prog) 3 false (i:Int) (y.length:Int) kJ
  rw [show (i:Int)+(y.length:Int)=((i+y.length:Nat):Int) by omega] at p1
  have p2:=aFl (P:=Tryz.prog) aB2 .u64 c aBA
  rw [Int.emod_eq_of_lt hc.1 hc.2] at p2
  have p3:=aB3 (P:=Tryz.prog) u_ z (i+y.length) kJ .i64
  have p4:=aD3 (P:=Tryz.prog) u_ z (i+y.length) kJ .i64 c
  exact rF kJ (aAi 3 false .i64 j y.length) (rp (aAM y) (rp p1 (rp p2 (rp p3 (rp p4 (rp q0 (ra next)))))))
 | succ r ih =>
  intro j z c hj hz hd hc h0 hv
  have h1:=aAA hx (i:=i) kJ
  have h2:=aAA hy (i:=j) kJ
  have h3:=aAA hd (i:=i+j) kJ
  have hp:0<=rd x i*rd y j:=Int.mul_nonneg h1.1 h2.1
  have hp2:rd x i*rd y j<=4294967295*4294967295:=Int.mul_le_mul kJ kJ h2.1 kJ
  obtain ⟨S0,hS⟩:∃ S0,S0=rd x i*rd y j+rd z ((i+j:Nat):Int)+c:=⟨_,rfl⟩
  have next:=ih (j+1) (z.set (i+j) (S0 % 4294967296)) (S0 / 4294967296) kJ (by rw [List.length_set,hz]) (aBk hd _ kJ kJ) kJ
   (λ q hq=>by rw [aGd _ _ _ _ kJ,if_neg kJ];exact h0 q hq)
   (by
    rw [val_put _ _ _ _ kJ,aAk,show i+(j+1)=i+j+1 by omega,Int.pow_succ]
    have e:(4294967296:Int) ^ (i+j)*(S0 % 4294967296)+4294967296 ^ (i+j)*4294967296*(S0 / 4294967296)=4294967296 ^ (i+j)*rd x i*rd y j+4294967296 ^ (i+j)*rd z ((i+j:Nat):Int)+4294967296 ^ (i+j)*c:=by
     rw [Int.mul_assoc,<- Int.mul_add,Int.mul_assoc,<- Int.mul_add,<- Int.mul_add]
     congr 1
     omega
    have e':(4294967296:Int) ^ i*(rd x i*(val 4294967296 (y.take j)+4294967296 ^ j*rd y j))=4294967296 ^ i*(rd x i*val 4294967296 (y.take j))+4294967296 ^ (i+j)*rd x i*rd y j:=by
     rw [Int.mul_add,Int.mul_add,Int.pow_add]
     congr 1
     simp only [Int.mul_assoc]
     congr 1
     rw [<- Int.mul_assoc,<- Int.mul_assoc,Int.mul_comm (rd x i)]
    omega)
  have g1:=aB3 (P:=Tryz.prog) u_ x i hi .i64
  have g2:=aC2 (P:=Tryz.prog) u_ x i hi .i64
  have g3:=aB3 (P:=Tryz.prog) u_ y j kJ .i64
  have g4:=aC2 (P:=Tryz.prog) u_ y j kJ .i64
  have g5:=aB3 (P:=Tryz.prog) u_ z (i+j) kJ .i64
  have g6:=aC2 (P:=Tryz.prog) u_ z (i+j) kJ .i64
  have g7:=aD3 (P:=Tryz.prog) u_ z (i+j) kJ .i64 (S0 % 4294967296)
  have p1:=aBh (P:=Tryz.prog) 3 false (i:Int) (j:Int) kJ
  rw [show (i:Int)+(j:Int)=((i+j:Nat):Int) by omega] at p1
  have p2:=aBh (P:=Tryz.prog) 3 true (j:Int) 1 kJ
  generalize rd x (i:Int)=a at *
  generalize rd y (j:Int)=b at *
  generalize rd z ((i+j:Nat):Int)=d at *
  have c1:=aDP (P:=Tryz.prog) aBA .u32 a aB2 kJ
  have c2:=aDP (P:=Tryz.prog) aBA .u32 b aB2 kJ
  have c3:=aDP (P:=Tryz.prog) aBA .u32 d aB2 kJ
  have m1:(Pu.bin .mul 116 false).run Tryz.prog [.one (w_ a),.one (w_ b)]=some (w_ (a*b)):=by rw [aLG,wu hp kJ]
  have a1:=aFR (P:=Tryz.prog) 116 false (a*b) d kJ
  have a2:=aFR (P:=Tryz.prog) 116 false (a*b+d) c kJ
  rw [<- hS] at a2
  have c4:=aFl (P:=Tryz.prog) aB2 .u64 S0 aBA
  have s1:(Pu.bin .shr 116 true).run Tryz.prog [.one (w_ S0),.one (w_ 32)]=some (w_ (S0 / 4294967296)):=by
   have:=aHo (P:=Tryz.prog) 116 true .u64 .u64 S0 32
   rw [aLl S0 32 kQ] at this
   exact this
  exact rT kJ (aAi 3 false .i64 j y.length) (rp g1 (rp g2 (rp c1 (rp g3 (rp g4 (rp c2 (rp m1 (rp p1 (rp g5 (rp g6 (rp c3 (rp a1 (rp a2 (rp p1 (rp c4 (rp s1 (rp g5 (rp g7 (rp p2 (ra next))))))))))))))))))))
theorem aSF (x y:List Int) (hx:Dig 4294967296 x) (hy:Dig 4294967296 y) (hs:x.length+y.length<=40000) (e0 e1 e4 e5 e6 e7:D) (r:Nat):∀ (i:Nat) (z:List Int),i+r=x.length->z.length=x.length+y.length->Dig 4294967296 z->(∀ q:Nat,i+y.length<=q->rd z q=0) ->
  val 4294967296 z=val 4294967296 (x.take i)*val 4294967296 y->Rn Tryz.prog (aBp aLx) aCA [aCA] [e0,e1,Ul x,Ul y,e4,e5,e6,e7,i_ x.length,i_ i,Ul z] [s_ (N (val 4294967296 x*val 4294967296 y).toNat)]:=by
 induction r with
 | zero =>
  intro i z hi hz hd h0 hv
  rw [List.take_of_length_le (l:=x) kJ] at hv
  have m:=F_mag.eq (l:=z) hd kJ
  rw [hv] at m
  exact rF kJ (aAi 3 false .i64 i x.length) (rc F_mag m rr)
 | succ r ih =>
  intro i z hi hz hd h0 hv
  exact rT kJ (aAi 3 false .i64 i x.length) (rp (aAM y) (rl (aTC x y hx hy i kJ hs e0 e1 e4 e5 e6 e7 (Ul z) (val 4294967296 z) (λ z' k1 k2 k3 k4=>ih (i+1) z' kJ k1 k2 k3 (by rw [k4,hv,aAk,Int.add_mul,Int.mul_assoc])) y.length 0 z 0 kJ hz hd kQ h0 (by simp [val]))))
theorem g_mul':Sx.Good Tryz.prog X.G 140 ⟨[.one,.one],.v1 .one⟩ aDA:=aAe aQx (λ _ _=>X.G_below) 400 kK (by kernel_rfl:_=some aPN) λ ds rs h=>by
 obtain ⟨a,b,rfl,ha,hb,rfl⟩:=S2.inv h
 have n1:F_limbs [s_ a]=some [Ul (lb (V a))]:=F_limbs.eq kJ
 have n2:F_limbs [s_ b]=some [Ul (lb (V b))]:=F_limbs.eq kJ
 have dp:=aCl (V a)
 have dq:=aCl (V b)
 have sp:=aDM a
 have sq:=aDM b
 have hv:(val 4294967296 (lb (V a))*val 4294967296 (lb (V b))).toNat=V a*V b:=by rw [aC7,aC7,<- Int.natCast_mul,Int.toNat_natCast]
 generalize lb (V a)=p at *
 generalize lb (V b)=q at *
 have p1:=aBh (P:=Tryz.prog) 3 false (p.length:Int) (q.length:Int) kJ
 rw [show (p.length:Int)+(q.length:Int)=((p.length+q.length:Nat):Int) by omega] at p1
 have p2:=aGz (P:=Tryz.prog) (λ x=>Value.int .u32 x) 4 (p.length+q.length) kJ kJ .i64 .i64
 have loop:=aSF p q dp dq kJ (s_ a) (s_ b) (i_ p.length) (i_ q.length) (i_ ((p.length+q.length:Nat):Int)) (Ul (List.replicate (p.length+q.length) 0)) p.length 0 (List.replicate (p.length+q.length) 0) kJ (List.length_replicate ..) (aAU kQ _) (λ k _=>aDX _ _) (by rw [aCN];simp [val])
 rw [hv] at loop
 exact rc F_limbs n1 (rc F_limbs n2 (rp (aAM p) (rp (aAM q) (rp p1 (rp p2 (rp (aAM p) (rl loop)))))))
def tbN':Tb:=[(123,aDV),(150,aGE),(127,aFI),(140,aDA),(128,aFJ),(126,aCx),(125,aA6),(148,aDW),(124,F_from),(157,aJr)]
theorem okN':TbOk Tryz.prog X.G tbN':=TbOk.cons kK g_norm <| TbOk.cons kK g_cmp <| TbOk.cons kK g_add' <| TbOk.cons kK g_mul' <| TbOk.cons kK g_sub' <| TbOk.cons kK g_div <| TbOk.cons kK g_gcd' <| TbOk.cons kK g_u64 <| TbOk.cons kK g_from <| TbOk.cons kK g_fmt <| trivial
end Go.Proofs.YtjefbecmeobegaaGreatDoor.Sp
