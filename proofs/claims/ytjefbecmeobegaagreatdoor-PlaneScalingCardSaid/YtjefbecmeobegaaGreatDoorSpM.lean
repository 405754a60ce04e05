import Derived.Test.YtjefbecmeobegaaGreatDoorSpL
import Derived.Test.YtjefbecmeobegaaGreatDoorTr1
import Derived.Test.YtjefbecmeobegaaGreatDoorNatD
import Derived.Test.YtjefbecmeobegaaGreatDoorPxNA
namespace Go.Proofs.YtjefbecmeobegaaGreatDoor.Sp
open Go Go.RowKit YtjefbecmeobegaaGreatDoorW.PrintWords P Sx NatA NatB NatC NatD NatI NatJ
abbrev u_ (x:Int):D:=.v (.int .u32 x)
def Ul (l:List Int):D:=.l l.length (l.map u_)
section
variable {P:Program}
theorem aM4 (op:BinOp) (t:TypeId) (kk:Bool) (k q:IntKind) (a b:Int) {v:Value} (h:quiet P (binOp op t (.int k a) (.int q b))=some v) (hc:aAQ v=true):(Pu.bin op t kk).run P [.one (.v (.int k a)),.one (.v (.int q b))]=some (.v v):=by
 show ((quiet P (do eqGuard op t (aBv kk) (aBv kk) (.int k a) (.int q b);binOp op t (.int k a) (.int q b))).bind _)=_
 have e:quiet P (eqGuard op t (aBv kk) (aBv kk) (.int k a) (.int q b))=some ():=by cases op<;>rfl
 rw [aAa e h,Option.bind_some,if_pos hc]
theorem aSI (t:TypeId) (kk:Bool) (k q:IntKind) (x:Int) (j:Nat):(Pu.bin .shl t kk).run P [.one (.v (.int k x)),.one (.v (.int q (j:Int)))]=some (.v (.int k (shl k x (j:Int)))):=aM4 .shl t kk k q x j (by
 show quiet P (Op.shift .shl k x q (j:Int))=_
 unfold Op.shift
 rw [if_neg (by omega)]
 rfl) rfl
theorem aGS (t:TypeId) (kk:Bool) (k q:IntKind) (x:Int) (j:Nat):(Pu.bin .shr t kk).run P [.one (.v (.int k x)),.one (.v (.int q (j:Int)))]=some (.v (.int k (shr k x (j:Int)))):=aM4 .shr t kk k q x j (by
 show quiet P (Op.shift .shr k x q (j:Int))=_
 unfold Op.shift
 rw [if_neg (by omega)]
 show some (Value.int k (x.fdiv (2 ^ min (j:Int).toNat k.bits)))=_
 rw [Int.fdiv_eq_ediv_of_nonneg _ (Int.le_of_lt (aCZ (by decide) _))]
 rfl) rfl
theorem aRq (t:TypeId) (kk:Bool) (k:IntKind) (a b:Int):(Pu.bin .or t kk).run P [.one (.v (.int k a)),.one (.v (.int k b))]=some (.v (.int k (bits .or k a b))):=aBN .or t kk k a b (by cases k<;>rfl) rfl
theorem aEZ {src dst:TypeId} (hd:P.underlying dst=some (.int .u32)) (k:IntKind) (n:Int) {d:TypeDesc} (hs:P.underlying src=some d):(Pu.conv src dst).run P [.one (.v (.int k n))]=some (u_ (n % 4294967296)):=by rw [aCD hd k n hs,wrap_u32]
theorem aD8 {src dst:TypeId} (hd:P.underlying dst=some (.int .u64)) (k:IntKind) (n:Int) {d:TypeDesc} (hs:P.underlying src=some d) (h:0≤n∧n < 18446744073709551616):(Pu.conv src dst).run P [.one (.v (.int k n))]=some (w_ n):=by rw [aCD hd k n hs,wu h.1 h.2]
theorem aFJ (t:TypeId) (kk:Bool) (a b:Int) (h:0≤a+b∧a+b < 18446744073709551616):(Pu.bin .add t kk).run P [.one (w_ a),.one (w_ b)]=some (w_ (a+b)):=by rw [aDS,wu h.1 h.2]
theorem aAL (l:List Int):Pu.llen.run P [.one (Ul l)]=some (i_ l.length):=rfl
end
theorem aBq:Tryz.prog.underlying 143=some (.int .u32):=by kernel_rfl
def aBD:Fct:=S1 400000 fun x=>[D.v (Value.string (N x))]
theorem g_normB:Sx.Good Tryz.prog X.G 123 ⟨[.one],.v1 .one⟩ aBD:=aCR fun ds rs h=>by
 obtain ⟨a,rfl,ha,rfl⟩:=S1.inv h
 obtain ⟨k,hk⟩:=(NatJ.ev_normalize a (by omega)).rounds
 exact ⟨[.string a],[Value.string (N (V a))],rfl,rfl,rfl,rfl,fun w hw=>(nat_Normalize.calls k a _ w hk).mono fun e w' ⟨h1,h2⟩=>⟨h1,h2⟩⟩
def aPI:Tb:=[(123,aBD),(150,aGz)]
theorem okM0:TbOk Tryz.prog X.G aPI:=.cons (by kernel_rfl) g_normB (.cons (by kernel_rfl) g_cmp trivial)
def F_limbs:Fct
 | [.v (.string a)]=>if a.size≤100000 then some [Ul (lb (V a))] else none
 | _=>none
theorem F_limbs.eq {a:ByteArray} (h:a.size≤100000):F_limbs [s_ a]=some [Ul (lb (V a))]:=if_pos h
theorem aNu {C:Cf} (n:Nat) (hs:(N n).size≤100000) (L:Nat) (hL:L=((N n).size+3) / 4) (e0 e2 e3 e4 e5 e6:D) (r:Nat):∀ (i:Nat) (x:List Int),i+r=(N n).size→x.length=L→Dig 4294967296 x→val 4294967296 x=val 256 ((nb n).take i) →
  Rn Tryz.prog C aEi [aEi] [e0,s_ (N n),e2,e3,e4,e5,e6,i_ (N n).size,i_ i,Ul x] [Ul (lb n)]:=by
 have ln:(nb n).length=(N n).size:=by rw [← bytesOf_length,aAY]
 induction r with
 | zero =>
  intro i x hi h3 hd hv
  rw [List.take_of_length_le (by omega),aBB] at hv
  have:=aLM x hd (by
   by_cases hz:x.length=0
   ·exact .inl hz
   ·right
    have h1:=aEf (x:=n) (s:=4*(x.length - 1)) (by omega)
    have h2:((256 ^ (4*(x.length - 1)):Nat):Int)=4294967296 ^ (x.length - 1):=by rw [Int.natCast_pow];exact aFk _
    omega)
  rw [hv,Int.toNat_natCast] at this
  rw [this]
  exact rF (by omega) (aAh 3 false .i64 i (N n).size) rr
 | succ r ih =>
  intro i x hi h3 hd hv
  have hb:=aEU (by decide) (aBA (N n)) i
  rw [aAY] at hb
  have h1:=aA3 hd (i:=i / 4) (by omega)
  have hlt:val 4294967296 x < 256 ^ (4*(i / 4)+i % 4):=by
   rw [hv,show 4*(i / 4)+i % 4=i by omega]
   have:=aB4 (B:=256) (by decide) (aAC (aCu n) i)
   rw [List.length_take,Nat.min_eq_left (by omega)] at this
   exact this
  have h2:=aLI hd (q:=i / 4) (r:=i % 4) (by omega) hlt
  have hor:=aMZ (rd x ((i / 4:Nat):Int)) (rd (nb n) (i:Int)) (i % 4) (by omega) h1.1 h2 hb
  have hnew:rd x ((i / 4:Nat):Int)+rd (nb n) (i:Int)*256 ^ (i % 4) < 4294967296:=by
   rcases (by omega:i % 4=0∨i % 4=1∨i % 4=2∨i % 4=3) with h | h | h | h<;>rw [h] at h2 ⊢
   ·rw [Int.pow_zero] at h2 ⊢;omega
   ·rw [show (256:Int) ^ 1=256 from rfl] at h2 ⊢;omega
   ·rw [show (256:Int) ^ 2=65536 from rfl] at h2 ⊢;omega
   ·rw [show (256:Int) ^ 3=16777216 from rfl] at h2 ⊢;omega
  have h5:0≤rd (nb n) (i:Int)*256 ^ (i % 4):=Int.mul_nonneg hb.1 (Int.le_of_lt (aCZ (by decide) _))
  have next:=ih (i+1) (x.set (i / 4) (rd x ((i / 4:Nat):Int)+rd (nb n) (i:Int)*256 ^ (i % 4))) (by omega) (by rw [List.length_set,h3]) (aBc hd _ (by omega) hnew) (by
   rw [aDi _ _ _ _ (by omega),hv,aB3 _ _ _ (by omega)]
   have e:=aIn (i / 4) (i % 4)
   rw [show 4*(i / 4)+i % 4=i by omega] at e
   rw [e,show ∀ x y:Int,x+y - x=y from fun x y=>by omega,Int.mul_comm (rd (nb n) (i:Int)),← Int.mul_assoc])
  have p1:=aIv (P:=Tryz.prog) 3 true (i:Int) 4 (by omega) (by decide)
  rw [show (i:Int) / 4=((i / 4:Nat):Int) by omega] at p1
  have p2:=aBr (P:=Tryz.prog) u_ x (i / 4) (by omega) .i64
  have p3:=aCo (P:=Tryz.prog) u_ x (i / 4) (by omega) .i64
  have p4:=aH5 (P:=Tryz.prog) aAy (N n) i (by omega) .i64
  rw [aAY] at p4
  have p5:=aEZ (P:=Tryz.prog) aBq .u8 (rd (nb n) (i:Int)) aCC
  have p6:=aIw (P:=Tryz.prog) 3 true .i64 (i:Int) 4 (by omega) (by decide)
  rw [show (i:Int) % 4=((i % 4:Nat):Int) by omega] at p6
  have p7:=aNv (P:=Tryz.prog) 3 true 8 ((i % 4:Nat):Int) (by omega)
  rw [show (8:Int)*((i % 4:Nat):Int)=((8*(i % 4):Nat):Int) by omega] at p7
  have p8:=aSI (P:=Tryz.prog) 143 false .u32 .i64 (rd (nb n) (i:Int) % 4294967296) (8*(i % 4))
  have p9:=aRq (P:=Tryz.prog) 143 false .u32 (rd x ((i / 4:Nat):Int)) (shl .u32 (rd (nb n) (i:Int) % 4294967296) ((8*(i % 4):Nat):Int))
  rw [hor] at p9
  have p11:=aDo (P:=Tryz.prog) u_ x (i / 4) (by omega) .i64 (rd x ((i / 4:Nat):Int)+rd (nb n) (i:Int)*256 ^ (i % 4))
  have p12:=aBb (P:=Tryz.prog) 3 true (i:Int) 1 (by omega)
  exact rT (by omega) (aAh 3 false .i64 i (N n).size) (rp p1 (rp p2 (rp p3 (rp p4 (rp p5 (rp p6 (rp p7 (rp p8 (rp p9 (rp p2 (rp p11 (rp p12 (ra next)))))))))))))
theorem g_limbs:Sx.Good Tryz.prog X.G 149 ⟨[.one],.v1 .one⟩ F_limbs:=aAf okM0 (fun _ _=>X.G_below) 400 (by kernel_rfl) (by kernel_rfl:_=some aMz) fun ds rs h=>by
 unfold F_limbs at h
 split at h
 ·rename_i a
  split at h
  ·rename_i ha
   obtain rfl:=Option.some.inj h
   have n1:aBD [s_ a]=some [s_ (N (V a))]:=S1.eq (by omega)
   have hs:=aCr ha
   obtain ⟨n,hn⟩:∃ n,n=V a:=⟨_,rfl⟩
   rw [← hn] at n1 hs ⊢
   have p1:=aBb (P:=Tryz.prog) 3 true ((N n).size:Int) 4 (by omega)
   have p2:=aEC (P:=Tryz.prog) 3 true (((N n).size:Int)+4) 1 (by omega)
   have p3:=aIv (P:=Tryz.prog) 3 true (((N n).size:Int)+4 - 1) 4 (by omega) (by decide)
   rw [show (((N n).size:Int)+4 - 1) / 4=((((N n).size+3) / 4:Nat):Int) by omega] at p3
   have p4:=aGl (P:=Tryz.prog) (fun x=>Value.int .u32 x) 4 (((N n).size+3) / 4) (by omega) (by omega) .i64 .i64
   have loop:=aNu (C:=aBh aPI) n hs _ rfl (s_ a) (i_ (N n).size) (i_ (((N n).size:Int)+4)) (i_ (((N n).size:Int)+4 - 1)) (i_ ((((N n).size+3) / 4:Nat):Int)) (Ul (List.replicate (((N n).size+3) / 4) 0)) (N n).size 0 (List.replicate (((N n).size+3) / 4) 0) (by omega) (List.length_replicate ..) (aAS (by decide) _) (by rw [aCA];simp [val])
   exact rc aBD n1 (rp (aAs aAy (N n)) (rp p1 (rp p2 (rp p3 (rp p4 (rp (aAs aAy (N n)) (rl loop)))))))
  ·cases h
 ·cases h
def aPJ:Tb:=(149,F_limbs)::aPI
theorem okM1:TbOk Tryz.prog X.G aPJ:=.cons (by kernel_rfl) g_limbs okM0
def aHW:List D→Option (List Int)
 | []=>some []
 | .v (.int .u32 x)::l=>if 0≤x∧x < 4294967296 then (aHW l).map (x::·) else none
 | _=>none
theorem aKS:∀ {ds:List D} {l:List Int},aHW ds=some l→ds=l.map u_∧Dig 4294967296 l
 | [],l,h=>by
  obtain rfl:=Option.some.inj h
  exact ⟨rfl,aCt _⟩
 | d::ds,l,h=>by
  unfold aHW at h
  split at h
  ·rename_i h2
   cases h2
  ·rename_i x t h2
   injection h2 with h3 h4
   subst h3
   subst h4
   split at h
   ·rename_i hx
    obtain ⟨ys,h5,rfl⟩:=Option.map_eq_some_iff.1 h
    obtain ⟨h6,h7⟩:=aKS h5
    exact ⟨by rw [h6];rfl,aBa.2 ⟨hx,h7⟩⟩
   ·cases h
  ·cases h
theorem aM5:∀ {l:List Int},Dig 4294967296 l→aHW (l.map u_)=some l
 | [],_=>rfl
 | x::l,h=>by
  have h1:=aBa.1 h
  show (if 0≤x∧x < 4294967296 then (aHW (l.map u_)).map (x::·) else none)=_
  rw [if_pos h1.1,aM5 h1.2]
  rfl
def F_mag:Fct
 | [.l n ds]=>(aHW ds).bind fun l=>if n=l.length∧l.length≤100000 then some [s_ (N (val 4294967296 l).toNat)] else none
 | _=>none
theorem F_mag.eq {l:List Int} (h:Dig 4294967296 l) (hl:l.length≤100000):F_mag [Ul l]=some [s_ (N (val 4294967296 l).toNat)]:=by
 show (aHW (l.map u_)).bind _=_
 rw [aM5 h,Option.bind_some,if_pos ⟨rfl,hl⟩]
theorem F_mag.inv {ds rs:List D} (h:F_mag ds=some rs):∃ l,ds=[Ul l]∧Dig 4294967296 l∧l.length≤100000∧rs=[s_ (N (val 4294967296 l).toNat)]:=by
 unfold F_mag at h
 split at h
 ·rename_i n ds
  obtain ⟨l,h1,h2⟩:=Option.bind_eq_some_iff.1 h
  split at h2
  ·rename_i hc
   obtain ⟨rfl,hd⟩:=aKS h1
   obtain ⟨rfl,hl⟩:=hc
   exact ⟨l,rfl,hd,hl,(Option.some.inj h2).symm⟩
  ·cases h2
 ·cases h
theorem aPK (l:List Int) (hl:Dig 4294967296 l) (hs:l.length≤100000) (e1 e2 e3:D) (r:Nat):∀ (i:Nat) (x:List Int),i+r=l.length→x.length=4*i→Dig 256 x→val 256 x=val 4294967296 (l.take i) →
  Rn Tryz.prog (aBh aPJ) aFl [aFl] [Ul l,e1,e2,e3,i_ l.length,i_ i,Bl x] [s_ (N (val 4294967296 l).toNat)]:=by
 induction r with
 | zero =>
  intro i x hi hx hd hv
  rw [List.take_of_length_le (by omega)] at hv
  have hV:=aKD hd
  have n1:aBD [s_ (strOfNums x)]=some [s_ (N (V (strOfNums x)))]:=S1.eq (by rw [aFj];omega)
  rw [show V (strOfNums x)=(val 4294967296 l).toNat by omega] at n1
  exact rF (by omega) (aAh 3 false .i64 i l.length) (rp (aFK x) (rc aBD n1 rr))
 | succ r ih =>
  intro i x hi hx hd hv
  have h1:=aA3 hl (i:=i) (by omega)
  obtain ⟨v,hv'⟩:∃ v,v=rd l (i:Int):=⟨_,rfl⟩
  rw [← hv'] at h1
  have next:=ih (i+1) (x++four v) (by omega) (by rw [List.length_append,hx];show 4*i+4=_;omega) (aDG.2 ⟨hd,aLG v⟩) (by
   rw [val_append,hv,hx,aFk,aLH h1,aB3 _ _ _ (by omega),← hv'])
  have p1:=aBr (P:=Tryz.prog) u_ l i (by omega) .i64
  have p2:=aCo (P:=Tryz.prog) u_ l i (by omega) .i64
  rw [← hv'] at p2
  have s (j:Nat) (hj:j≤32):(Pu.bin .shr 143 false).run Tryz.prog [.one (u_ v),.one (i_ (j:Int))]=some (u_ (v / 2 ^ j)):=by
   have:=aGS (P:=Tryz.prog) 143 false .u32 .i64 v j
   rw [aHH v j hj] at this
   exact this
  have c (z:Int):(Pu.conv 143 5).run Tryz.prog [.one (u_ z)]=some (y_ (z % 256)):=by
   rw [aCD aCC .u32 z aBq]
   have:IntKind.u8.wrap z=z % 256:=by simp [IntKind.wrap,IntKind.bits,IntKind.signed]
   rw [this]
  have e4:x++four v=x++[v / 2 ^ 0 % 256]++[v / 2 ^ 8 % 256]++[v / 2 ^ 16 % 256]++[v / 2 ^ 24 % 256]:=by
   unfold four
   simp
  rw [e4] at next
  have a1:=aD9 (P:=Tryz.prog) x (v / 2 ^ 0 % 256) (by omega)
  have a2:=aD9 (P:=Tryz.prog) (x++[v / 2 ^ 0 % 256]) (v / 2 ^ 8 % 256) (by rw [List.length_append,hx];show 4*i+1≤_;omega)
  have a3:=aD9 (P:=Tryz.prog) (x++[v / 2 ^ 0 % 256]++[v / 2 ^ 8 % 256]) (v / 2 ^ 16 % 256) (by rw [List.length_append,List.length_append,hx];show 4*i+1+1≤_;omega)
  have a4:=aD9 (P:=Tryz.prog) (x++[v / 2 ^ 0 % 256]++[v / 2 ^ 8 % 256]++[v / 2 ^ 16 % 256]) (v / 2 ^ 24 % 256) (by rw [List.length_append,List.length_append,List.length_append,hx];show 4*i+1+1+1≤_;omega)
  have p3:=aBb (P:=Tryz.prog) 3 true (i:Int) 1 (by omega)
  exact rT (by omega) (aAh 3 false .i64 i l.length) (rp p1 (rp p2 (rp (s 0 (by decide)) (rp (c (v / 2 ^ 0)) (rp a1 (rp (s 8 (by decide)) (rp (c (v / 2 ^ 8)) (rp a2 (rp (s 16 (by decide)) (rp (c (v / 2 ^ 16)) (rp a3 (rp (s 24 (by decide)) (rp (c (v / 2 ^ 24)) (rp a4 (rp p3 (ra next))))))))))))))))
theorem g_mag:Sx.Good Tryz.prog X.G 147 ⟨[.one],.v1 .one⟩ F_mag:=aAf okM1 (fun _ _=>X.G_below) 400 (by kernel_rfl) (by kernel_rfl:_=some aPs) fun ds rs h=>by
 obtain ⟨l,rfl,hd,hl,rfl⟩:=F_mag.inv h
 have p1:=aNv (P:=Tryz.prog) 3 true 4 (l.length:Int) (by omega)
 have p2:(Pu.lmake (.int .u8 0) 1).run Tryz.prog [.one (i_ 0),.one (i_ (4*(l.length:Int)))]=some (Bl []):=by
  show (if 0≤(0:Int)∧(0:Int)≤4*(l.length:Int)∧aBW (4*(l.length:Int)).toNat 1=true then some (D.l 0 (List.replicate 0 (.v (.int .u8 0)))) else none)=_
  rw [if_pos ⟨by omega,by omega,aHX (by omega) (by omega)⟩]
  rfl
 exact rp (aAL l) (rp p1 (rp p2 (rp (aAL l) (rl (aPK l hd hl (i_ l.length) (i_ (4*(l.length:Int))) (Bl []) l.length 0 [] (by omega) rfl (aCt _) (by simp [val]))))))
def aKT:Tb:=(147,F_mag)::aPJ
theorem aPL:TbOk Tryz.prog X.G aKT:=.cons (by kernel_rfl) g_mag okM1
theorem aO4 (x y:List Int) (hx:Dig 4294967296 x) (hy:Dig 4294967296 y) (hl:y.length≤x.length) (hs:x.length≤20000) (e0 e1 e4 e5 e6 e7 e8 e9:D) (r:Nat):∀ (i:Nat) (z:List Int) (c:Int),i+r=x.length→z.length=x.length+1→Dig 4294967296 z→(0≤c∧c≤1) →
  val 4294967296 (z.take i)+4294967296 ^ i*c=val 4294967296 (x.take i)+val 4294967296 (y.take i)→Rn Tryz.prog (aBh aKT) aFm [aFm] [e0,e1,Ul y,Ul x,e4,e5,e6,e7,e8,e9,i_ x.length,u_ c,i_ i,Ul z] [s_ (N (val 4294967296 x+val 4294967296 y).toNat)]:=by
 induction r with
 | zero =>
  intro i z c hi hz hd hc hv
  have hw:val 4294967296 (z.set x.length c)=val 4294967296 x+val 4294967296 y:=by
   rw [List.take_of_length_le (l:=x) (by omega),List.take_of_length_le (l:=y) (by omega)] at hv
   have:=aBQ 4294967296 z x.length c (by omega)
   rw [List.take_of_length_le (by rw [List.length_set];omega)] at this
   rw [this,← hv,show x.length=i by omega]
  have m:=F_mag.eq (l:=z.set x.length c) (aBc hd _ hc.1 (by omega)) (by rw [List.length_set];omega)
  rw [hw] at m
  have p1:=aBr (P:=Tryz.prog) u_ z x.length (by omega) .i64
  have p2:=aDo (P:=Tryz.prog) u_ z x.length (by omega) .i64 c
  exact rF (by omega) (aAh 3 false .i64 i x.length) (rp (aAL x) (rp p1 (rp p2 (rc F_mag m rr))))
 | succ r ih =>
  intro i z c hi hz hd hc hv
  have h1:=aA3 hx (i:=i) (by omega)
  have h2:=aEU (by decide) hy i
  obtain ⟨s,hs'⟩:∃ s,s=rd x i+rd y i+c:=⟨_,rfl⟩
  have next:=ih (i+1) (z.set i (s % 4294967296)) (s / 4294967296) (by omega) (by rw [List.length_set,hz]) (aBc hd _ (by omega) (by omega)) (by omega) (by
   rw [aBQ _ _ _ _ (by omega),aAi _ x,aAi _ y,Int.pow_succ]
   have e:(4294967296:Int) ^ i*(s % 4294967296)+4294967296 ^ i*4294967296*(s / 4294967296)=4294967296 ^ i*rd x i+4294967296 ^ i*rd y i+4294967296 ^ i*c:=by
    rw [Int.mul_assoc,← Int.mul_add,← Int.mul_add,← Int.mul_add]
    congr 1
    omega
   omega)
  obtain ⟨a,ha⟩:∃ a,a=rd x (i:Int):=⟨_,rfl⟩
  obtain ⟨b,hb⟩:∃ a,a=rd y (i:Int):=⟨_,rfl⟩
  have g1:=aBr (P:=Tryz.prog) u_ x i (by omega) .i64
  have g2:=aCo (P:=Tryz.prog) u_ x i (by omega) .i64
  have g5:=aBr (P:=Tryz.prog) u_ z i (by omega) .i64
  have g6:=aDo (P:=Tryz.prog) u_ z i (by omega) .i64 (s % 4294967296)
  rw [← ha] at h1 hs' g2
  rw [← hb] at h2 hs'
  have c1:=aD8 (P:=Tryz.prog) aBz .u32 a aBq (by omega)
  have c2:=aD8 (P:=Tryz.prog) aBz .u32 b aBq (by omega)
  have c3:=aD8 (P:=Tryz.prog) aBz .u32 c aBq (by omega)
  have a1:=aFJ (P:=Tryz.prog) 116 false a b (by omega)
  have a2:=aFJ (P:=Tryz.prog) 116 false (a+b) c (by omega)
  rw [← hs'] at a2
  have c4:=aEZ (P:=Tryz.prog) aBq .u64 s aBz
  have q1:(Pu.bin .shr 116 true).run Tryz.prog [.one (w_ s),.one (w_ 32)]=some (w_ (s / 4294967296)):=by
   have:=aGS (P:=Tryz.prog) 116 true .u64 .u64 s 32
   rw [aKE s 32 (by decide)] at this
   exact this
  have c5:=aEZ (P:=Tryz.prog) aBq .u64 (s / 4294967296) aBz
  rw [show s / 4294967296 % 4294967296=s / 4294967296 by omega] at c5
  have p3:=aBb (P:=Tryz.prog) 3 true (i:Int) 1 (by omega)
  by_cases hlt:i < y.length
  ·have g3:=aBr (P:=Tryz.prog) u_ y i hlt .i64
   have g4:=aCo (P:=Tryz.prog) u_ y i hlt .i64
   rw [← hb] at g4
   exact rT (by omega) (aAh 3 false .i64 i x.length) (rp (aAL y) (rT (by omega) (aAh 3 false .i64 i y.length) (rp g3 (rp g4 (rp g1 (rp g2 (rp c1 (rp c2 (rp a1 (rp c3 (rp a2 (rp c4 (rp q1 (rp c5 (rp g5 (rp g6 (rp p3 (ra next))))))))))))))))))
  ·have h0:=aEd (l:=y) (i:=i) (by omega)
   rw [← hb] at h0
   subst h0
   exact rT (by omega) (aAh 3 false .i64 i x.length) (rp (aAL y) (rF (by omega) (aAh 3 false .i64 i y.length) (rp g1 (rp g2 (rp c1 (rp a1 (rp c3 (rp a2 (rp c4 (rp q1 (rp c5 (rp g5 (rp g6 (rp p3 (ra next)))))))))))))))
theorem aO5 (x y:List Int) (hx:Dig 4294967296 x) (hy:Dig 4294967296 y) (hl:y.length≤x.length) (hs:x.length≤20000) (e0 e1 e4 e5 e6 e7 e8 e9:D) (r:Nat):∀ (i:Nat) (z:List Int) (c:Int),i+r=x.length→z.length=x.length+1→Dig 4294967296 z→(0≤c∧c≤1) →
  val 4294967296 (z.take i)+4294967296 ^ i*c=val 4294967296 (x.take i)+val 4294967296 (y.take i)→Rn Tryz.prog (aBh aKT) aFn [aFn] [e0,e1,Ul x,Ul y,e4,e5,e6,e7,e8,e9,i_ x.length,u_ c,i_ i,Ul z] [s_ (N (val 4294967296 x+val 4294967296 y).toNat)]:=by
 induction r with
 | zero =>
  intro i z c hi hz hd hc hv
  have hw:val 4294967296 (z.set x.length c)=val 4294967296 x+val 4294967296 y:=by
   rw [List.take_of_length_le (l:=x) (by omega),List.take_of_length_le (l:=y) (by omega)] at hv
   have:=aBQ 4294967296 z x.length c (by omega)
   rw [List.take_of_length_le (by rw [List.length_set];omega)] at this
   rw [this,← hv,show x.length=i by omega]
  have m:=F_mag.eq (l:=z.set x.length c) (aBc hd _ hc.1 (by omega)) (by rw [List.length_set];omega)
  rw [hw] at m
  have p1:=aBr (P:=Tryz.prog) u_ z x.length (by omega) .i64
  have p2:=aDo (P:=Tryz.prog) u_ z x.length (by omega) .i64 c
  exact rF (by omega) (aAh 3 false .i64 i x.length) (rp (aAL x) (rp p1 (rp p2 (rc F_mag m rr))))
 | succ r ih =>
  intro i z c hi hz hd hc hv
  have h1:=aA3 hx (i:=i) (by omega)
  have h2:=aEU (by decide) hy i
  obtain ⟨s,hs'⟩:∃ s,s=rd x i+rd y i+c:=⟨_,rfl⟩
  have next:=ih (i+1) (z.set i (s % 4294967296)) (s / 4294967296) (by omega) (by rw [List.length_set,hz]) (aBc hd _ (by omega) (by omega)) (by omega) (by
   rw [aBQ _ _ _ _ (by omega),aAi _ x,aAi _ y,Int.pow_succ]
   have e:(4294967296:Int) ^ i*(s % 4294967296)+4294967296 ^ i*4294967296*(s / 4294967296)=4294967296 ^ i*rd x i+4294967296 ^ i*rd y i+4294967296 ^ i*c:=by
    rw [Int.mul_assoc,← Int.mul_add,← Int.mul_add,← Int.mul_add]
    congr 1
    omega
   omega)
  obtain ⟨a,ha⟩:∃ a,a=rd x (i:Int):=⟨_,rfl⟩
  obtain ⟨b,hb⟩:∃ a,a=rd y (i:Int):=⟨_,rfl⟩
  have g1:=aBr (P:=Tryz.prog) u_ x i (by omega) .i64
  have g2:=aCo (P:=Tryz.prog) u_ x i (by omega) .i64
  have g5:=aBr (P:=Tryz.prog) u_ z i (by omega) .i64
  have g6:=aDo (P:=Tryz.prog) u_ z i (by omega) .i64 (s % 4294967296)
  rw [← ha] at h1 hs' g2
  rw [← hb] at h2 hs'
  have c1:=aD8 (P:=Tryz.prog) aBz .u32 a aBq (by omega)
  have c2:=aD8 (P:=Tryz.prog) aBz .u32 b aBq (by omega)
  have c3:=aD8 (P:=Tryz.prog) aBz .u32 c aBq (by omega)
  have a1:=aFJ (P:=Tryz.prog) 116 false a b (by omega)
  have a2:=aFJ (P:=Tryz.prog) 116 false (a+b) c (by omega)
  rw [← hs'] at a2
  have c4:=aEZ (P:=Tryz.prog) aBq .u64 s aBz
  have q1:(Pu.bin .shr 116 true).run Tryz.prog [.one (w_ s),.one (w_ 32)]=some (w_ (s / 4294967296)):=by
   have:=aGS (P:=Tryz.prog) 116 true .u64 .u64 s 32
   rw [aKE s 32 (by decide)] at this
   exact this
  have c5:=aEZ (P:=Tryz.prog) aBq .u64 (s / 4294967296) aBz
  rw [show s / 4294967296 % 4294967296=s / 4294967296 by omega] at c5
  have p3:=aBb (P:=Tryz.prog) 3 true (i:Int) 1 (by omega)
  by_cases hlt:i < y.length
  ·have g3:=aBr (P:=Tryz.prog) u_ y i hlt .i64
   have g4:=aCo (P:=Tryz.prog) u_ y i hlt .i64
   rw [← hb] at g4
   exact rT (by omega) (aAh 3 false .i64 i x.length) (rp (aAL y) (rT (by omega) (aAh 3 false .i64 i y.length) (rp g3 (rp g4 (rp g1 (rp g2 (rp c1 (rp c2 (rp a1 (rp c3 (rp a2 (rp c4 (rp q1 (rp c5 (rp g5 (rp g6 (rp p3 (ra next))))))))))))))))))
  ·have h0:=aEd (l:=y) (i:=i) (by omega)
   rw [← hb] at h0
   subst h0
   exact rT (by omega) (aAh 3 false .i64 i x.length) (rp (aAL y) (rF (by omega) (aAh 3 false .i64 i y.length) (rp g1 (rp g2 (rp c1 (rp a1 (rp c3 (rp a2 (rp c4 (rp q1 (rp c5 (rp g5 (rp g6 (rp p3 (ra next)))))))))))))))
theorem g_add':Sx.Good Tryz.prog X.G 127 ⟨[.one,.one],.v1 .one⟩ aF7:=aAf aPL (fun _ _=>X.G_below) 400 (by kernel_rfl) (by kernel_rfl:_=some aPt) fun ds rs h=>by
 obtain ⟨a,b,rfl,ha,hb,rfl⟩:=S2.inv h
 have n1:F_limbs [s_ a]=some [Ul (lb (V a))]:=F_limbs.eq (by omega)
 have n2:F_limbs [s_ b]=some [Ul (lb (V b))]:=F_limbs.eq (by omega)
 have dp:=aCa (V a)
 have dq:=aCa (V b)
 have sp:=aD5 a
 have sq:=aD5 b
 have hv:(val 4294967296 (lb (V a))+val 4294967296 (lb (V b))).toNat=V a+V b:=by rw [aCs,aCs];omega
 generalize lb (V a)=p at *
 generalize lb (V b)=q at *
 by_cases hc:p.length < q.length
 ·have p1:=aBb (P:=Tryz.prog) 3 true (q.length:Int) 1 (by omega)
  rw [show (q.length:Int)+1=((q.length+1:Nat):Int) by omega] at p1
  have p2:=aGl (P:=Tryz.prog) (fun x=>Value.int .u32 x) 4 (q.length+1) (by omega) (by omega) .i64 .i64
  have loop:=aO4 q p dq dp (by omega) (by omega) (s_ a) (s_ b) (i_ p.length) (i_ q.length) (b_ true) (i_ q.length) (i_ ((q.length+1:Nat):Int)) (Ul (List.replicate (q.length+1) 0)) q.length 0 (List.replicate (q.length+1) 0) 0 (by omega) (List.length_replicate ..) (aAS (by decide) _) (by decide) (by simp [val])
  rw [Int.add_comm] at loop
  rw [hv] at loop
  exact rc F_limbs n1 (rc F_limbs n2 (rp (aAL p) (rp (aAL q) (rT (by omega) (aAh 3 false .i64 p.length q.length) (rp (aAL q) (rp p1 (rp p2 (rp (aAL q) (rl loop)))))))))
 ·have p1:=aBb (P:=Tryz.prog) 3 true (p.length:Int) 1 (by omega)
  rw [show (p.length:Int)+1=((p.length+1:Nat):Int) by omega] at p1
  have p2:=aGl (P:=Tryz.prog) (fun x=>Value.int .u32 x) 4 (p.length+1) (by omega) (by omega) .i64 .i64
  have loop:=aO5 p q dp dq (by omega) (by omega) (s_ a) (s_ b) (i_ p.length) (i_ q.length) (b_ false) (i_ p.length) (i_ ((p.length+1:Nat):Int)) (Ul (List.replicate (p.length+1) 0)) p.length 0 (List.replicate (p.length+1) 0) 0 (by omega) (List.length_replicate ..) (aAS (by decide) _) (by decide) (by simp [val])
  rw [hv] at loop
  exact rc F_limbs n1 (rc F_limbs n2 (rp (aAL p) (rp (aAL q) (rF (by omega) (aAh 3 false .i64 p.length q.length) (rp (aAL p) (rp p1 (rp p2 (rp (aAL p) (rl loop)))))))))
theorem aO6 (t:TypeId) (kk:Bool) (k:IntKind) (a b:Int):(Pu.bin .and t kk).run Tryz.prog [.one (.v (.int k a)),.one (.v (.int k b))]=some (.v (.int k (bits .and k a b))):=aBN .and t kk k a b (by cases k<;>rfl) rfl
theorem aSJ (t:TypeId) (kk:Bool) (k:IntKind) (a b:Int):(Pu.bin .xor t kk).run Tryz.prog [.one (.v (.int k a)),.one (.v (.int k b))]=some (.v (.int k (bits .xor k a b))):=aBN .xor t kk k a b (by cases k<;>rfl) rfl
theorem aKU (a:Int):(Pu.un .xor).run Tryz.prog [.one (u_ a)]=some (u_ (bits .xor .u32 4294967295 a)):=rfl
theorem aO7 (t:TypeId) (kk:Bool) (a b:Int):(Pu.bin .sub t kk).run Tryz.prog [.one (u_ a),.one (u_ b)]=some (u_ ((a - b) % 4294967296)):=by rw [aLl,wrap_u32]
theorem aPM {a b c:Int} (ha:0≤a∧a < 4294967296) (hb:0≤b∧b < 4294967296) (hc:0≤c∧c≤1):(((a - b) % 4294967296) - c) % 4294967296=(a - b - c) % 4294967296∧(bits .or .u32 (bits .and .u32 (bits .xor .u32 4294967295 a) b) (bits .and .u32 (bits .xor .u32 4294967295 (bits .xor .u32 a b)) ((((a - b) % 4294967296) - c) % 4294967296))) / 2147483648=if a < b+c then 1 else 0:=by
 have:=aOd ha hb hc
 unfold bits_Sub32.f at this
 exact Prod.mk.inj (Option.some.inj this)
theorem aPN (x y:List Int) (hx:Dig 4294967296 x) (hy:Dig 4294967296 y) (hge:val 4294967296 y≤val 4294967296 x) (hl:y.length≤x.length) (hs:x.length≤20000) (e0 e1 e2 e3 e6 e7:D) (r:Nat):∀ (i:Nat) (z:List Int) (c:Int),i+r=x.length→z.length=x.length→Dig 4294967296 z→(0≤c∧c≤1) →
  val 4294967296 (z.take i) - 4294967296 ^ i*c=val 4294967296 (x.take i) - val 4294967296 (y.take i)→Rn Tryz.prog (aBh aKT) aFo [aFo] [e0,e1,e2,e3,Ul x,Ul y,e6,e7,i_ x.length,u_ c,i_ i,Ul z] [s_ (N (val 4294967296 x - val 4294967296 y).toNat),b_ true]:=by
 induction r with
 | zero =>
  intro i z c hi hz hd hc hv
  have hw:val 4294967296 z=val 4294967296 x - val 4294967296 y:=by
   rw [List.take_of_length_le (l:=x) (by omega),List.take_of_length_le (l:=y) (by omega),List.take_of_length_le (l:=z) (by omega)] at hv
   have h3:=aB4 (B:=4294967296) (by decide) hd
   rw [hz,← show i=x.length by omega] at h3
   have h4:=aAx (B:=4294967296) (by decide) hd
   rcases (by omega:c=0∨c=1) with rfl | rfl
   ·omega
   ·omega
  have m:=F_mag.eq (l:=z) hd (by omega)
  rw [hw] at m
  exact rF (by omega) (aAh 3 false .i64 i x.length) (rc F_mag m rr)
 | succ r ih =>
  intro i z c hi hz hd hc hv
  have h1:=aA3 hx (i:=i) (by omega)
  have h2:=aEU (by decide) hy i
  obtain ⟨w1,w2⟩:=aPM h1 h2 hc
  have next:=ih (i+1) (z.set i ((rd x i - rd y i - c) % 4294967296)) (if rd x i < rd y i+c then 1 else 0) (by omega) (by rw [List.length_set,hz]) (aBc hd _ (by omega) (by omega)) (by split<;>omega) (by
   rw [aBQ _ _ _ _ (by omega),aAi _ x,aAi _ y,Int.pow_succ]
   have e:(4294967296:Int) ^ i*((rd x i - rd y i - c) % 4294967296) - 4294967296 ^ i*4294967296*(if rd x i < rd y i+c then 1 else 0)=4294967296 ^ i*rd x i - 4294967296 ^ i*rd y i - 4294967296 ^ i*c:=by
    rw [Int.mul_assoc,← Int.mul_sub,← Int.mul_sub,← Int.mul_sub]
    congr 1
    split<;>omega
   omega)
  have g1:=aBr (P:=Tryz.prog) u_ x i (by omega) .i64
  have g2:=aCo (P:=Tryz.prog) u_ x i (by omega) .i64
  have g5:=aBr (P:=Tryz.prog) u_ z i (by omega) .i64
  have g6:=aDo (P:=Tryz.prog) u_ z i (by omega) .i64 ((rd x i - rd y i - c) % 4294967296)
  have p3:=aBb (P:=Tryz.prog) 3 true (i:Int) 1 (by omega)
  generalize (if rd x (i:Int) < rd y (i:Int)+c then (1:Int) else 0)=c' at *
  rw [← w1] at g6 next
  clear w1 hv ih
  have hb0:¬ i < y.length→rd y (i:Int)=0:=fun h=>aEd (l:=y) (i:=i) (by omega)
  have g3:=fun h=>aBr (P:=Tryz.prog) u_ y i h .i64
  have g4:=fun h=>aCo (P:=Tryz.prog) u_ y i h .i64
  generalize rd x (i:Int)=a at *
  generalize rd y (i:Int)=b at *
  have s1:=aO7 143 false a b
  have s2:=aO7 143 false ((a - b) % 4294967296) c
  generalize ((a - b) % 4294967296 - c) % 4294967296=d at *
  generalize (a - b) % 4294967296=d0 at *
  have s3:=aKU a
  have s4:=aO6 143 false .u32 (bits .xor .u32 4294967295 a) b
  have s5:=aSJ 143 false .u32 a b
  have s6:=aKU (bits .xor .u32 a b)
  have s7:=aO6 143 false .u32 (bits .xor .u32 4294967295 (bits .xor .u32 a b)) d
  have s8:=aRq (P:=Tryz.prog) 143 false .u32 (bits .and .u32 (bits .xor .u32 4294967295 a) b) (bits .and .u32 (bits .xor .u32 4294967295 (bits .xor .u32 a b)) d)
  have s9:(Pu.bin .shr 143 true).run Tryz.prog [.one (u_ (bits .or .u32 (bits .and .u32 (bits .xor .u32 4294967295 a) b) (bits .and .u32 (bits .xor .u32 4294967295 (bits .xor .u32 a b)) d))),.one (w_ 31)]=some (u_ c'):=by
   have:=aGS (P:=Tryz.prog) 143 true .u32 .u64 (bits .or .u32 (bits .and .u32 (bits .xor .u32 4294967295 a) b) (bits .and .u32 (bits .xor .u32 4294967295 (bits .xor .u32 a b)) d)) 31
   rw [aHH _ 31 (by decide),show (2:Int) ^ 31=2147483648 from rfl] at this
   rw [← w2]
   exact this
  clear w2
  by_cases hlt:i < y.length
  ·exact rT (by omega) (aAh 3 false .i64 i x.length) (rp (aAL y) (rT (by omega) (aAh 3 false .i64 i y.length) (rp (g3 hlt) (rp (g4 hlt) (rp g1 (rp g2 (rp s1 (rp s2 (rp s3 (rp s4 (rp s5 (rp s6 (rp s7 (rp s8 (rp s9 (rp g5 (rp g6 (rp p3 (ra next)))))))))))))))))))
  ·obtain rfl:=hb0 hlt
   exact rT (by omega) (aAh 3 false .i64 i x.length) (rp (aAL y) (rF (by omega) (aAh 3 false .i64 i y.length) (rp g1 (rp g2 (rp s1 (rp s2 (rp s3 (rp s4 (rp s5 (rp s6 (rp s7 (rp s8 (rp s9 (rp g5 (rp g6 (rp p3 (ra next)))))))))))))))))
theorem g_sub':Sx.Good Tryz.prog X.G 128 ⟨[.one,.one],.tup [.one,.one]⟩ aF8:=aAf aPL (fun _ _=>X.G_below) 400 (by kernel_rfl) (by kernel_rfl:_=some aPu) fun ds rs h=>by
 obtain ⟨a,b,rfl,ha,hb,rfl⟩:=S2.inv h
 have n0:aGz [s_ a,s_ b]=some [i_ (aBm (V a) (V b))]:=S2.eq ha hb
 have n1:F_limbs [s_ a]=some [Ul (lb (V a))]:=F_limbs.eq (by omega)
 have n2:F_limbs [s_ b]=some [Ul (lb (V b))]:=F_limbs.eq (by omega)
 have dp:=aCa (V a)
 have dq:=aCa (V b)
 have sp:=aD5 a
 have hv:(val 4294967296 (lb (V a)) - val 4294967296 (lb (V b))).toNat=V a - V b:=by rw [aCs,aCs];omega
 unfold aDm
 by_cases hc:V a < V b
 ·rw [if_pos hc]
  exact rc aGz n0 (rT (aEe.2 hc) (aAh 3 true .i64 (aBm (V a) (V b)) 0) rr)
 ·rw [if_neg hc]
  have hm:=aJ5 (x:=V a) (y:=V b) (by omega)
  have hge:val 4294967296 (lb (V b))≤val 4294967296 (lb (V a)):=by rw [aCs,aCs];omega
  have hn:¬ aBm (V a) (V b) < 0:=fun e=>hc (aEe.1 e)
  generalize lb (V a)=p at *
  generalize lb (V b)=q at *
  have p2:=aGl (P:=Tryz.prog) (fun x=>Value.int .u32 x) 4 p.length (by omega) (by omega) .i64 .i64
  have loop:=aPN p q dp dq hge hm (by omega) (s_ a) (s_ b) (i_ (aBm (V a) (V b))) (b_ false) (i_ p.length) (Ul (List.replicate p.length 0)) p.length 0 (List.replicate p.length 0) 0 (by omega) (List.length_replicate ..) (aAS (by decide) _) (by decide) (by simp [val])
  rw [hv] at loop
  exact rc aGz n0 (rF hn (aAh 3 true .i64 (aBm (V a) (V b)) 0) (rc F_limbs n1 (rc F_limbs n2 (rp (aAL p) (rp p2 (rp (aAL p) (rl loop)))))))
theorem aO8 {x:Nat}:(N x=(⟨#[]⟩:ByteArray)) ↔ x=0:=by rw [← aDa,aKG]
theorem gcd_step (x y:Nat):Nat.gcd y (x % y)=Nat.gcd x y:=by rw [Nat.gcd_comm y (x % y),← Nat.gcd_rec,Nat.gcd_comm]
def tbG:Tb:=[(123,aBD),(148,aDE),(124,F_from),(126,aCl)]
theorem okG:TbOk Tryz.prog X.G tbG:=.cons (by kernel_rfl) g_normB (.cons (by kernel_rfl) g_u64 (.cons (by kernel_rfl) g_from (.cons (by kernel_rfl) g_div trivial)))
theorem aSK (e0 e1 e2 e3 e4 e5 e6 e7 e8 e9:D) (y:Nat):∀ x:Nat,x < 18446744073709551616→y < 18446744073709551616→Rn Tryz.prog (aBh tbG) aFq [aDJ,aFq] [e0,e1,e2,e3,e4,e5,e6,e7,e8,e9,w_ x,w_ y] [s_ (N (Nat.gcd x y))]:=by
 induction y using Nat.strongRecOn with
 | _ y ih =>
  intro x hx hy
  by_cases h:y=0
  ·subst h
   rw [Nat.gcd_zero_right]
   have p:(Pu.bin .neq 116 true).run Tryz.prog [.one (w_ (0:Nat)),.one (w_ 0)]=some (b_ false):=by rw [aA2];rfl
   exact rp p (rn (rc F_from (F_from.eq hx) rr))
  ·have p:(Pu.bin .neq 116 true).run Tryz.prog [.one (w_ (y:Int)),.one (w_ 0)]=some (b_ true):=by
    rw [aA2,show ((y:Int) != 0)=true by simp;omega]
   have q:=aIw (P:=Tryz.prog) 116 false .u64 (x:Int) (y:Int) (by omega) (by omega)
   rw [← Int.natCast_emod] at q
   have next:=ih (x % y) (Nat.mod_lt _ (by omega)) y hy (Nat.lt_trans (Nat.mod_lt _ (by omega)) hy)
   rw [gcd_step] at next
   exact rp p (ry (rp q (ra next)))
theorem aRY (e0 e1:D) (n:Nat):∀ (a b:ByteArray),V b=n→a.size≤20000→b.size≤20000→Rn Tryz.prog (aBh tbG) aDJ [aDJ] [e0,e1,s_ a,s_ b] [s_ (N (Nat.gcd (V a) (V b)))]:=by
 induction n using Nat.strongRecOn with
 | _ n ih =>
  intro a b hn ha hb
  have n1:aBD [s_ b]=some [s_ (N (V b))]:=S1.eq (by omega)
  have n2:aBD [s_ a]=some [s_ (N (V a))]:=S1.eq (by omega)
  have p:=aKV (P:=Tryz.prog) 9 true (N (V b)) (⟨#[]⟩:ByteArray)
  by_cases h:V b=0
  ·rw [h,Nat.gcd_zero_right]
   exact rc aBD n1 (rF (fun g=>g (aO8.2 h)) p (rc aBD n2 rr))
  ·have hne:¬ N (V b)=(⟨#[]⟩:ByteArray):=fun g=>h (aO8.1 g)
   have u1:aDE [s_ a]=some [w_ (aE8 (V a)).1,b_ (aE8 (V a)).2]:=S1.eq ha
   have u2:aDE [s_ b]=some [w_ (aE8 (V b)).1,b_ (aE8 (V b)).2]:=S1.eq hb
   have d:aCl [s_ a,s_ b]=some [s_ (N (V a / V b)),s_ (N (V a % V b)),b_ true]:=by
    rw [aCl,S2.eq ha hb]
    unfold aCq
    rw [if_neg h]
   have hlt:V a % V b < V b:=Nat.mod_lt _ (by omega)
   have next:=ih (V a % V b) (by omega) b (N (V a % V b)) (V_N _) hb (by have:=aDw (n:=V a % V b) (a:=b) (by omega);omega)
   rw [V_N,gcd_step] at next
   unfold aE8 at u1 u2
   by_cases hx:V a < 18446744073709551616
   ·rw [if_pos hx] at u1
    by_cases hy:V b < 18446744073709551616
    ·rw [if_pos hy] at u2
     exact rc aBD n1 (rT hne p (rc aDE u1 (rc aDE u2 (ry (ry (rl (aSK e0 e1 (s_ a) (s_ b) (s_ (N (V b))) (b_ true) (w_ (V a)) (b_ true) (w_ (V b)) (b_ true) (V b) (V a) hx hy)))))))
    ·rw [if_neg hy] at u2
     exact rc aBD n1 (rT hne p (rc aDE u1 (rc aDE u2 (ry (rn (rc aCl d (ra next)))))))
   ·rw [if_neg hx] at u1
    exact rc aBD n1 (rT hne p (rc aDE u1 (rc aDE u2 (rn (rc aCl d (ra next))))))
theorem g_gcd':Sx.Good Tryz.prog X.G 125 ⟨[.one,.one],.v1 .one⟩ aAH:=aAf okG (fun _ _=>X.G_below) 400 (by kernel_rfl) (by kernel_rfl:_=some aPw) fun ds rs h=>by
 obtain ⟨a,b,rfl,ha,hb,rfl⟩:=S2.inv h
 exact rl (aRY (s_ a) (s_ b) (V b) a b rfl ha hb)
theorem val_put (B:Int) (z:List Int) (i:Nat) (d:Int) (h:i < z.length):val B (z.set i d)=val B z - B ^ i*rd z i+B ^ i*d:=by
 rw [aDi B z i d h,Int.mul_sub]
 omega
theorem aSL {C:Cf} {res:List D} (x y:List Int) (hx:Dig 4294967296 x) (hy:Dig 4294967296 y) (i:Nat) (hi:i < x.length) (hs:x.length+y.length≤40000) (e0 e1 e4 e5 e6 e7 e10:D) (T0:Int)
  (K:∀ z':List Int,z'.length=x.length+y.length→Dig 4294967296 z'→(∀ q:Nat,i+1+y.length≤q→rd z' q=0)→val 4294967296 z'=T0+4294967296 ^ i*(rd x i*val 4294967296 y)→Rn Tryz.prog C aCv [aCv] [e0,e1,Ul x,Ul y,e4,e5,e6,e7,i_ x.length,i_ (i+1:Nat),Ul z'] res)
  (r:Nat):∀ (j:Nat) (z:List Int) (c:Int),j+r=y.length→z.length=x.length+y.length→Dig 4294967296 z→(0≤c∧c < 4294967296)→(∀ q:Nat,i+y.length≤q→rd z q=0) →
  val 4294967296 z+4294967296 ^ (i+j)*c=T0+4294967296 ^ i*(rd x i*val 4294967296 (y.take j)) →
  Rn Tryz.prog C aFp [aCv,aFp] [e0,e1,Ul x,Ul y,e4,e5,e6,e7,i_ x.length,i_ i,e10,b_ true,i_ y.length,w_ c,i_ j,Ul z] res:=by
 have q0:=aBb (P:=Tryz.prog) 3 true (i:Int) 1 (by omega)
 induction r with
 | zero =>
  intro j z c hj hz hd hc h0 hv
  have next:=K (z.set (i+y.length) c) (by rw [List.length_set,hz]) (aBc hd _ hc.1 hc.2) (fun q hq=>by rw [aFU _ _ _ _ (by omega),if_neg (by omega)];exact h0 q (by omega)) (by
   rw [val_put _ _ _ _ (by omega),h0 (i+y.length) (Nat.le_refl _),Int.mul_zero,Int.sub_zero]
   rw [List.take_of_length_le (l:=y) (by omega)] at hv
   rw [show y.length=j by omega]
   exact hv)
  have p1:=aBb (P:=Tryz.prog) 3 false (i:Int) (y.length:Int) (by omega)
  rw [show (i:Int)+(y.length:Int)=((i+y.length:Nat):Int) by omega] at p1
  have p2:=aEZ (P:=Tryz.prog) aBq .u64 c aBz
  rw [Int.emod_eq_of_lt hc.1 hc.2] at p2
  have p3:=aBr (P:=Tryz.prog) u_ z (i+y.length) (by omega) .i64
  have p4:=aDo (P:=Tryz.prog) u_ z (i+y.length) (by omega) .i64 c
  exact rF (by omega) (aAh 3 false .i64 j y.length) (rp (aAL y) (rp p1 (rp p2 (rp p3 (rp p4 (rp q0 (ra next)))))))
 | succ r ih =>
  intro j z c hj hz hd hc h0 hv
  have h1:=aA3 hx (i:=i) (by omega)
  have h2:=aA3 hy (i:=j) (by omega)
  have h3:=aA3 hd (i:=i+j) (by omega)
  have hp:0≤rd x i*rd y j:=Int.mul_nonneg h1.1 h2.1
  have hp2:rd x i*rd y j≤4294967295*4294967295:=Int.mul_le_mul (by omega) (by omega) h2.1 (by omega)
  obtain ⟨S0,hS⟩:∃ S0,S0=rd x i*rd y j+rd z ((i+j:Nat):Int)+c:=⟨_,rfl⟩
  have next:=ih (j+1) (z.set (i+j) (S0 % 4294967296)) (S0 / 4294967296) (by omega) (by rw [List.length_set,hz]) (aBc hd _ (by omega) (by omega)) (by omega)
   (fun q hq=>by rw [aFU _ _ _ _ (by omega),if_neg (by omega)];exact h0 q hq)
   (by
    rw [val_put _ _ _ _ (by omega),aAi,show i+(j+1)=i+j+1 by omega,Int.pow_succ]
    have e:(4294967296:Int) ^ (i+j)*(S0 % 4294967296)+4294967296 ^ (i+j)*4294967296*(S0 / 4294967296)=4294967296 ^ (i+j)*rd x i*rd y j+4294967296 ^ (i+j)*rd z ((i+j:Nat):Int)+4294967296 ^ (i+j)*c:=by
     rw [Int.mul_assoc,← Int.mul_add,Int.mul_assoc,← Int.mul_add,← Int.mul_add]
     congr 1
     omega
    have e':(4294967296:Int) ^ i*(rd x i*(val 4294967296 (y.take j)+4294967296 ^ j*rd y j))=4294967296 ^ i*(rd x i*val 4294967296 (y.take j))+4294967296 ^ (i+j)*rd x i*rd y j:=by
     rw [Int.mul_add,Int.mul_add,Int.pow_add]
     congr 1
     simp only [Int.mul_assoc]
     congr 1
     rw [← Int.mul_assoc,← Int.mul_assoc,Int.mul_comm (rd x i)]
    omega)
  have g1:=aBr (P:=Tryz.prog) u_ x i hi .i64
  have g2:=aCo (P:=Tryz.prog) u_ x i hi .i64
  have g3:=aBr (P:=Tryz.prog) u_ y j (by omega) .i64
  have g4:=aCo (P:=Tryz.prog) u_ y j (by omega) .i64
  have g5:=aBr (P:=Tryz.prog) u_ z (i+j) (by omega) .i64
  have g6:=aCo (P:=Tryz.prog) u_ z (i+j) (by omega) .i64
  have g7:=aDo (P:=Tryz.prog) u_ z (i+j) (by omega) .i64 (S0 % 4294967296)
  have p1:=aBb (P:=Tryz.prog) 3 false (i:Int) (j:Int) (by omega)
  rw [show (i:Int)+(j:Int)=((i+j:Nat):Int) by omega] at p1
  have p2:=aBb (P:=Tryz.prog) 3 true (j:Int) 1 (by omega)
  generalize rd x (i:Int)=a at *
  generalize rd y (j:Int)=b at *
  generalize rd z ((i+j:Nat):Int)=d at *
  have c1:=aD8 (P:=Tryz.prog) aBz .u32 a aBq (by omega)
  have c2:=aD8 (P:=Tryz.prog) aBz .u32 b aBq (by omega)
  have c3:=aD8 (P:=Tryz.prog) aBz .u32 d aBq (by omega)
  have m1:(Pu.bin .mul 116 false).run Tryz.prog [.one (w_ a),.one (w_ b)]=some (w_ (a*b)):=by rw [aLm,wu hp (by omega)]
  have a1:=aFJ (P:=Tryz.prog) 116 false (a*b) d (by omega)
  have a2:=aFJ (P:=Tryz.prog) 116 false (a*b+d) c (by omega)
  rw [← hS] at a2
  have c4:=aEZ (P:=Tryz.prog) aBq .u64 S0 aBz
  have s1:(Pu.bin .shr 116 true).run Tryz.prog [.one (w_ S0),.one (w_ 32)]=some (w_ (S0 / 4294967296)):=by
   have:=aGS (P:=Tryz.prog) 116 true .u64 .u64 S0 32
   rw [aKE S0 32 (by decide)] at this
   exact this
  exact rT (by omega) (aAh 3 false .i64 j y.length) (rp g1 (rp g2 (rp c1 (rp g3 (rp g4 (rp c2 (rp m1 (rp p1 (rp g5 (rp g6 (rp c3 (rp a1 (rp a2 (rp p1 (rp c4 (rp s1 (rp g5 (rp g7 (rp p2 (ra next))))))))))))))))))))
theorem aRZ (x y:List Int) (hx:Dig 4294967296 x) (hy:Dig 4294967296 y) (hs:x.length+y.length≤40000) (e0 e1 e4 e5 e6 e7:D) (r:Nat):∀ (i:Nat) (z:List Int),i+r=x.length→z.length=x.length+y.length→Dig 4294967296 z→(∀ q:Nat,i+y.length≤q→rd z q=0) →
  val 4294967296 z=val 4294967296 (x.take i)*val 4294967296 y→Rn Tryz.prog (aBh aKT) aCv [aCv] [e0,e1,Ul x,Ul y,e4,e5,e6,e7,i_ x.length,i_ i,Ul z] [s_ (N (val 4294967296 x*val 4294967296 y).toNat)]:=by
 induction r with
 | zero =>
  intro i z hi hz hd h0 hv
  rw [List.take_of_length_le (l:=x) (by omega)] at hv
  have m:=F_mag.eq (l:=z) hd (by omega)
  rw [hv] at m
  exact rF (by omega) (aAh 3 false .i64 i x.length) (rc F_mag m rr)
 | succ r ih =>
  intro i z hi hz hd h0 hv
  exact rT (by omega) (aAh 3 false .i64 i x.length) (rp (aAL y) (rl (aSL x y hx hy i (by omega) hs e0 e1 e4 e5 e6 e7 (Ul z) (val 4294967296 z) (fun z' k1 k2 k3 k4=>ih (i+1) z' (by omega) k1 k2 k3 (by rw [k4,hv,aAi,Int.add_mul,Int.mul_assoc])) y.length 0 z 0 (by omega) hz hd (by decide) h0 (by simp [val]))))
theorem g_mul':Sx.Good Tryz.prog X.G 140 ⟨[.one,.one],.v1 .one⟩ aDs:=aAf aPL (fun _ _=>X.G_below) 400 (by kernel_rfl) (by kernel_rfl:_=some aPv) fun ds rs h=>by
 obtain ⟨a,b,rfl,ha,hb,rfl⟩:=S2.inv h
 have n1:F_limbs [s_ a]=some [Ul (lb (V a))]:=F_limbs.eq (by omega)
 have n2:F_limbs [s_ b]=some [Ul (lb (V b))]:=F_limbs.eq (by omega)
 have dp:=aCa (V a)
 have dq:=aCa (V b)
 have sp:=aD5 a
 have sq:=aD5 b
 have hv:(val 4294967296 (lb (V a))*val 4294967296 (lb (V b))).toNat=V a*V b:=by rw [aCs,aCs,← Int.natCast_mul,Int.toNat_natCast]
 generalize lb (V a)=p at *
 generalize lb (V b)=q at *
 have p1:=aBb (P:=Tryz.prog) 3 false (p.length:Int) (q.length:Int) (by omega)
 rw [show (p.length:Int)+(q.length:Int)=((p.length+q.length:Nat):Int) by omega] at p1
 have p2:=aGl (P:=Tryz.prog) (fun x=>Value.int .u32 x) 4 (p.length+q.length) (by omega) (by omega) .i64 .i64
 have loop:=aRZ p q dp dq (by omega) (s_ a) (s_ b) (i_ p.length) (i_ q.length) (i_ ((p.length+q.length:Nat):Int)) (Ul (List.replicate (p.length+q.length) 0)) p.length 0 (List.replicate (p.length+q.length) 0) (by omega) (List.length_replicate ..) (aAS (by decide) _) (fun k _=>aDF _ _) (by rw [aCA];simp [val])
 rw [hv] at loop
 exact rc F_limbs n1 (rc F_limbs n2 (rp (aAL p) (rp (aAL q) (rp p1 (rp p2 (rp (aAL p) (rl loop)))))))
def tbN':Tb:=[(123,aDD),(150,aGz),(127,aF7),(140,aDs),(128,aF8),(126,aCl),(125,aAH),(148,aDE),(124,F_from),(157,aIN)]
theorem okN':TbOk Tryz.prog X.G tbN':=TbOk.cons (by kernel_rfl) g_norm <| TbOk.cons (by kernel_rfl) g_cmp <| TbOk.cons (by kernel_rfl) g_add' <| TbOk.cons (by kernel_rfl) g_mul' <| TbOk.cons (by kernel_rfl) g_sub' <| TbOk.cons (by kernel_rfl) g_div <| TbOk.cons (by kernel_rfl) g_gcd' <| TbOk.cons (by kernel_rfl) g_u64 <| TbOk.cons (by kernel_rfl) g_from <| TbOk.cons (by kernel_rfl) g_fmt <| trivial
end Go.Proofs.YtjefbecmeobegaaGreatDoor.Sp
