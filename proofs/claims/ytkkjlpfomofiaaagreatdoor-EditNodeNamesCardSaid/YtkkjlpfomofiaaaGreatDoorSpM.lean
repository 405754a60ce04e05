import Derived.Test.YtkkjlpfomofiaaaGreatDoorSpL
import Derived.Test.YtkkjlpfomofiaaaGreatDoorTr1
import Derived.Test.YtkkjlpfomofiaaaGreatDoorNatD
import Derived.Test.YtkkjlpfomofiaaaGreatDoorPxNA
namespace Go.Proofs.YtkkjlpfomofiaaaGreatDoor.Sp
open Go Go.RowKit YtkkjlpfomofiaaaGreatDoorW.PrintWords P Sx NatA NatB NatC NatD NatI NatJ
abbrev u_ (x:Int):D:=.v (.int .u32 x)
def Ul (l:List Int):D:=.l l.length (l.map u_)
section
variable {P:Program}
theorem aKR (op:BinOp) (t:TypeId) (kk:Bool) (k q:IntKind) (a b:Int) {v:Value} (h:quiet P (binOp op t (.int k a) (.int q b))=some v) (hc:aA5 v=true):(Pu.bin op t kk).run P [.one (.v (.int k a)),.one (.v (.int q b))]=some (.v v):=by
 show ((quiet P (do eqGuard op t (aAK kk) (aAK kk) (.int k a) (.int q b);binOp op t (.int k a) (.int q b))).bind _)=_
 have e:quiet P (eqGuard op t (aAK kk) (aAK kk) (.int k a) (.int q b))=some ():=by cases op<;>rfl
 rw [aAa e h,Option.bind_some,if_pos hc]
theorem aPZ (t:TypeId) (kk:Bool) (k q:IntKind) (x:Int) (j:Nat):(Pu.bin .shl t kk).run P [.one (.v (.int k x)),.one (.v (.int q (j:Int)))]=some (.v (.int k (shl k x (j:Int)))):=aKR .shl t kk k q x j (by
 show quiet P (Op.shift .shl k x q (j:Int))=_
 unfold Op.shift
 rw [if_neg (by omega)]
 rfl) rfl
theorem aHf (t:TypeId) (kk:Bool) (k q:IntKind) (x:Int) (j:Nat):(Pu.bin .shr t kk).run P [.one (.v (.int k x)),.one (.v (.int q (j:Int)))]=some (.v (.int k (shr k x (j:Int)))):=aKR .shr t kk k q x j (by
 show quiet P (Op.shift .shr k x q (j:Int))=_
 unfold Op.shift
 rw [if_neg (by omega)]
 show some (Value.int k (x.fdiv (2 ^ min (j:Int).toNat k.bits)))=_
 rw [Int.fdiv_eq_ediv_of_nonneg _ (Int.le_of_lt (aBP (by decide) _))]
 rfl) rfl
theorem aQF (t:TypeId) (kk:Bool) (k:IntKind) (a b:Int):(Pu.bin .or t kk).run P [.one (.v (.int k a)),.one (.v (.int k b))]=some (.v (.int k (bits .or k a b))):=aB7 .or t kk k a b (by cases k<;>rfl) rfl
theorem aD8 {src dst:TypeId} (hd:P.underlying dst=some (.int .u32)) (k:IntKind) (n:Int) {d:TypeDesc} (hs:P.underlying src=some d):(Pu.conv src dst).run P [.one (.v (.int k n))]=some (u_ (n % 4294967296)):=by rw [aDj hd k n hs,wrap_u32]
theorem aCx {src dst:TypeId} (hd:P.underlying dst=some (.int .u64)) (k:IntKind) (n:Int) {d:TypeDesc} (hs:P.underlying src=some d) (h:0≤n∧n < 18446744073709551616):(Pu.conv src dst).run P [.one (.v (.int k n))]=some (w_ n):=by rw [aDj hd k n hs,wu h.1 h.2]
theorem aEq (t:TypeId) (kk:Bool) (a b:Int) (h:0≤a+b∧a+b < 18446744073709551616):(Pu.bin .add t kk).run P [.one (w_ a),.one (w_ b)]=some (w_ (a+b)):=by rw [aEw,wu h.1 h.2]
theorem aA6 (l:List Int):Pu.llen.run P [.one (Ul l)]=some (i_ l.length):=rfl
end
theorem aAJ:Tryz.prog.underlying 178=some (.int .u32):=by kernel_rfl
def aAY:Fct:=S1 400000 fun x=>[D.v (Value.string (N x))]
theorem g_normB:Sx.Good Tryz.prog X.G 162 ⟨[.one],.v1 .one⟩ aAY:=aBp fun ds rs h=>by
 obtain ⟨a,rfl,ha,rfl⟩:=S1.inv h
 obtain ⟨k,hk⟩:=(NatJ.ev_normalize a (by omega)).rounds
 exact ⟨[.string a],[Value.string (N (V a))],rfl,rfl,rfl,rfl,fun w hw=>(nat_Normalize.calls k a _ w hk).mono fun e w' ⟨h1,h2⟩=>⟨h1,h2⟩⟩
def aNW:Tb:=[(162,aAY),(187,aLJ)]
theorem okM0:TbOk Tryz.prog X.G aNW:=.cons (by kernel_rfl) g_normB (.cons (by kernel_rfl) g_cmp trivial)
def F_limbs:Fct
 | [.v (.string a)]=>if a.size≤100000 then some [Ul (lb (V a))] else none
 | _=>none
theorem F_limbs.eq {a:ByteArray} (h:a.size≤100000):F_limbs [s_ a]=some [Ul (lb (V a))]:=if_pos h
theorem aLR {C:Cf} (n:Nat) (hs:(N n).size≤100000) (L:Nat) (hL:L=((N n).size+3) / 4) (e0 e2 e3 e4 e5 e6:D) (r:Nat):∀ (i:Nat) (x:List Int),i+r=(N n).size→x.length=L→Dig 4294967296 x→val 4294967296 x=val 256 ((nb n).take i) →
  Rn Tryz.prog C aCE [aCE] [e0,s_ (N n),e2,e3,e4,e5,e6,i_ (N n).size,i_ i,Ul x] [Ul (lb n)]:=by
 have ln:(nb n).length=(N n).size:=by rw [← bytesOf_length,aAP]
 induction r with
 | zero =>
  intro i x hi h3 hd hv
  rw [List.take_of_length_le (by omega),aBY] at hv
  have:=aJL x hd (by
   by_cases hz:x.length=0
   ·exact .inl hz
   ·right
    have h1:=aCA (x:=n) (s:=4*(x.length - 1)) (by omega)
    have h2:((256 ^ (4*(x.length - 1)):Nat):Int)=4294967296 ^ (x.length - 1):=by rw [Int.natCast_pow];exact aD1 _
    omega)
  rw [hv,Int.toNat_natCast] at this
  rw [this]
  exact rF (by omega) (aAf 3 false .i64 i (N n).size) rr
 | succ r ih =>
  intro i x hi h3 hd hv
  have hb:=aFD (by decide) (aDM (N n)) i
  rw [aAP] at hb
  have h1:=aAt hd (i:=i / 4) (by omega)
  have hlt:val 4294967296 x < 256 ^ (4*(i / 4)+i % 4):=by
   rw [hv,show 4*(i / 4)+i % 4=i by omega]
   have:=aBs (B:=256) (by decide) (aAx (aCv n) i)
   rw [List.length_take,Nat.min_eq_left (by omega)] at this
   exact this
  have h2:=aJH hd (q:=i / 4) (r:=i % 4) (by omega) hlt
  have hor:=aKO (rd x ((i / 4:Nat):Int)) (rd (nb n) (i:Int)) (i % 4) (by omega) h1.1 h2 hb
  have hnew:rd x ((i / 4:Nat):Int)+rd (nb n) (i:Int)*256 ^ (i % 4) < 4294967296:=by
   rcases (by omega:i % 4=0∨i % 4=1∨i % 4=2∨i % 4=3) with h | h | h | h<;>rw [h] at h2 ⊢
   ·rw [Int.pow_zero] at h2 ⊢;omega
   ·rw [show (256:Int) ^ 1=256 from rfl] at h2 ⊢;omega
   ·rw [show (256:Int) ^ 2=65536 from rfl] at h2 ⊢;omega
   ·rw [show (256:Int) ^ 3=16777216 from rfl] at h2 ⊢;omega
  have h5:0≤rd (nb n) (i:Int)*256 ^ (i % 4):=Int.mul_nonneg hb.1 (Int.le_of_lt (aBP (by decide) _))
  have next:=ih (i+1) (x.set (i / 4) (rd x ((i / 4:Nat):Int)+rd (nb n) (i:Int)*256 ^ (i % 4))) (by omega) (by rw [List.length_set,h3]) (aAI hd _ (by omega) hnew) (by
   rw [aBV _ _ _ _ (by omega),hv,aAS _ _ _ (by omega)]
   have e:=aGq (i / 4) (i % 4)
   rw [show 4*(i / 4)+i % 4=i by omega] at e
   rw [e,show ∀ x y:Int,x+y - x=y from fun x y=>by omega,Int.mul_comm (rd (nb n) (i:Int)),← Int.mul_assoc])
  have p1:=aKZ (P:=Tryz.prog) 3 true (i:Int) 4 (by omega) (by decide)
  rw [show (i:Int) / 4=((i / 4:Nat):Int) by omega] at p1
  have p2:=aBo (P:=Tryz.prog) u_ x (i / 4) (by omega) .i64
  have p3:=aCk (P:=Tryz.prog) u_ x (i / 4) (by omega) .i64
  have p4:=aQn (P:=Tryz.prog) aA3 (N n) i (by omega) .i64
  rw [aAP] at p4
  have p5:=aD8 (P:=Tryz.prog) aAJ .u8 (rd (nb n) (i:Int)) aHh
  have p6:=aLa (P:=Tryz.prog) 3 true .i64 (i:Int) 4 (by omega) (by decide)
  rw [show (i:Int) % 4=((i % 4:Nat):Int) by omega] at p6
  have p7:=aKY (P:=Tryz.prog) 3 true 8 ((i % 4:Nat):Int) (by omega)
  rw [show (8:Int)*((i % 4:Nat):Int)=((8*(i % 4):Nat):Int) by omega] at p7
  have p8:=aPZ (P:=Tryz.prog) 178 false .u32 .i64 (rd (nb n) (i:Int) % 4294967296) (8*(i % 4))
  have p9:=aQF (P:=Tryz.prog) 178 false .u32 (rd x ((i / 4:Nat):Int)) (shl .u32 (rd (nb n) (i:Int) % 4294967296) ((8*(i % 4):Nat):Int))
  rw [hor] at p9
  have p11:=aDq (P:=Tryz.prog) u_ x (i / 4) (by omega) .i64 (rd x ((i / 4:Nat):Int)+rd (nb n) (i:Int)*256 ^ (i % 4))
  have p12:=aBb (P:=Tryz.prog) 3 true (i:Int) 1 (by omega)
  exact rT (by omega) (aAf 3 false .i64 i (N n).size) (rp p1 (rp p2 (rp p3 (rp p4 (rp p5 (rp p6 (rp p7 (rp p8 (rp p9 (rp p2 (rp p11 (rp p12 (ra next)))))))))))))
theorem g_limbs:Sx.Good Tryz.prog X.G 164 ⟨[.one],.v1 .one⟩ F_limbs:=aAj okM0 (fun _ _=>X.G_below) 400 (by kernel_rfl) (by kernel_rfl:_=some aKm) fun ds rs h=>by
 unfold F_limbs at h
 split at h
 ·rename_i a
  split at h
  ·rename_i ha
   obtain rfl:=Option.some.inj h
   have n1:aAY [s_ a]=some [s_ (N (V a))]:=S1.eq (by omega)
   have hs:=aDo ha
   obtain ⟨n,hn⟩:∃ n,n=V a:=⟨_,rfl⟩
   rw [← hn] at n1 hs ⊢
   have p1:=aBb (P:=Tryz.prog) 3 true ((N n).size:Int) 4 (by omega)
   have p2:=aQm (P:=Tryz.prog) 3 true (((N n).size:Int)+4) 1 (by omega)
   have p3:=aKZ (P:=Tryz.prog) 3 true (((N n).size:Int)+4 - 1) 4 (by omega) (by decide)
   rw [show (((N n).size:Int)+4 - 1) / 4=((((N n).size+3) / 4:Nat):Int) by omega] at p3
   have p4:=aI4 (P:=Tryz.prog) (fun x=>Value.int .u32 x) 4 (((N n).size+3) / 4) (by omega) (by omega) .i64 .i64
   have loop:=aLR (C:=aBc aNW) n hs _ rfl (s_ a) (i_ (N n).size) (i_ (((N n).size:Int)+4)) (i_ (((N n).size:Int)+4 - 1)) (i_ ((((N n).size+3) / 4:Nat):Int)) (Ul (List.replicate (((N n).size+3) / 4) 0)) (N n).size 0 (List.replicate (((N n).size+3) / 4) 0) (by omega) (List.length_replicate ..) (aAF (by decide) _) (by rw [aBZ];simp [val])
   exact rc aAY n1 (rp (aAG aA3 (N n)) (rp p1 (rp p2 (rp p3 (rp p4 (rp (aAG aA3 (N n)) (rl loop)))))))
  ·cases h
 ·cases h
def aNX:Tb:=(164,F_limbs)::aNW
theorem okM1:TbOk Tryz.prog X.G aNX:=.cons (by kernel_rfl) g_limbs okM0
def aGv:List D→Option (List Int)
 | []=>some []
 | .v (.int .u32 x)::l=>if 0≤x∧x < 4294967296 then (aGv l).map (x::·) else none
 | _=>none
theorem aJV:∀ {ds:List D} {l:List Int},aGv ds=some l→ds=l.map u_∧Dig 4294967296 l
 | [],l,h=>by
  obtain rfl:=Option.some.inj h
  exact ⟨rfl,aCB _⟩
 | d::ds,l,h=>by
  unfold aGv at h
  split at h
  ·rename_i h2
   cases h2
  ·rename_i x t h2
   injection h2 with h3 h4
   subst h3
   subst h4
   split at h
   ·rename_i hx
    obtain ⟨ys,h5,rfl⟩:=Option.map_eq_some_iff.1 h
    obtain ⟨h6,h7⟩:=aJV h5
    exact ⟨by rw [h6];rfl,aAB.2 ⟨hx,h7⟩⟩
   ·cases h
  ·cases h
theorem aKS:∀ {l:List Int},Dig 4294967296 l→aGv (l.map u_)=some l
 | [],_=>rfl
 | x::l,h=>by
  have h1:=aAB.1 h
  show (if 0≤x∧x < 4294967296 then (aGv (l.map u_)).map (x::·) else none)=_
  rw [if_pos h1.1,aKS h1.2]
  rfl
def F_mag:Fct
 | [.l n ds]=>(aGv ds).bind fun l=>if n=l.length∧l.length≤100000 then some [s_ (N (val 4294967296 l).toNat)] else none
 | _=>none
theorem F_mag.eq {l:List Int} (h:Dig 4294967296 l) (hl:l.length≤100000):F_mag [Ul l]=some [s_ (N (val 4294967296 l).toNat)]:=by
 show (aGv (l.map u_)).bind _=_
 rw [aKS h,Option.bind_some,if_pos ⟨rfl,hl⟩]
theorem F_mag.inv {ds rs:List D} (h:F_mag ds=some rs):∃ l,ds=[Ul l]∧Dig 4294967296 l∧l.length≤100000∧rs=[s_ (N (val 4294967296 l).toNat)]:=by
 unfold F_mag at h
 split at h
 ·rename_i n ds
  obtain ⟨l,h1,h2⟩:=Option.bind_eq_some_iff.1 h
  split at h2
  ·rename_i hc
   obtain ⟨rfl,hd⟩:=aJV h1
   obtain ⟨rfl,hl⟩:=hc
   exact ⟨l,rfl,hd,hl,(Option.some.inj h2).symm⟩
  ·cases h2
 ·cases h
theorem aNY (l:List Int) (hl:Dig 4294967296 l) (hs:l.length≤100000) (e1 e2 e3:D) (r:Nat):∀ (i:Nat) (x:List Int),i+r=l.length→x.length=4*i→Dig 256 x→val 256 x=val 4294967296 (l.take i) →
  Rn Tryz.prog (aBc aNX) aD3 [aD3] [Ul l,e1,e2,e3,i_ l.length,i_ i,Bl x] [s_ (N (val 4294967296 l).toNat)]:=by
 induction r with
 | zero =>
  intro i x hi hx hd hv
  rw [List.take_of_length_le (by omega)] at hv
  have hV:=aO0 hd
  have n1:aAY [s_ (strOfNums x)]=some [s_ (N (V (strOfNums x)))]:=S1.eq (by rw [aGp];omega)
  rw [show V (strOfNums x)=(val 4294967296 l).toNat by omega] at n1
  exact rF (by omega) (aAf 3 false .i64 i l.length) (rp (aP3 x) (rc aAY n1 rr))
 | succ r ih =>
  intro i x hi hx hd hv
  have h1:=aAt hl (i:=i) (by omega)
  obtain ⟨v,hv'⟩:∃ v,v=rd l (i:Int):=⟨_,rfl⟩
  rw [← hv'] at h1
  have next:=ih (i+1) (x++four v) (by omega) (by rw [List.length_append,hx];show 4*i+4=_;omega) (aDf.2 ⟨hd,aJF v⟩) (by
   rw [val_append,hv,hx,aD1,aJG h1,aAS _ _ _ (by omega),← hv'])
  have p1:=aBo (P:=Tryz.prog) u_ l i (by omega) .i64
  have p2:=aCk (P:=Tryz.prog) u_ l i (by omega) .i64
  rw [← hv'] at p2
  have s (j:Nat) (hj:j≤32):(Pu.bin .shr 178 false).run Tryz.prog [.one (u_ v),.one (i_ (j:Int))]=some (u_ (v / 2 ^ j)):=by
   have:=aHf (P:=Tryz.prog) 178 false .u32 .i64 v j
   rw [aGX v j hj] at this
   exact this
  have c (z:Int):(Pu.conv 178 5).run Tryz.prog [.one (u_ z)]=some (y_ (z % 256)):=by
   rw [aDj aHh .u32 z aAJ]
   have:IntKind.u8.wrap z=z % 256:=by simp [IntKind.wrap,IntKind.bits,IntKind.signed]
   rw [this]
  have e4:x++four v=x++[v / 2 ^ 0 % 256]++[v / 2 ^ 8 % 256]++[v / 2 ^ 16 % 256]++[v / 2 ^ 24 % 256]:=by
   unfold four
   simp
  rw [e4] at next
  have a1:=aG1 (P:=Tryz.prog) x (v / 2 ^ 0 % 256) (by omega)
  have a2:=aG1 (P:=Tryz.prog) (x++[v / 2 ^ 0 % 256]) (v / 2 ^ 8 % 256) (by rw [List.length_append,hx];show 4*i+1≤_;omega)
  have a3:=aG1 (P:=Tryz.prog) (x++[v / 2 ^ 0 % 256]++[v / 2 ^ 8 % 256]) (v / 2 ^ 16 % 256) (by rw [List.length_append,List.length_append,hx];show 4*i+1+1≤_;omega)
  have a4:=aG1 (P:=Tryz.prog) (x++[v / 2 ^ 0 % 256]++[v / 2 ^ 8 % 256]++[v / 2 ^ 16 % 256]) (v / 2 ^ 24 % 256) (by rw [List.length_append,List.length_append,List.length_append,hx];show 4*i+1+1+1≤_;omega)
  have p3:=aBb (P:=Tryz.prog) 3 true (i:Int) 1 (by omega)
  exact rT (by omega) (aAf 3 false .i64 i l.length) (rp p1 (rp p2 (rp (s 0 (by decide)) (rp (c (v / 2 ^ 0)) (rp a1 (rp (s 8 (by decide)) (rp (c (v / 2 ^ 8)) (rp a2 (rp (s 16 (by decide)) (rp (c (v / 2 ^ 16)) (rp a3 (rp (s 24 (by decide)) (rp (c (v / 2 ^ 24)) (rp a4 (rp p3 (ra next))))))))))))))))
theorem g_mag:Sx.Good Tryz.prog X.G 188 ⟨[.one],.v1 .one⟩ F_mag:=aAj okM1 (fun _ _=>X.G_below) 400 (by kernel_rfl) (by kernel_rfl:_=some aMP) fun ds rs h=>by
 obtain ⟨l,rfl,hd,hl,rfl⟩:=F_mag.inv h
 have p1:=aKY (P:=Tryz.prog) 3 true 4 (l.length:Int) (by omega)
 have p2:(Pu.lmake (.int .u8 0) 1).run Tryz.prog [.one (i_ 0),.one (i_ (4*(l.length:Int)))]=some (Bl []):=by
  show (if 0≤(0:Int)∧(0:Int)≤4*(l.length:Int)∧aA9 (4*(l.length:Int)).toNat 1=true then some (D.l 0 (List.replicate 0 (.v (.int .u8 0)))) else none)=_
  rw [if_pos ⟨by omega,by omega,aFX (by omega) (by omega)⟩]
  rfl
 exact rp (aA6 l) (rp p1 (rp p2 (rp (aA6 l) (rl (aNY l hd hl (i_ l.length) (i_ (4*(l.length:Int))) (Bl []) l.length 0 [] (by omega) rfl (aCB _) (by simp [val]))))))
def aLS:Tb:=(188,F_mag)::aNX
theorem okM2:TbOk Tryz.prog X.G aLS:=.cons (by kernel_rfl) g_mag okM1
theorem aMY (x y:List Int) (hx:Dig 4294967296 x) (hy:Dig 4294967296 y) (hl:y.length≤x.length) (hs:x.length≤20000) (e0 e1 e4 e5 e6 e7 e8 e9:D) (r:Nat):∀ (i:Nat) (z:List Int) (c:Int),i+r=x.length→z.length=x.length+1→Dig 4294967296 z→(0≤c∧c≤1) →
  val 4294967296 (z.take i)+4294967296 ^ i*c=val 4294967296 (x.take i)+val 4294967296 (y.take i)→Rn Tryz.prog (aBc aLS) aD4 [aD4] [e0,e1,Ul y,Ul x,e4,e5,e6,e7,e8,e9,i_ x.length,u_ c,i_ i,Ul z] [s_ (N (val 4294967296 x+val 4294967296 y).toNat)]:=by
 induction r with
 | zero =>
  intro i z c hi hz hd hc hv
  have hw:val 4294967296 (z.set x.length c)=val 4294967296 x+val 4294967296 y:=by
   rw [List.take_of_length_le (l:=x) (by omega),List.take_of_length_le (l:=y) (by omega)] at hv
   have:=aBy 4294967296 z x.length c (by omega)
   rw [List.take_of_length_le (by rw [List.length_set];omega)] at this
   rw [this,← hv,show x.length=i by omega]
  have m:=F_mag.eq (l:=z.set x.length c) (aAI hd _ hc.1 (by omega)) (by rw [List.length_set];omega)
  rw [hw] at m
  have p1:=aBo (P:=Tryz.prog) u_ z x.length (by omega) .i64
  have p2:=aDq (P:=Tryz.prog) u_ z x.length (by omega) .i64 c
  exact rF (by omega) (aAf 3 false .i64 i x.length) (rp (aA6 x) (rp p1 (rp p2 (rc F_mag m rr))))
 | succ r ih =>
  intro i z c hi hz hd hc hv
  have h1:=aAt hx (i:=i) (by omega)
  have h2:=aFD (by decide) hy i
  obtain ⟨s,hs'⟩:∃ s,s=rd x i+rd y i+c:=⟨_,rfl⟩
  have next:=ih (i+1) (z.set i (s % 4294967296)) (s / 4294967296) (by omega) (by rw [List.length_set,hz]) (aAI hd _ (by omega) (by omega)) (by omega) (by
   rw [aBy _ _ _ _ (by omega),aAg _ x,aAg _ y,Int.pow_succ]
   have e:(4294967296:Int) ^ i*(s % 4294967296)+4294967296 ^ i*4294967296*(s / 4294967296)=4294967296 ^ i*rd x i+4294967296 ^ i*rd y i+4294967296 ^ i*c:=by
    rw [Int.mul_assoc,← Int.mul_add,← Int.mul_add,← Int.mul_add]
    congr 1
    omega
   omega)
  obtain ⟨a,ha⟩:∃ a,a=rd x (i:Int):=⟨_,rfl⟩
  obtain ⟨b,hb⟩:∃ a,a=rd y (i:Int):=⟨_,rfl⟩
  have g1:=aBo (P:=Tryz.prog) u_ x i (by omega) .i64
  have g2:=aCk (P:=Tryz.prog) u_ x i (by omega) .i64
  have g5:=aBo (P:=Tryz.prog) u_ z i (by omega) .i64
  have g6:=aDq (P:=Tryz.prog) u_ z i (by omega) .i64 (s % 4294967296)
  rw [← ha] at h1 hs' g2
  rw [← hb] at h2 hs'
  have c1:=aCx (P:=Tryz.prog) aAT .u32 a aAJ (by omega)
  have c2:=aCx (P:=Tryz.prog) aAT .u32 b aAJ (by omega)
  have c3:=aCx (P:=Tryz.prog) aAT .u32 c aAJ (by omega)
  have a1:=aEq (P:=Tryz.prog) 104 false a b (by omega)
  have a2:=aEq (P:=Tryz.prog) 104 false (a+b) c (by omega)
  rw [← hs'] at a2
  have c4:=aD8 (P:=Tryz.prog) aAJ .u64 s aAT
  have q1:(Pu.bin .shr 104 true).run Tryz.prog [.one (w_ s),.one (w_ 32)]=some (w_ (s / 4294967296)):=by
   have:=aHf (P:=Tryz.prog) 104 true .u64 .u64 s 32
   rw [aII s 32 (by decide)] at this
   exact this
  have c5:=aD8 (P:=Tryz.prog) aAJ .u64 (s / 4294967296) aAT
  rw [show s / 4294967296 % 4294967296=s / 4294967296 by omega] at c5
  have p3:=aBb (P:=Tryz.prog) 3 true (i:Int) 1 (by omega)
  by_cases hlt:i < y.length
  ·have g3:=aBo (P:=Tryz.prog) u_ y i hlt .i64
   have g4:=aCk (P:=Tryz.prog) u_ y i hlt .i64
   rw [← hb] at g4
   exact rT (by omega) (aAf 3 false .i64 i x.length) (rp (aA6 y) (rT (by omega) (aAf 3 false .i64 i y.length) (rp g3 (rp g4 (rp g1 (rp g2 (rp c1 (rp c2 (rp a1 (rp c3 (rp a2 (rp c4 (rp q1 (rp c5 (rp g5 (rp g6 (rp p3 (ra next))))))))))))))))))
  ·have h0:=aEj (l:=y) (i:=i) (by omega)
   rw [← hb] at h0
   subst h0
   exact rT (by omega) (aAf 3 false .i64 i x.length) (rp (aA6 y) (rF (by omega) (aAf 3 false .i64 i y.length) (rp g1 (rp g2 (rp c1 (rp a1 (rp c3 (rp a2 (rp c4 (rp q1 (rp c5 (rp g5 (rp g6 (rp p3 (ra next)))))))))))))))
theorem aMZ (x y:List Int) (hx:Dig 4294967296 x) (hy:Dig 4294967296 y) (hl:y.length≤x.length) (hs:x.length≤20000) (e0 e1 e4 e5 e6 e7 e8 e9:D) (r:Nat):∀ (i:Nat) (z:List Int) (c:Int),i+r=x.length→z.length=x.length+1→Dig 4294967296 z→(0≤c∧c≤1) →
  val 4294967296 (z.take i)+4294967296 ^ i*c=val 4294967296 (x.take i)+val 4294967296 (y.take i)→Rn Tryz.prog (aBc aLS) aD5 [aD5] [e0,e1,Ul x,Ul y,e4,e5,e6,e7,e8,e9,i_ x.length,u_ c,i_ i,Ul z] [s_ (N (val 4294967296 x+val 4294967296 y).toNat)]:=by
 induction r with
 | zero =>
  intro i z c hi hz hd hc hv
  have hw:val 4294967296 (z.set x.length c)=val 4294967296 x+val 4294967296 y:=by
   rw [List.take_of_length_le (l:=x) (by omega),List.take_of_length_le (l:=y) (by omega)] at hv
   have:=aBy 4294967296 z x.length c (by omega)
   rw [List.take_of_length_le (by rw [List.length_set];omega)] at this
   rw [this,← hv,show x.length=i by omega]
  have m:=F_mag.eq (l:=z.set x.length c) (aAI hd _ hc.1 (by omega)) (by rw [List.length_set];omega)
  rw [hw] at m
  have p1:=aBo (P:=Tryz.prog) u_ z x.length (by omega) .i64
  have p2:=aDq (P:=Tryz.prog) u_ z x.length (by omega) .i64 c
  exact rF (by omega) (aAf 3 false .i64 i x.length) (rp (aA6 x) (rp p1 (rp p2 (rc F_mag m rr))))
 | succ r ih =>
  intro i z c hi hz hd hc hv
  have h1:=aAt hx (i:=i) (by omega)
  have h2:=aFD (by decide) hy i
  obtain ⟨s,hs'⟩:∃ s,s=rd x i+rd y i+c:=⟨_,rfl⟩
  have next:=ih (i+1) (z.set i (s % 4294967296)) (s / 4294967296) (by omega) (by rw [List.length_set,hz]) (aAI hd _ (by omega) (by omega)) (by omega) (by
   rw [aBy _ _ _ _ (by omega),aAg _ x,aAg _ y,Int.pow_succ]
   have e:(4294967296:Int) ^ i*(s % 4294967296)+4294967296 ^ i*4294967296*(s / 4294967296)=4294967296 ^ i*rd x i+4294967296 ^ i*rd y i+4294967296 ^ i*c:=by
    rw [Int.mul_assoc,← Int.mul_add,← Int.mul_add,← Int.mul_add]
    congr 1
    omega
   omega)
  obtain ⟨a,ha⟩:∃ a,a=rd x (i:Int):=⟨_,rfl⟩
  obtain ⟨b,hb⟩:∃ a,a=rd y (i:Int):=⟨_,rfl⟩
  have g1:=aBo (P:=Tryz.prog) u_ x i (by omega) .i64
  have g2:=aCk (P:=Tryz.prog) u_ x i (by omega) .i64
  have g5:=aBo (P:=Tryz.prog) u_ z i (by omega) .i64
  have g6:=aDq (P:=Tryz.prog) u_ z i (by omega) .i64 (s % 4294967296)
  rw [← ha] at h1 hs' g2
  rw [← hb] at h2 hs'
  have c1:=aCx (P:=Tryz.prog) aAT .u32 a aAJ (by omega)
  have c2:=aCx (P:=Tryz.prog) aAT .u32 b aAJ (by omega)
  have c3:=aCx (P:=Tryz.prog) aAT .u32 c aAJ (by omega)
  have a1:=aEq (P:=Tryz.prog) 104 false a b (by omega)
  have a2:=aEq (P:=Tryz.prog) 104 false (a+b) c (by omega)
  rw [← hs'] at a2
  have c4:=aD8 (P:=Tryz.prog) aAJ .u64 s aAT
  have q1:(Pu.bin .shr 104 true).run Tryz.prog [.one (w_ s),.one (w_ 32)]=some (w_ (s / 4294967296)):=by
   have:=aHf (P:=Tryz.prog) 104 true .u64 .u64 s 32
   rw [aII s 32 (by decide)] at this
   exact this
  have c5:=aD8 (P:=Tryz.prog) aAJ .u64 (s / 4294967296) aAT
  rw [show s / 4294967296 % 4294967296=s / 4294967296 by omega] at c5
  have p3:=aBb (P:=Tryz.prog) 3 true (i:Int) 1 (by omega)
  by_cases hlt:i < y.length
  ·have g3:=aBo (P:=Tryz.prog) u_ y i hlt .i64
   have g4:=aCk (P:=Tryz.prog) u_ y i hlt .i64
   rw [← hb] at g4
   exact rT (by omega) (aAf 3 false .i64 i x.length) (rp (aA6 y) (rT (by omega) (aAf 3 false .i64 i y.length) (rp g3 (rp g4 (rp g1 (rp g2 (rp c1 (rp c2 (rp a1 (rp c3 (rp a2 (rp c4 (rp q1 (rp c5 (rp g5 (rp g6 (rp p3 (ra next))))))))))))))))))
  ·have h0:=aEj (l:=y) (i:=i) (by omega)
   rw [← hb] at h0
   subst h0
   exact rT (by omega) (aAf 3 false .i64 i x.length) (rp (aA6 y) (rF (by omega) (aAf 3 false .i64 i y.length) (rp g1 (rp g2 (rp c1 (rp a1 (rp c3 (rp a2 (rp c4 (rp q1 (rp c5 (rp g5 (rp g6 (rp p3 (ra next)))))))))))))))
theorem g_add':Sx.Good Tryz.prog X.G 183 ⟨[.one,.one],.v1 .one⟩ aOx:=aAj okM2 (fun _ _=>X.G_below) 400 (by kernel_rfl) (by kernel_rfl:_=some aMQ) fun ds rs h=>by
 obtain ⟨a,b,rfl,ha,hb,rfl⟩:=S2.inv h
 have n1:F_limbs [s_ a]=some [Ul (lb (V a))]:=F_limbs.eq (by omega)
 have n2:F_limbs [s_ b]=some [Ul (lb (V b))]:=F_limbs.eq (by omega)
 have dp:=aBA (V a)
 have dq:=aBA (V b)
 have sp:=aC9 a
 have sq:=aC9 b
 have hv:(val 4294967296 (lb (V a))+val 4294967296 (lb (V b))).toNat=V a+V b:=by rw [aCt,aCt];omega
 generalize lb (V a)=p at *
 generalize lb (V b)=q at *
 by_cases hc:p.length < q.length
 ·have p1:=aBb (P:=Tryz.prog) 3 true (q.length:Int) 1 (by omega)
  rw [show (q.length:Int)+1=((q.length+1:Nat):Int) by omega] at p1
  have p2:=aI4 (P:=Tryz.prog) (fun x=>Value.int .u32 x) 4 (q.length+1) (by omega) (by omega) .i64 .i64
  have loop:=aMY q p dq dp (by omega) (by omega) (s_ a) (s_ b) (i_ p.length) (i_ q.length) (b_ true) (i_ q.length) (i_ ((q.length+1:Nat):Int)) (Ul (List.replicate (q.length+1) 0)) q.length 0 (List.replicate (q.length+1) 0) 0 (by omega) (List.length_replicate ..) (aAF (by decide) _) (by decide) (by simp [val])
  rw [Int.add_comm] at loop
  rw [hv] at loop
  exact rc F_limbs n1 (rc F_limbs n2 (rp (aA6 p) (rp (aA6 q) (rT (by omega) (aAf 3 false .i64 p.length q.length) (rp (aA6 q) (rp p1 (rp p2 (rp (aA6 q) (rl loop)))))))))
 ·have p1:=aBb (P:=Tryz.prog) 3 true (p.length:Int) 1 (by omega)
  rw [show (p.length:Int)+1=((p.length+1:Nat):Int) by omega] at p1
  have p2:=aI4 (P:=Tryz.prog) (fun x=>Value.int .u32 x) 4 (p.length+1) (by omega) (by omega) .i64 .i64
  have loop:=aMZ p q dp dq (by omega) (by omega) (s_ a) (s_ b) (i_ p.length) (i_ q.length) (b_ false) (i_ p.length) (i_ ((p.length+1:Nat):Int)) (Ul (List.replicate (p.length+1) 0)) p.length 0 (List.replicate (p.length+1) 0) 0 (by omega) (List.length_replicate ..) (aAF (by decide) _) (by decide) (by simp [val])
  rw [hv] at loop
  exact rc F_limbs n1 (rc F_limbs n2 (rp (aA6 p) (rp (aA6 q) (rF (by omega) (aAf 3 false .i64 p.length q.length) (rp (aA6 p) (rp p1 (rp p2 (rp (aA6 p) (rl loop)))))))))
theorem aNa {x:Nat}:(N x=(⟨#[]⟩:ByteArray)) ↔ x=0:=by rw [← aFs,aLQ]
theorem gcd_step (x y:Nat):Nat.gcd y (x % y)=Nat.gcd x y:=by rw [Nat.gcd_comm y (x % y),← Nat.gcd_rec,Nat.gcd_comm]
def tbG:Tb:=[(162,aAY),(186,aCs),(185,F_from),(147,aDe)]
theorem okG:TbOk Tryz.prog X.G tbG:=.cons (by kernel_rfl) g_normB (.cons (by kernel_rfl) g_u64 (.cons (by kernel_rfl) g_from (.cons (by kernel_rfl) g_div trivial)))
theorem aQa (e0 e1 e2 e3 e4 e5 e6 e7 e8 e9:D) (y:Nat):∀ x:Nat,x < 18446744073709551616→y < 18446744073709551616→Rn Tryz.prog (aBc tbG) aD7 [aCw,aD7] [e0,e1,e2,e3,e4,e5,e6,e7,e8,e9,w_ x,w_ y] [s_ (N (Nat.gcd x y))]:=by
 induction y using Nat.strongRecOn with
 | _ y ih =>
  intro x hx hy
  by_cases h:y=0
  ·subst h
   rw [Nat.gcd_zero_right]
   have p:(Pu.bin .neq 104 true).run Tryz.prog [.one (w_ (0:Nat)),.one (w_ 0)]=some (b_ false):=by rw [aK5];rfl
   exact rp p (rn (rc F_from (F_from.eq hx) rr))
  ·have p:(Pu.bin .neq 104 true).run Tryz.prog [.one (w_ (y:Int)),.one (w_ 0)]=some (b_ true):=by
    rw [aK5,show ((y:Int) != 0)=true by simp;omega]
   have q:=aLa (P:=Tryz.prog) 104 false .u64 (x:Int) (y:Int) (by omega) (by omega)
   rw [← Int.natCast_emod] at q
   have next:=ih (x % y) (Nat.mod_lt _ (by omega)) y hy (Nat.lt_trans (Nat.mod_lt _ (by omega)) hy)
   rw [gcd_step] at next
   exact rp p (ry (rp q (ra next)))
theorem aPo (e0 e1:D) (n:Nat):∀ (a b:ByteArray),V b=n→a.size≤20000→b.size≤20000→Rn Tryz.prog (aBc tbG) aCw [aCw] [e0,e1,s_ a,s_ b] [s_ (N (Nat.gcd (V a) (V b)))]:=by
 induction n using Nat.strongRecOn with
 | _ n ih =>
  intro a b hn ha hb
  have n1:aAY [s_ b]=some [s_ (N (V b))]:=S1.eq (by omega)
  have n2:aAY [s_ a]=some [s_ (N (V a))]:=S1.eq (by omega)
  have p:=aDY (P:=Tryz.prog) 9 true (N (V b)) (⟨#[]⟩:ByteArray)
  by_cases h:V b=0
  ·rw [h,Nat.gcd_zero_right]
   exact rc aAY n1 (rF (fun g=>g (aNa.2 h)) p (rc aAY n2 rr))
  ·have hne:¬ N (V b)=(⟨#[]⟩:ByteArray):=fun g=>h (aNa.1 g)
   have u1:aCs [s_ a]=some [w_ (aCY (V a)).1,b_ (aCY (V a)).2]:=S1.eq ha
   have u2:aCs [s_ b]=some [w_ (aCY (V b)).1,b_ (aCY (V b)).2]:=S1.eq hb
   have d:aDe [s_ a,s_ b]=some [s_ (N (V a / V b)),s_ (N (V a % V b)),b_ true]:=by
    rw [aDe,S2.eq ha hb]
    unfold aC7
    rw [if_neg h]
   have hlt:V a % V b < V b:=Nat.mod_lt _ (by omega)
   have next:=ih (V a % V b) (by omega) b (N (V a % V b)) (V_N _) hb (by have:=aJM (n:=V a % V b) (a:=b) (by omega);omega)
   rw [V_N,gcd_step] at next
   unfold aCY at u1 u2
   by_cases hx:V a < 18446744073709551616
   ·rw [if_pos hx] at u1
    by_cases hy:V b < 18446744073709551616
    ·rw [if_pos hy] at u2
     exact rc aAY n1 (rT hne p (rc aCs u1 (rc aCs u2 (ry (ry (rl (aQa e0 e1 (s_ a) (s_ b) (s_ (N (V b))) (b_ true) (w_ (V a)) (b_ true) (w_ (V b)) (b_ true) (V b) (V a) hx hy)))))))
    ·rw [if_neg hy] at u2
     exact rc aAY n1 (rT hne p (rc aCs u1 (rc aCs u2 (ry (rn (rc aDe d (ra next)))))))
   ·rw [if_neg hx] at u1
    exact rc aAY n1 (rT hne p (rc aCs u1 (rc aCs u2 (rn (rc aDe d (ra next))))))
theorem g_gcd':Sx.Good Tryz.prog X.G 145 ⟨[.one,.one],.v1 .one⟩ aLK:=aAj okG (fun _ _=>X.G_below) 400 (by kernel_rfl) (by kernel_rfl:_=some aMS) fun ds rs h=>by
 obtain ⟨a,b,rfl,ha,hb,rfl⟩:=S2.inv h
 exact rl (aPo (s_ a) (s_ b) (V b) a b rfl ha hb)
theorem val_put (B:Int) (z:List Int) (i:Nat) (d:Int) (h:i < z.length):val B (z.set i d)=val B z - B ^ i*rd z i+B ^ i*d:=by
 rw [aBV B z i d h,Int.mul_sub]
 omega
theorem aQb {C:Cf} {res:List D} (x y:List Int) (hx:Dig 4294967296 x) (hy:Dig 4294967296 y) (i:Nat) (hi:i < x.length) (hs:x.length+y.length≤40000) (e0 e1 e4 e5 e6 e7 e10:D) (T0:Int)
  (K:∀ z':List Int,z'.length=x.length+y.length→Dig 4294967296 z'→(∀ q:Nat,i+1+y.length≤q→rd z' q=0)→val 4294967296 z'=T0+4294967296 ^ i*(rd x i*val 4294967296 y)→Rn Tryz.prog C aBz [aBz] [e0,e1,Ul x,Ul y,e4,e5,e6,e7,i_ x.length,i_ (i+1:Nat),Ul z'] res)
  (r:Nat):∀ (j:Nat) (z:List Int) (c:Int),j+r=y.length→z.length=x.length+y.length→Dig 4294967296 z→(0≤c∧c < 4294967296)→(∀ q:Nat,i+y.length≤q→rd z q=0) →
  val 4294967296 z+4294967296 ^ (i+j)*c=T0+4294967296 ^ i*(rd x i*val 4294967296 (y.take j)) →
  Rn Tryz.prog C aD6 [aBz,aD6] [e0,e1,Ul x,Ul y,e4,e5,e6,e7,i_ x.length,i_ i,e10,b_ true,i_ y.length,w_ c,i_ j,Ul z] res:=by
 have q0:=aBb (P:=Tryz.prog) 3 true (i:Int) 1 (by omega)
 induction r with
 | zero =>
  intro j z c hj hz hd hc h0 hv
  have next:=K (z.set (i+y.length) c) (by rw [List.length_set,hz]) (aAI hd _ hc.1 hc.2) (fun q hq=>by rw [aEk _ _ _ _ (by omega),if_neg (by omega)];exact h0 q (by omega)) (by
   rw [val_put _ _ _ _ (by omega),h0 (i+y.length) (Nat.le_refl _),Int.mul_zero,Int.sub_zero]
   rw [List.take_of_length_le (l:=y) (by omega)] at hv
   rw [show y.length=j by omega]
   exact hv)
  have p1:=aBb (P:=Tryz.prog) 3 false (i:Int) (y.length:Int) (by omega)
  rw [show (i:Int)+(y.length:Int)=((i+y.length:Nat):Int) by omega] at p1
  have p2:=aD8 (P:=Tryz.prog) aAJ .u64 c aAT
  rw [Int.emod_eq_of_lt hc.1 hc.2] at p2
  have p3:=aBo (P:=Tryz.prog) u_ z (i+y.length) (by omega) .i64
  have p4:=aDq (P:=Tryz.prog) u_ z (i+y.length) (by omega) .i64 c
  exact rF (by omega) (aAf 3 false .i64 j y.length) (rp (aA6 y) (rp p1 (rp p2 (rp p3 (rp p4 (rp q0 (ra next)))))))
 | succ r ih =>
  intro j z c hj hz hd hc h0 hv
  have h1:=aAt hx (i:=i) (by omega)
  have h2:=aAt hy (i:=j) (by omega)
  have h3:=aAt hd (i:=i+j) (by omega)
  have hp:0≤rd x i*rd y j:=Int.mul_nonneg h1.1 h2.1
  have hp2:rd x i*rd y j≤4294967295*4294967295:=Int.mul_le_mul (by omega) (by omega) h2.1 (by omega)
  obtain ⟨S0,hS⟩:∃ S0,S0=rd x i*rd y j+rd z ((i+j:Nat):Int)+c:=⟨_,rfl⟩
  have next:=ih (j+1) (z.set (i+j) (S0 % 4294967296)) (S0 / 4294967296) (by omega) (by rw [List.length_set,hz]) (aAI hd _ (by omega) (by omega)) (by omega)
   (fun q hq=>by rw [aEk _ _ _ _ (by omega),if_neg (by omega)];exact h0 q hq)
   (by
    rw [val_put _ _ _ _ (by omega),aAg,show i+(j+1)=i+j+1 by omega,Int.pow_succ]
    have e:(4294967296:Int) ^ (i+j)*(S0 % 4294967296)+4294967296 ^ (i+j)*4294967296*(S0 / 4294967296)=4294967296 ^ (i+j)*rd x i*rd y j+4294967296 ^ (i+j)*rd z ((i+j:Nat):Int)+4294967296 ^ (i+j)*c:=by
     rw [Int.mul_assoc,← Int.mul_add,Int.mul_assoc,← Int.mul_add,← Int.mul_add]
     congr 1
     omega
    have e':(4294967296:Int) ^ i*(rd x i*(val 4294967296 (y.take j)+4294967296 ^ j*rd y j))=4294967296 ^ i*(rd x i*val 4294967296 (y.take j))+4294967296 ^ (i+j)*rd x i*rd y j:=by
     rw [Int.mul_add,Int.mul_add,Int.pow_add]
     congr 1
     simp only [Int.mul_assoc]
     congr 1
     rw [← Int.mul_assoc,← Int.mul_assoc,Int.mul_comm (rd x i)]
    omega)
  have g1:=aBo (P:=Tryz.prog) u_ x i hi .i64
  have g2:=aCk (P:=Tryz.prog) u_ x i hi .i64
  have g3:=aBo (P:=Tryz.prog) u_ y j (by omega) .i64
  have g4:=aCk (P:=Tryz.prog) u_ y j (by omega) .i64
  have g5:=aBo (P:=Tryz.prog) u_ z (i+j) (by omega) .i64
  have g6:=aCk (P:=Tryz.prog) u_ z (i+j) (by omega) .i64
  have g7:=aDq (P:=Tryz.prog) u_ z (i+j) (by omega) .i64 (S0 % 4294967296)
  have p1:=aBb (P:=Tryz.prog) 3 false (i:Int) (j:Int) (by omega)
  rw [show (i:Int)+(j:Int)=((i+j:Nat):Int) by omega] at p1
  have p2:=aBb (P:=Tryz.prog) 3 true (j:Int) 1 (by omega)
  generalize rd x (i:Int)=a at *
  generalize rd y (j:Int)=b at *
  generalize rd z ((i+j:Nat):Int)=d at *
  have c1:=aCx (P:=Tryz.prog) aAT .u32 a aAJ (by omega)
  have c2:=aCx (P:=Tryz.prog) aAT .u32 b aAJ (by omega)
  have c3:=aCx (P:=Tryz.prog) aAT .u32 d aAJ (by omega)
  have m1:(Pu.bin .mul 104 false).run Tryz.prog [.one (w_ a),.one (w_ b)]=some (w_ (a*b)):=by rw [aJi,wu hp (by omega)]
  have a1:=aEq (P:=Tryz.prog) 104 false (a*b) d (by omega)
  have a2:=aEq (P:=Tryz.prog) 104 false (a*b+d) c (by omega)
  rw [← hS] at a2
  have c4:=aD8 (P:=Tryz.prog) aAJ .u64 S0 aAT
  have s1:(Pu.bin .shr 104 true).run Tryz.prog [.one (w_ S0),.one (w_ 32)]=some (w_ (S0 / 4294967296)):=by
   have:=aHf (P:=Tryz.prog) 104 true .u64 .u64 S0 32
   rw [aII S0 32 (by decide)] at this
   exact this
  exact rT (by omega) (aAf 3 false .i64 j y.length) (rp g1 (rp g2 (rp c1 (rp g3 (rp g4 (rp c2 (rp m1 (rp p1 (rp g5 (rp g6 (rp c3 (rp a1 (rp a2 (rp p1 (rp c4 (rp s1 (rp g5 (rp g7 (rp p2 (ra next))))))))))))))))))))
theorem aPp (x y:List Int) (hx:Dig 4294967296 x) (hy:Dig 4294967296 y) (hs:x.length+y.length≤40000) (e0 e1 e4 e5 e6 e7:D) (r:Nat):∀ (i:Nat) (z:List Int),i+r=x.length→z.length=x.length+y.length→Dig 4294967296 z→(∀ q:Nat,i+y.length≤q→rd z q=0) →
  val 4294967296 z=val 4294967296 (x.take i)*val 4294967296 y→Rn Tryz.prog (aBc aLS) aBz [aBz] [e0,e1,Ul x,Ul y,e4,e5,e6,e7,i_ x.length,i_ i,Ul z] [s_ (N (val 4294967296 x*val 4294967296 y).toNat)]:=by
 induction r with
 | zero =>
  intro i z hi hz hd h0 hv
  rw [List.take_of_length_le (l:=x) (by omega)] at hv
  have m:=F_mag.eq (l:=z) hd (by omega)
  rw [hv] at m
  exact rF (by omega) (aAf 3 false .i64 i x.length) (rc F_mag m rr)
 | succ r ih =>
  intro i z hi hz hd h0 hv
  exact rT (by omega) (aAf 3 false .i64 i x.length) (rp (aA6 y) (rl (aQb x y hx hy i (by omega) hs e0 e1 e4 e5 e6 e7 (Ul z) (val 4294967296 z) (fun z' k1 k2 k3 k4=>ih (i+1) z' (by omega) k1 k2 k3 (by rw [k4,hv,aAg,Int.add_mul,Int.mul_assoc])) y.length 0 z 0 (by omega) hz hd (by decide) h0 (by simp [val]))))
theorem g_mul':Sx.Good Tryz.prog X.G 184 ⟨[.one,.one],.v1 .one⟩ aOy:=aAj okM2 (fun _ _=>X.G_below) 400 (by kernel_rfl) (by kernel_rfl:_=some aMR) fun ds rs h=>by
 obtain ⟨a,b,rfl,ha,hb,rfl⟩:=S2.inv h
 have n1:F_limbs [s_ a]=some [Ul (lb (V a))]:=F_limbs.eq (by omega)
 have n2:F_limbs [s_ b]=some [Ul (lb (V b))]:=F_limbs.eq (by omega)
 have dp:=aBA (V a)
 have dq:=aBA (V b)
 have sp:=aC9 a
 have sq:=aC9 b
 have hv:(val 4294967296 (lb (V a))*val 4294967296 (lb (V b))).toNat=V a*V b:=by rw [aCt,aCt,← Int.natCast_mul,Int.toNat_natCast]
 generalize lb (V a)=p at *
 generalize lb (V b)=q at *
 have p1:=aBb (P:=Tryz.prog) 3 false (p.length:Int) (q.length:Int) (by omega)
 rw [show (p.length:Int)+(q.length:Int)=((p.length+q.length:Nat):Int) by omega] at p1
 have p2:=aI4 (P:=Tryz.prog) (fun x=>Value.int .u32 x) 4 (p.length+q.length) (by omega) (by omega) .i64 .i64
 have loop:=aPp p q dp dq (by omega) (s_ a) (s_ b) (i_ p.length) (i_ q.length) (i_ ((p.length+q.length:Nat):Int)) (Ul (List.replicate (p.length+q.length) 0)) p.length 0 (List.replicate (p.length+q.length) 0) (by omega) (List.length_replicate ..) (aAF (by decide) _) (fun k _=>aCu _ _) (by rw [aBZ];simp [val])
 rw [hv] at loop
 exact rc F_limbs n1 (rc F_limbs n2 (rp (aA6 p) (rp (aA6 q) (rp p1 (rp p2 (rp (aA6 p) (rl loop)))))))
def tbN':Tb:=[(162,aGT),(187,aLJ),(183,aOx),(184,aOy),(147,aDe),(145,aLK),(186,aCs),(185,F_from),(125,aGU)]
theorem okN':TbOk Tryz.prog X.G tbN':=TbOk.cons (by kernel_rfl) g_norm <| TbOk.cons (by kernel_rfl) g_cmp <| TbOk.cons (by kernel_rfl) g_add' <| TbOk.cons (by kernel_rfl) g_mul' <| TbOk.cons (by kernel_rfl) g_div <| TbOk.cons (by kernel_rfl) g_gcd' <| TbOk.cons (by kernel_rfl) g_u64 <| TbOk.cons (by kernel_rfl) g_from <| TbOk.cons (by kernel_rfl) g_fmt <| trivial
end Go.Proofs.YtkkjlpfomofiaaaGreatDoor.Sp
