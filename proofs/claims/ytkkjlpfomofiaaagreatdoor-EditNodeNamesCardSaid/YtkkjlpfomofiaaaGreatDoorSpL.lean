import Derived.Test.YtkkjlpfomofiaaaGreatDoorSx2
import Derived.Test.YtkkjlpfomofiaaaGreatDoorSpN
namespace Go.Proofs.YtkkjlpfomofiaaaGreatDoor.Sp
open Go Go.RowKit YtkkjlpfomofiaaaGreatDoorW.PrintWords Sx NatA NatB
section
variable {P:Program} {C:Cf} {m:Nat} {L:List T} {env r:List D}
theorem go_T {p:Pu} {xs:List (V1 S)} {n:Nat} {t e:T} {vs:List (V1 D)} {q:Prop} [Decidable q] (hq:q) (hv:aAc (V1.val (S.val env)) xs=some vs) (hp:p.run P vs=some (b_ (decide q))) (hn:(env++[b_ true])[n]?=some (b_ true)) (h:t.run P C m L (env++[b_ true])=some r):(T.pure p xs (T.ite n t e)).run P C m L env=some r:=by
 rw [decide_eq_true hq] at hp
 exact aA4 hv hp (aDh hn h)
theorem go_F {p:Pu} {xs:List (V1 S)} {n:Nat} {t e:T} {vs:List (V1 D)} {q:Prop} [Decidable q] (hq:¬ q) (hv:aAc (V1.val (S.val env)) xs=some vs) (hp:p.run P vs=some (b_ (decide q))) (hn:(env++[b_ false])[n]?=some (b_ false)) (h:e.run P C m L (env++[b_ false])=some r):(T.pure p xs (T.ite n t e)).run P C m L env=some r:=by
 rw [decide_eq_false hq] at hp
 exact aA4 hv hp (aC0 hn h)
def Rn (P:Program) (C:Cf) (t:T) (L:List T) (env:List D) (r:List D):Prop:=∃ m,t.run P C m L env=some r
theorem rr {ss:List S} (h:aAc (S.val env) ss=some r:=by kernel_rfl):Rn P C (T.ret ss) L env r:=⟨0,aAl h⟩
theorem rp {p:Pu} {xs:List (V1 S)} {k:T} {vs:List (V1 D)} {d:D} (hp:p.run P vs=some d) (h:Rn P C k L (env++[d]) r) (hv:aAc (V1.val (S.val env)) xs=some vs:=by kernel_rfl):Rn P C (T.pure p xs k) L env r:=h.imp fun _ h=>aA4 hv hp h
theorem rc {f:FuncId} {ss:List S} {n:Nat} {k:T} {ds rs:List D} (F:Fct) (hc:F ds=some rs) (h:Rn P C k L (env++rs) r) (hF:C f=F:=by rfl) (hv:aAc (S.val env) ss=some ds:=by kernel_rfl) (hl:rs.length=n:=by rfl):Rn P C (T.call f ss n k) L env r:=h.imp fun _ h=>aAo F hF hv hc hl h
theorem rT {p:Pu} {xs:List (V1 S)} {n:Nat} {t e:T} {vs:List (V1 D)} {q:Prop} [Decidable q] (hq:q) (hp:p.run P vs=some (b_ (decide q))) (h:Rn P C t L (env++[b_ true]) r) (hv:aAc (V1.val (S.val env)) xs=some vs:=by kernel_rfl) (hn:(env++[b_ true])[n]?=some (b_ true):=by kernel_rfl):Rn P C (T.pure p xs (T.ite n t e)) L env r:=h.imp fun _ h=>go_T hq hv hp hn h
theorem rF {p:Pu} {xs:List (V1 S)} {n:Nat} {t e:T} {vs:List (V1 D)} {q:Prop} [Decidable q] (hq:¬ q) (hp:p.run P vs=some (b_ (decide q))) (h:Rn P C e L (env++[b_ false]) r) (hv:aAc (V1.val (S.val env)) xs=some vs:=by kernel_rfl) (hn:(env++[b_ false])[n]?=some (b_ false):=by kernel_rfl):Rn P C (T.pure p xs (T.ite n t e)) L env r:=h.imp fun _ h=>go_F hq hv hp hn h
theorem ry {i:Nat} {t e:T} (h:Rn P C t L env r) (hb:env[i]?=some (b_ true):=by kernel_rfl):Rn P C (T.ite i t e) L env r:=h.imp fun _ h=>aDh hb h
theorem rn {i:Nat} {t e:T} (h:Rn P C e L env r) (hb:env[i]?=some (b_ false):=by kernel_rfl):Rn P C (T.ite i t e) L env r:=h.imp fun _ h=>aC0 hb h
theorem rl {d:Nat} {init:List S} {body:T} {env':List D} {L':List T} (h:Rn P C body L' env' r) (hv:(aAc (S.val env) init).map (env++·)=some env':=by kernel_rfl) (hL:L.take d++[body]=L':=by rfl):Rn P C (T.loop d init body) L env r:=by
 obtain ⟨vs,h1,rfl⟩:=Option.map_eq_some_iff.1 hv
 subst hL
 exact h.imp fun _ h=>aOL h1 h
theorem ra {d n:Nat} {ss:List S} {env':List D} {L':List T} {b:T} (h:Rn P C b L' env' r) (hv:(aAc (S.val env) ss).map (env.take n++·)=some env':=by kernel_rfl) (hb:L[d]?=some b:=by rfl) (hL:L.take (d+1)=L':=by rfl):Rn P C (T.again d n ss) L env r:=by
 obtain ⟨vs,h1,rfl⟩:=Option.map_eq_some_iff.1 hv
 subst hL
 exact h.elim fun m h=>⟨m+1,aNz h1 hb h⟩
abbrev y_ (x:Int):D:=.v (.int .u8 x)
abbrev w_ (x:Int):D:=.v (.int .u64 x)
def Bl (l:List Int):D:=.l l.length (l.map y_)
theorem wi {i:Int} (h:-1099511627776≤i∧i≤1099511627776):IntKind.i64.wrap i=i:=by rw [IntKind.wrap_i64];omega
theorem aBb (t:TypeId) (kk:Bool) (a b:Int) (h:-1099511627776≤a+b∧a+b≤1099511627776):(Pu.bin .add t kk).run P [.one (i_ a),.one (i_ b)]=some (i_ (a+b)):=by rw [aEw,wi h]
theorem aQm (t:TypeId) (kk:Bool) (a b:Int) (h:-1099511627776≤a - b∧a - b≤1099511627776):(Pu.bin .sub t kk).run P [.one (i_ a),.one (i_ b)]=some (i_ (a - b)):=by rw [aJh,wi h]
theorem aKY (t:TypeId) (kk:Bool) (a b:Int) (h:-1099511627776≤a*b∧a*b≤1099511627776):(Pu.bin .mul t kk).run P [.one (i_ a),.one (i_ b)]=some (i_ (a*b)):=by rw [aJi,wi h]
theorem aOe (op:BinOp) (ho:op=.quo∨op=.rem) (t:TypeId) (k:IntKind) (a b:Int) (hb:0 < b) {v:Int} (hv:(op=.quo→v=k.wrap (a.tdiv b))∧(op=.rem→v=a.tmod b)):quiet P (binOp op t (.int k a) (.int k b))=some (.int k v):=by
 have h0:¬ b=0:=by omega
 rcases ho with rfl | rfl
 ·rw [hv.1 rfl]
  show quiet P (if k≠k then _ else Op.intDiv .quo k a b)=_
  rw [if_neg (by simp)]
  unfold Op.intDiv
  rw [if_neg h0]
  rfl
 ·rw [hv.2 rfl]
  show quiet P (if k≠k then _ else Op.intDiv .rem k a b)=_
  rw [if_neg (by simp)]
  unfold Op.intDiv
  rw [if_neg h0]
  rfl
theorem aKZ (t:TypeId) (kk:Bool) (a b:Int) (ha:0≤a∧a≤1099511627776) (hb:0 < b):(Pu.bin .quo t kk).run P [.one (i_ a),.one (i_ b)]=some (i_ (a / b)):=by
 refine aB7 .quo t kk .i64 a b (aOe .quo (.inl rfl) t .i64 a b hb ⟨fun _=>?_,(fun h=>(by cases h))⟩) rfl
 rw [aD2 ha.1,wi]
 have h1:=Int.ediv_nonneg ha.1 (Int.le_of_lt hb)
 have h2:=Int.ediv_le_self b ha.1
 omega
theorem aLa (t:TypeId) (kk:Bool) (k:IntKind) (a b:Int) (ha:0≤a) (hb:0 < b):(Pu.bin .rem t kk).run P [.one (.v (.int k a)),.one (.v (.int k b))]=some (.v (.int k (a % b))):=by
 refine aB7 .rem t kk k a b (aOe .rem (.inr rfl) t k a b hb ⟨(fun h=>(by cases h)),fun _=>?_⟩) rfl
 rw [aE5 ha]
theorem aP0 (a:ByteArray) (i:Nat) (h:i < a.size):(a[i].toNat:Int)=rd (bytesOf a) i:=by
 rw [aGP]
 exact aBq a i h
theorem aQn {t:TypeId} (ht:P.underlying t=some .string) (a:ByteArray) (i:Nat) (h:i < a.size) (k:IntKind):(Pu.idx t).run P [.one (s_ a),.one (.v (.int k i))]=some (y_ (rd (bytesOf a) i)):=by
 rw [aJk ht a i h,← aP0 a i h]
theorem aOD {x:Int} (h:0≤x∧x < 256):IntKind.u8.wrap x=x:=by
 have:IntKind.u8.wrap x=x % 256:=by simp [IntKind.wrap,IntKind.bits,IntKind.signed]
 rw [this]
 omega
theorem aP1 {src dst:TypeId} (hd:P.underlying dst=some (.int .i64)) (k:IntKind) (n:Int) {d:TypeDesc} (hs:P.underlying src=some d) (h:0≤n∧n < 256):(Pu.conv src dst).run P [.one (.v (.int k n))]=some (i_ n):=by rw [aDj hd k n hs,wi (by omega)]
theorem aDY (t:TypeId) (k:Bool) (a b:ByteArray):(Pu.bin .neq t k).run P [.one (s_ a),.one (s_ b)]=some (b_ (decide (¬ a=b))):=by rw [aHp,decide_not]
theorem aFX {n b:Nat} (h:n*b≤140737488355328) (h2:n≤140737488355328):aA9 n b=true:=by
 unfold aA9
 rw [decide_eq_true h,decide_eq_true h2]
 rfl
theorem aG1 (l:List Int) (x:Int) (h:l.length≤1099511627776):(Pu.lapp 1 1 1).run P [.one (Bl l),.agg [y_ x]]=some (Bl (l++[x])):=by
 show (if ([y_ x]:List D).length=1*1∧aA9 (l.length+1) 1=true then some (D.l (l.length+1) (l.map y_++[y_ x])) else none)=_
 rw [if_pos ⟨rfl,aFX (by omega) (by omega)⟩]
 unfold Bl
 rw [List.length_append,List.map_append]
 rfl
theorem aHI:∀ l:List Int,aAc aBE (l.map y_)=some l
 | []=>rfl
 | x::l=>by
  show (some x).bind (fun v=>(aAc aBE (l.map y_)).bind fun vs=>some (v::vs))=_
  rw [aHI l]
  rfl
theorem aP2 (l:List Int):strOf l=strOfNums l:=by
 have key:∀ (l:List Int) (r:ByteArray),l.foldl (fun r n=>r.push (UInt8.ofNat n.toNat)) r=⟨r.data++(l.map fun n=>UInt8.ofNat n.toNat).toArray⟩:=by
  intro l
  induction l with
  | nil=>intro r;simp
  | cons x l ih =>
   intro r
   rw [List.foldl_cons,ih]
   congr 1
   apply Array.ext'
   simp [ByteArray.push]
 unfold strOf strOfNums
 rw [key]
 congr 1
 apply Array.ext'
 simp [ByteArray.empty,ByteArray.emptyWithCapacity]
 rfl
theorem aP3 (l:List Int):Pu.lstr.run P [.one (Bl l)]=some (s_ (strOfNums l)):=by
 show (if (l.map y_).length=l.length then (aAc aBE (l.map y_)).map fun ns=>D.v (.string (strOf ns)) else none)=_
 rw [if_pos (List.length_map ..),aHI,Option.map_some,aP2]
theorem aOE {n:Nat} {ds:List D} (hl:ds≠[]) {i:Nat} (h:i < n) (k:IntKind):Pu.lchk.run P [.one (.l n ds),.one (.v (.int k i))]=some (.v (.int k i)):=by
 cases ds with
 | nil=>exact absurd rfl hl
 | cons d ds =>
  show (if 0≤(i:Int)∧(i:Int) < n then some (D.v (.int k i)) else none)=_
  rw [if_pos ⟨Int.natCast_nonneg _,by omega⟩]
theorem aBo (f:Int→D) (l:List Int) (i:Nat) (h:i < l.length) (k:IntKind):Pu.lchk.run P [.one (.l l.length (l.map f)),.one (.v (.int k i))]=some (.v (.int k i)):=aOE (by cases l<;>simp at h ⊢) h k
theorem aCk (f:Int→D) (l:List Int) (i:Nat) (h:i < l.length) (k:IntKind):(Pu.lidx 1 0).run P [.one (.l l.length (l.map f)),.one (.v (.int k i))]=some (f (rd l i)):=by
 show (l.map f)[(i:Int).toNat*1+0]?=_
 rw [Int.toNat_natCast,Nat.mul_one,Nat.add_zero,List.getElem?_map,List.getElem?_eq_getElem h,Option.map_some,aBa,List.getD_eq_getElem?_getD,List.getElem?_eq_getElem h]
 rfl
theorem aDq (f:Int→D) (l:List Int) (i:Nat) (h:i < l.length) (k:IntKind) (x:Int):(Pu.lset 1 0).run P [.one (.l l.length (l.map f)),.one (.v (.int k i)),.one (f x)]=some (.l (l.set i x).length ((l.set i x).map f)):=by
 show (if (i:Int).toNat*1+0+([f x]:List D).length≤(l.map f).length then some (D.l l.length (putAt (l.map f) ((i:Int).toNat*1+0) [f x])) else none)=_
 rw [Int.toNat_natCast,Nat.mul_one,Nat.add_zero,if_pos (by rw [List.length_map];exact h),List.length_set,List.map_set]
 rfl
theorem aI4 (f:Int→Value) (b:Nat) (n:Nat) (h:n*b≤140737488355328) (h2:n≤140737488355328) (k q:IntKind):(Pu.lmake (f 0) b).run P [.one (.v (.int k n)),.one (.v (.int q n))]=some (.l (List.replicate n (0:Int)).length ((List.replicate n (0:Int)).map fun x=>.v (f x))):=by
 show (if 0≤(n:Int)∧(n:Int)≤n∧aA9 (n:Int).toNat b=true then some (D.l (n:Int).toNat (List.replicate (n:Int).toNat (.v (f 0)))) else none)=_
 rw [Int.toNat_natCast,if_pos ⟨Int.natCast_nonneg _,Int.le_refl _,aFX h h2⟩,List.length_replicate,List.map_replicate]
end
theorem aA3:Tryz.prog.underlying 9=some .string:=by kernel_rfl
theorem aOF:Tryz.prog.underlying 3=some (.int .i64):=by kernel_rfl
theorem aHh:Tryz.prog.underlying 5=some (.int .u8):=by kernel_rfl
theorem aAT:Tryz.prog.underlying 104=some (.int .u64):=by kernel_rfl
end Go.Proofs.YtkkjlpfomofiaaaGreatDoor.Sp
