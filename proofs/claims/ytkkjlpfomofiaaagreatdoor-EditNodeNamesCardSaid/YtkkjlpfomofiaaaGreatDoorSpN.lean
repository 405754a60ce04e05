import Derived.Test.YtkkjlpfomofiaaaGreatDoorSx2
import Derived.Test.YtkkjlpfomofiaaaGreatDoorNatQ
import Derived.Test.YtkkjlpfomofiaaaGreatDoorPxNA
namespace Go.Proofs.YtkkjlpfomofiaaaGreatDoor.Sp
open Go Go.RowKit YtkkjlpfomofiaaaGreatDoorW.PrintWords P Sx NatA NatB NatC NatD NatI NatJ NatQ
def S1 (lim:Nat) (g:Nat→List D):Fct
 | [.v (.string a)]=>if a.size≤lim then some (g (V a)) else none
 | _=>none
def S2 (lim:Nat) (g:Nat→Nat→List D):Fct
 | [.v (.string a),.v (.string b)]=>if a.size≤lim∧b.size≤lim then some (g (V a) (V b)) else none
 | _=>none
theorem S1.eq {lim:Nat} {g:Nat→List D} {a:ByteArray} (h:a.size≤lim):S1 lim g [s_ a]=some (g (V a)):=if_pos h
theorem S1.eqN {lim:Nat} {g:Nat→List D} {x:Nat} (h:(N x).size≤lim):S1 lim g [s_ (N x)]=some (g x):=by rw [S1.eq h,V_N]
theorem S1.inv {lim:Nat} {g:Nat→List D} {ds rs:List D} (h:S1 lim g ds=some rs):∃ a:ByteArray,ds=[s_ a]∧a.size≤lim∧rs=g (V a):=by
 unfold S1 at h
 split at h
 ·split at h
  ·exact ⟨_,rfl,‹_›,(Option.some.inj h).symm⟩
  ·cases h
 ·cases h
theorem S2.eq {lim:Nat} {g:Nat→Nat→List D} {a b:ByteArray} (ha:a.size≤lim) (hb:b.size≤lim):S2 lim g [s_ a,s_ b]=some (g (V a) (V b)):=if_pos ⟨ha,hb⟩
theorem S2.eqN {lim:Nat} {g:Nat→Nat→List D} {x y:Nat} (hx:(N x).size≤lim) (hy:(N y).size≤lim):S2 lim g [s_ (N x),s_ (N y)]=some (g x y):=by rw [S2.eq hx hy,V_N,V_N]
theorem S2.inv {lim:Nat} {g:Nat→Nat→List D} {ds rs:List D} (h:S2 lim g ds=some rs):∃ a b:ByteArray,ds=[s_ a,s_ b]∧a.size≤lim∧b.size≤lim∧rs=g (V a) (V b):=by
 unfold S2 at h
 split at h
 ·split at h
  ·rename_i hc
   exact ⟨_,_,rfl,hc.1,hc.2,(Option.some.inj h).symm⟩
  ·cases h
 ·cases h
def F_from:Fct
 | [.v (.int .u64 n)]=>if 0≤n∧n < 18446744073709551616 then some [s_ (N n.toNat)] else none
 | _=>none
theorem F_from.eq {n:Nat} (h:n < 18446744073709551616):F_from [.v (.int .u64 n)]=some [s_ (N n)]:=by
 unfold F_from
 dsimp only
 rw [if_pos ⟨Int.natCast_nonneg _,by omega⟩,Int.toNat_natCast]
theorem F_from.inv {ds rs:List D} (h:F_from ds=some rs):∃ n:Nat,ds=[.v (.int .u64 n)]∧n < 18446744073709551616∧rs=[s_ (N n)]:=by
 unfold F_from at h
 split at h
 ·split at h
  ·rename_i hc
   obtain ⟨q,rfl⟩:=Int.eq_ofNat_of_zero_le hc.1
   exact ⟨q,rfl,by omega,(Option.some.inj h).symm⟩
  ·cases h
 ·cases h
theorem X.G_below {w w':World} (h:X.G w) (hb:Below w.heap.size w w'):X.G w':=h.below hb
def aGT:Fct:=S1 20000 fun x=>[D.v (Value.string (N x))]
def aLJ:Fct:=S2 20000 fun x y=>[D.v (Value.int .i64 (aD0 x y))]
def aOx:Fct:=S2 20000 fun x y=>[D.v (Value.string (N (x+y)))]
def aOy:Fct:=S2 20000 fun x y=>[D.v (Value.string (N (x*y)))]
def aDe:Fct:=S2 20000 fun x y=>[D.v (Value.string ((aC7 x y).1)),D.v (Value.string ((aC7 x y).2.1)),D.v (Value.bool ((aC7 x y).2.2))]
def aLK:Fct:=S2 20000 fun x y=>[D.v (Value.string (N (Nat.gcd x y)))]
def aCs:Fct:=S1 20000 fun x=>[D.v (Value.int .u64 ((aCY x).1)),D.v (Value.bool ((aCY x).2))]
def aGU:Fct:=S1 10000 fun x=>[D.v (Value.string (text x))]
theorem g_norm:Sx.Good Tryz.prog X.G 162 ⟨[.one],.v1 .one⟩ aGT:=aBp fun ds rs h=>by
 obtain ⟨a,rfl,ha,rfl⟩:=S1.inv h
 obtain ⟨k,hk⟩:=(ev_normalize a (by omega)).rounds
 exact ⟨[.string a],[Value.string (N (V a))],rfl,rfl,rfl,rfl,fun w hw=>(nat_Normalize.calls k a _ w hk).mono fun e w' ⟨h1,h2⟩=>⟨h1,h2⟩⟩
theorem g_cmp:Sx.Good Tryz.prog X.G 187 ⟨[.one,.one],.v1 .one⟩ aLJ:=aBp fun ds rs h=>by
 obtain ⟨a,b,rfl,ha,hb,rfl⟩:=S2.inv h
 obtain ⟨k,hk⟩:=(aPL a b (by omega) (by omega)).rounds
 exact ⟨[.string a,.string b],[Value.int .i64 (aD0 (V a) (V b))],rfl,rfl,rfl,rfl,fun w hw=>(nat_Cmp.calls k a b _ w hk).mono fun e w' ⟨h1,h2⟩=>⟨h1,h2⟩⟩
theorem g_div:Sx.Good Tryz.prog X.G 147 ⟨[.one,.one],.tup [.one,.one,.one]⟩ aDe:=aBp fun ds rs h=>by
 obtain ⟨a,b,rfl,ha,hb,rfl⟩:=S2.inv h
 obtain ⟨k,hk⟩:=(aPM a b (by omega) (by omega)).rounds
 exact ⟨[.string a,.string b],[Value.string ((aC7 (V a) (V b)).1),Value.string ((aC7 (V a) (V b)).2.1),Value.bool ((aC7 (V a) (V b)).2.2)],rfl,rfl,rfl,rfl,fun w hw=>(nat_Div.calls k a b _ _ _ w hk).mono fun e w' ⟨h1,h2⟩=>⟨h1,h2⟩⟩
theorem g_u64:Sx.Good Tryz.prog X.G 186 ⟨[.one],.tup [.one,.one]⟩ aCs:=aBp fun ds rs h=>by
 obtain ⟨a,rfl,ha,rfl⟩:=S1.inv h
 obtain ⟨k,hk⟩:=(aPN a (by omega)).rounds
 exact ⟨[.string a],[Value.int .u64 ((aCY (V a)).1),Value.bool ((aCY (V a)).2)],rfl,rfl,rfl,rfl,fun w hw=>(nat_Uint64.calls k a _ _ w hk).mono fun e w' ⟨h1,h2⟩=>⟨h1,h2⟩⟩
theorem g_from:Sx.Good Tryz.prog X.G 185 ⟨[.one],.v1 .one⟩ F_from:=aBp fun ds rs h=>by
 obtain ⟨n,rfl,hn,rfl⟩:=F_from.inv h
 obtain ⟨k,hk⟩:=(aPa n hn).rounds
 exact ⟨[.int .u64 n],[.string (N n)],rfl,rfl,rfl,rfl,fun w _=>(nat_FromUint64.calls k _ _ w hk).mono fun e w' ⟨h1,h2⟩=>⟨h1,h2⟩⟩
theorem g_fmt:Sx.Good Tryz.prog X.G 125 ⟨[.one],.v1 .one⟩ aGU:=aBp fun ds rs h=>by
 obtain ⟨a,rfl,ha,rfl⟩:=S1.inv h
 obtain ⟨k,hk⟩:=(aMG a (by omega)).rounds
 exact ⟨[.string a],[Value.string (text (V a))],rfl,rfl,rfl,rfl,fun w hw=>(nat_Format.calls k a _ w hw hk).mono fun e w' ⟨h1,h2⟩=>⟨h1,h2⟩⟩
end Go.Proofs.YtkkjlpfomofiaaaGreatDoor.Sp
