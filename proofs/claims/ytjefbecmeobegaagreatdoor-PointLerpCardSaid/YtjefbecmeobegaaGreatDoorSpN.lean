import Derived.Test.YtjefbecmeobegaaGreatDoorSx2
import Derived.Test.YtjefbecmeobegaaGreatDoorNatQ
import Derived.Test.YtjefbecmeobegaaGreatDoorPxNA
namespace Go.Proofs.YtjefbecmeobegaaGreatDoor.Sp
open Go Go.RowKit Go.Proofs.YtjefbecmeobegaaGreatDoorW.PrintWords Go.Proofs.YtjefbecmeobegaaGreatDoor.P Go.Proofs.YtjefbecmeobegaaGreatDoor.Sx Go.Proofs.YtjefbecmeobegaaGreatDoor.NatA Go.Proofs.YtjefbecmeobegaaGreatDoor.NatB Go.Proofs.YtjefbecmeobegaaGreatDoor.NatC Go.Proofs.YtjefbecmeobegaaGreatDoor.NatD Go.Proofs.YtjefbecmeobegaaGreatDoor.NatI Go.Proofs.YtjefbecmeobegaaGreatDoor.NatJ Go.Proofs.YtjefbecmeobegaaGreatDoor.NatQ
def S1 (lim : Nat) (g : Nat → List D) : Fct
 | [.v (.string a)] => if a.size ≤ lim then some (g (V a)) else none
 | _ => none
def S2 (lim : Nat) (g : Nat → Nat → List D) : Fct
 | [.v (.string a), .v (.string b)] => if a.size ≤ lim ∧ b.size ≤ lim then some (g (V a) (V b)) else none
 | _ => none
theorem S1.eq {lim : Nat} {g : Nat → List D} {a : ByteArray} (h : a.size ≤ lim) : S1 lim g [s_ a] = some (g (V a)) := if_pos h
theorem S1.eqN {lim : Nat} {g : Nat → List D} {x : Nat} (h : (N x).size ≤ lim) : S1 lim g [s_ (N x)] = some (g x) := by rw [S1.eq h, V_N]
theorem S1.inv {lim : Nat} {g : Nat → List D} {ds rs : List D} (h : S1 lim g ds = some rs) : ∃ a : ByteArray, ds = [s_ a] ∧ a.size ≤ lim ∧ rs = g (V a) := by
 unfold S1 at h
 split at h
 ·split at h
  ·exact ⟨_, rfl, ‹_›, (Option.some.inj h).symm⟩
  ·cases h
 ·cases h
theorem S2.eq {lim : Nat} {g : Nat → Nat → List D} {a b : ByteArray} (ha : a.size ≤ lim) (hb : b.size ≤ lim) : S2 lim g [s_ a, s_ b] = some (g (V a) (V b)) := if_pos ⟨ha, hb⟩
theorem S2.eqN {lim : Nat} {g : Nat → Nat → List D} {x y : Nat} (hx : (N x).size ≤ lim) (hy : (N y).size ≤ lim) : S2 lim g [s_ (N x), s_ (N y)] = some (g x y) := by rw [S2.eq hx hy, V_N, V_N]
theorem S2.inv {lim : Nat} {g : Nat → Nat → List D} {ds rs : List D} (h : S2 lim g ds = some rs) : ∃ a b : ByteArray, ds = [s_ a, s_ b] ∧ a.size ≤ lim ∧ b.size ≤ lim ∧ rs = g (V a) (V b) := by
 unfold S2 at h
 split at h
 ·split at h
  ·rename_i hc
   exact ⟨_, _, rfl, hc.1, hc.2, (Option.some.inj h).symm⟩
  ·cases h
 ·cases h
def F_from : Fct
 | [.v (.int .u64 n)] => if 0 ≤ n ∧ n < 18446744073709551616 then some [s_ (N n.toNat)] else none
 | _ => none
theorem F_from.eq {n : Nat} (h : n < 18446744073709551616) : F_from [.v (.int .u64 n)] = some [s_ (N n)] := by
 unfold F_from
 dsimp only
 rw [if_pos ⟨Int.natCast_nonneg _, by omega⟩, Int.toNat_natCast]
theorem F_from.inv {ds rs : List D} (h : F_from ds = some rs) : ∃ n : Nat, ds = [.v (.int .u64 n)] ∧ n < 18446744073709551616 ∧ rs = [s_ (N n)] := by
 unfold F_from at h
 split at h
 ·split at h
  ·rename_i hc
   obtain ⟨q, rfl⟩ := Int.eq_ofNat_of_zero_le hc.1
   exact ⟨q, rfl, by omega, (Option.some.inj h).symm⟩
  ·cases h
 ·cases h
theorem X.G_below {w w' : World} (h : X.G w) (hb : Below w.heap.size w w') : X.G w' := by
 unfold X.G Lib.TabIs World.var? at *
 obtain ⟨g, hg, h⟩ := Option.bind_eq_some_iff.1 h
 rw [hg, Option.bind_some]
 have hl : g < w.heap.size := by
  rcases Nat.lt_or_ge g w.heap.size with hl | hl
  ·exact hl
  ·rw [Array.getElem?_eq_none hl] at h
   cases h
 rw [hb.block g hl]
 exact h
def aF4 : Fct := S1 20000 fun x => [D.v (Value.string (N x))]
def aOS : Fct := S2 20000 fun x y => [D.v (Value.int .i64 (aDU x y))]
def aJk : Fct := S2 20000 fun x y => [D.v (Value.string (N (x + y)))]
def aLA : Fct := S2 20000 fun x y => [D.v (Value.string (N (x * y)))]
def aHc : Fct := S2 20000 fun x y => [D.v (Value.string ((aDT x y).1)), D.v (Value.bool ((aDT x y).2))]
def aHd : Fct := S2 20000 fun x y => [D.v (Value.string ((aC3 x y).1)), D.v (Value.string ((aC3 x y).2.1)), D.v (Value.bool ((aC3 x y).2.2))]
def aCd : Fct := S2 20000 fun x y => [D.v (Value.string (N (Nat.gcd x y)))]
def aOT : Fct := S1 20000 fun x => [D.v (Value.int .u64 ((aFT x).1)), D.v (Value.bool ((aFT x).2))]
def aHe : Fct := S1 10000 fun x => [D.v (Value.string (text x))]
theorem g_norm : Sx.Good Tryz.prog X.G 123 ⟨[.one], .v1 .one⟩ aF4 := aBv fun ds rs h => by
 obtain ⟨a, rfl, ha, rfl⟩ := S1.inv h
 obtain ⟨k, hk⟩ := (aDS a (by omega)).rounds
 exact ⟨[.string a], [Value.string (N (V a))], rfl, rfl, rfl, rfl, fun w hw => (nat_Normalize.calls k a _ w hk).mono fun e w' ⟨h1, h2⟩ => ⟨h1, h2⟩⟩
theorem g_cmp : Sx.Good Tryz.prog X.G 150 ⟨[.one, .one], .v1 .one⟩ aOS := aBv fun ds rs h => by
 obtain ⟨a, b, rfl, ha, hb, rfl⟩ := S2.inv h
 obtain ⟨k, hk⟩ := (aQx a b (by omega) (by omega)).rounds
 exact ⟨[.string a, .string b], [Value.int .i64 (aDU (V a) (V b))], rfl, rfl, rfl, rfl, fun w hw => (nat_Cmp.calls k a b _ w hk).mono fun e w' ⟨h1, h2⟩ => ⟨h1, h2⟩⟩
theorem g_add : Sx.Good Tryz.prog X.G 127 ⟨[.one, .one], .v1 .one⟩ aJk := aBv fun ds rs h => by
 obtain ⟨a, b, rfl, ha, hb, rfl⟩ := S2.inv h
 obtain ⟨k, hk⟩ := (aQy a b (by omega) (by omega)).rounds
 exact ⟨[.string a, .string b], [Value.string (N ((V a) + (V b)))], rfl, rfl, rfl, rfl, fun w hw => (nat_Add.calls k a b _ w hk).mono fun e w' ⟨h1, h2⟩ => ⟨h1, h2⟩⟩
theorem g_mul : Sx.Good Tryz.prog X.G 140 ⟨[.one, .one], .v1 .one⟩ aLA := aBv fun ds rs h => by
 obtain ⟨a, b, rfl, ha, hb, rfl⟩ := S2.inv h
 obtain ⟨k, hk⟩ := (aQ0 a b (by omega) (by omega)).rounds
 exact ⟨[.string a, .string b], [Value.string (N ((V a) * (V b)))], rfl, rfl, rfl, rfl, fun w hw => (nat_Mul.calls k a b _ w hk).mono fun e w' ⟨h1, h2⟩ => ⟨h1, h2⟩⟩
theorem g_sub : Sx.Good Tryz.prog X.G 128 ⟨[.one, .one], .tup [.one, .one]⟩ aHc := aBv fun ds rs h => by
 obtain ⟨a, b, rfl, ha, hb, rfl⟩ := S2.inv h
 obtain ⟨k, hk⟩ := (aQz a b (by omega) (by omega)).rounds
 exact ⟨[.string a, .string b], [Value.string ((aDT (V a) (V b)).1), Value.bool ((aDT (V a) (V b)).2)], rfl, rfl, rfl, rfl, fun w hw => (nat_Sub.calls k a b _ _ w hk).mono fun e w' ⟨h1, h2⟩ => ⟨h1, h2⟩⟩
theorem g_div : Sx.Good Tryz.prog X.G 126 ⟨[.one, .one], .tup [.one, .one, .one]⟩ aHd := aBv fun ds rs h => by
 obtain ⟨a, b, rfl, ha, hb, rfl⟩ := S2.inv h
 obtain ⟨k, hk⟩ := (aNy a b (by omega) (by omega)).rounds
 exact ⟨[.string a, .string b], [Value.string ((aC3 (V a) (V b)).1), Value.string ((aC3 (V a) (V b)).2.1), Value.bool ((aC3 (V a) (V b)).2.2)], rfl, rfl, rfl, rfl, fun w hw => (nat_Div.calls k a b _ _ _ w hk).mono fun e w' ⟨h1, h2⟩ => ⟨h1, h2⟩⟩
theorem g_gcd : Sx.Good Tryz.prog X.G 125 ⟨[.one, .one], .v1 .one⟩ aCd := aBv fun ds rs h => by
 obtain ⟨a, b, rfl, ha, hb, rfl⟩ := S2.inv h
 obtain ⟨k, hk⟩ := (aQw a b (by omega) (by omega)).rounds
 exact ⟨[.string a, .string b], [Value.string (N (Nat.gcd (V a) (V b)))], rfl, rfl, rfl, rfl, fun w hw => (nat_Gcd.calls k a b _ w hk).mono fun e w' ⟨h1, h2⟩ => ⟨h1, h2⟩⟩
theorem g_u64 : Sx.Good Tryz.prog X.G 148 ⟨[.one], .tup [.one, .one]⟩ aOT := aBv fun ds rs h => by
 obtain ⟨a, rfl, ha, rfl⟩ := S1.inv h
 obtain ⟨k, hk⟩ := (aKs a (by omega)).rounds
 exact ⟨[.string a], [Value.int .u64 ((aFT (V a)).1), Value.bool ((aFT (V a)).2)], rfl, rfl, rfl, rfl, fun w hw => (nat_Uint64.calls k a _ _ w hk).mono fun e w' ⟨h1, h2⟩ => ⟨h1, h2⟩⟩
theorem g_from : Sx.Good Tryz.prog X.G 124 ⟨[.one], .v1 .one⟩ F_from := aBv fun ds rs h => by
 obtain ⟨n, rfl, hn, rfl⟩ := F_from.inv h
 obtain ⟨k, hk⟩ := (aLu n hn).rounds
 exact ⟨[.int .u64 n], [.string (N n)], rfl, rfl, rfl, rfl, fun w _ => (nat_FromUint64.calls k _ _ w hk).mono fun e w' ⟨h1, h2⟩ => ⟨h1, h2⟩⟩
theorem g_fmt : Sx.Good Tryz.prog X.G 157 ⟨[.one], .v1 .one⟩ aHe := aBv fun ds rs h => by
 obtain ⟨a, rfl, ha, rfl⟩ := S1.inv h
 obtain ⟨k, hk⟩ := (aN0 a (by omega)).rounds
 exact ⟨[.string a], [Value.string (text (V a))], rfl, rfl, rfl, rfl, fun w hw => (nat_Format.calls k a _ w hw hk).mono fun e w' ⟨h1, h2⟩ => ⟨h1, h2⟩⟩
def tbN : Tb := [(123, aF4), (150, aOS), (127, aJk), (140, aLA), (128, aHc), (126, aHd), (125, aCd), (148, aOT), (124, F_from), (157, aHe)]
theorem okN : TbOk Tryz.prog X.G tbN := TbOk.cons (by kernel_rfl) g_norm <| TbOk.cons (by kernel_rfl) g_cmp <| TbOk.cons (by kernel_rfl) g_add <| TbOk.cons (by kernel_rfl) g_mul <| TbOk.cons (by kernel_rfl) g_sub <| TbOk.cons (by kernel_rfl) g_div <| TbOk.cons (by kernel_rfl) g_gcd <| TbOk.cons (by kernel_rfl) g_u64 <| TbOk.cons (by kernel_rfl) g_from <| TbOk.cons (by kernel_rfl) g_fmt <| trivial
end Go.Proofs.YtjefbecmeobegaaGreatDoor.Sp
