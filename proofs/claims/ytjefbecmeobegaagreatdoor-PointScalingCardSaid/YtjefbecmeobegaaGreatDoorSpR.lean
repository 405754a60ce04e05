import Derived.Test.YtjefbecmeobegaaGreatDoorSpL
import Derived.Test.YtjefbecmeobegaaGreatDoorTr1
import Derived.Test.YtjefbecmeobegaaGreatDoorNatE
namespace Go.Proofs.YtjefbecmeobegaaGreatDoor.Sp
open Go Go.RowKit YtjefbecmeobegaaGreatDoorW.PrintWords Sx NatA NatB NatC NatD NatE NatI NatJ
def aGg : Fct := S1 100000 fun x => [D.v (Value.string (N x))]
theorem aNk {G : World → Prop} {f : FuncId} {ct : Ct} {F F' : Fct} (h : Sx.Good Tryz.prog G f ct F) (hw : ∀ ds rs, F' ds = some rs → F ds = some rs) : Sx.Good Tryz.prog G f ct F' := fun ds rs e => h ds rs (hw ds rs e)
theorem S1.weak {l l' : Nat} {g : Nat → List D} (hl : l ≤ l') (ds rs : List D) (h : S1 l g ds = some rs) : S1 l' g ds = some rs := by
 obtain ⟨a, rfl, ha, rfl⟩ := S1.inv h
 exact S1.eq (Nat.le_trans ha hl)
theorem S2.weak {l l' : Nat} {g : Nat → Nat → List D} (hl : l ≤ l') (ds rs : List D) (h : S2 l g ds = some rs) : S2 l' g ds = some rs := by
 obtain ⟨a, b, rfl, ha, hb, rfl⟩ := S2.inv h
 exact S2.eq (Nat.le_trans ha hl) (Nat.le_trans hb hl)
theorem aHy {C : Cf} (a : ByteArray) (ha : a.size ≤ 1000000) (e : D) : ∀ n : Nat, n ≤ a.size → ∃ m, aCk.run Tryz.prog C m [aCk] [s_ a, e, i_ n] = some [s_ (N (V (a.extract 0 n)))]
 | 0, h => by
  have hz : (a.extract 0 0).size = 0 := aDN a 0 h
  have : N (V (a.extract 0 0)) = a.extract 0 0 := N_V (.inl hz)
  rw [this]
  exact ⟨0, aMm (by omega) rfl (aAT _ _ _ _ _) rfl (aAi rfl (aIv aBa a .i64 0 h) (aAd rfl))⟩
 | n + 1, h => by
  have hi : n < a.size := by omega
  have es : ((n + 1 : Nat) : Int) - 1 = (n : Int) := by omega
  have p1 := aRr (P := Tryz.prog) 3 true ((n + 1 : Nat) : Int) 1 (by omega)
  rw [es] at p1
  by_cases hb : rd (bytesOf a) n = 0
  ·obtain ⟨m, hm⟩ := aHy a ha e n (by omega)
   have hv : V (a.extract 0 (n + 1)) = V (a.extract 0 n) := by
    have := aI9 a n hi
    rw [aDl, hb, Int.mul_zero] at this
    omega
   rw [hv]
   exact ⟨m + 1, aKt (by omega) rfl (aAT _ _ _ _ _) rfl (aAi rfl p1 (aAi rfl (aMn aBa a n hi .i64) (aKt hb rfl (aBS _ _ _ _ _) rfl (aAi rfl p1 (aJ5 rfl rfl hm)))))⟩
  ·rw [aIA a n hi (by rw [aDl]; exact hb)]
   exact ⟨0, aKt (by omega) rfl (aAT _ _ _ _ _) rfl (aAi rfl p1 (aAi rfl (aMn aBa a n hi .i64) (aMm hb rfl (aBS _ _ _ _ _) rfl (aAi rfl (aIv aBa a .i64 (n + 1) h) (aAd rfl)))))⟩
theorem aNl : Sx.Good Tryz.prog X.G 95 ⟨[.one], .v1 .one⟩ aGg := aAg (tb := []) trivial (fun _ _ => X.G_below) 400 (by kernel_rfl) (by kernel_rfl : _ = some aBN) fun ds rs h => by
 obtain ⟨a, rfl, ha, rfl⟩ := S1.inv h
 obtain ⟨m, hm⟩ := aHy (C := aBY []) a (by omega) (i_ a.size) a.size (Nat.le_refl _)
 rw [extract_all] at hm
 exact ⟨m, aAi rfl (aA6 aBa a) (aKO rfl hm)⟩
def tbR1 : Tb := [(95, aGg)]
theorem okR1 : TbOk Tryz.prog X.G tbR1 := .cons (by kernel_rfl) aNl trivial
def F_at : Fct
 | [.v (.string a), .v (.int .i64 i)] => if 0 ≤ i then some [i_ (rd (bytesOf a) i)] else none
 | _ => none
theorem F_at.eq (a : ByteArray) (i : Nat) : F_at [s_ a, i_ i] = some [i_ (rd (bytesOf a) i)] := by
 show (if 0 ≤ (i : Int) then _ else none) = _
 exact if_pos (Int.natCast_nonneg _)
theorem r_at : Sx.Good Tryz.prog X.G 142 ⟨[.one, .one], .v1 .one⟩ F_at := aAg (tb := []) trivial (fun _ _ => X.G_below) 400 (by kernel_rfl) (by kernel_rfl : _ = some aCe) fun ds rs h => by
 unfold F_at at h
 split at h
 ·rename_i a i
  split at h
  ·rename_i hi
   obtain ⟨i, rfl⟩ := Int.eq_ofNat_of_zero_le hi
   obtain rfl := Option.some.inj h
   by_cases hl : i < a.size
   ·exact ⟨0, aAi rfl (aA6 aBa a) (aKt (by omega) rfl (aB0 _ _ _ _ _) rfl (aAi rfl (aMn aBa a i hl .i64) (aAi rfl (aQG aLl .u8 _ aLm (aAy (aBF a) (by rw [bytesOf_length]; exact hl))) (aAd rfl))))⟩
   ·rw [aDB (by rw [bytesOf_length]; omega)]
    exact ⟨0, aAi rfl (aA6 aBa a) (aMm (by omega) rfl (aB0 _ _ _ _ _) rfl (aAd rfl))⟩
  ·cases h
 ·cases h
def aGC : Tb := (142, F_at) :: tbR1
theorem okR2 : TbOk Tryz.prog X.G aGC := .cons (by kernel_rfl) r_at okR1
theorem aOw (a : ByteArray) (i : Nat) : 0 ≤ rd (bytesOf a) (i : Int) ∧ rd (bytesOf a) (i : Int) < 256 := aGf (by decide) (aBF a) i
theorem aOx (a : ByteArray) : (V a : Int) < 256 ^ a.size := by
 have := aBp (B := 256) (by decide) (aBF a)
 rw [← aEc, bytesOf_length] at this
 exact this
theorem aOy {l : List Int} (hd : Dig 256 l) (hl : l.length ≤ 100000) {x : Nat} (hx : val 256 l = x) : aGg [s_ (strOfNums l)] = some [s_ (N x)] := by
 have : V (strOfNums l) = x := by
  have := aOR hd
  omega
 rw [← this]
 exact S1.eq (by rw [aG7]; exact hl)
theorem aOz (a b : ByteArray) (ha : a.size ≤ 20000) (hb : b.size ≤ 20000) (e2 e3 e4 e5 e6 e8 e9 e10 : D) (i : Nat) (hi : i < a.size) (R : List D) (T0 : Int) (hT : T0 + 256 ^ i * (rd (bytesOf a) i * V b) < 256 ^ (a.size + b.size + 1)) (r : Nat) : ∀ (j : Nat) (z : List Int) (c : Int), j + r = a.size + b.size + 1 - i → z.length = a.size + b.size + 1 → Dig 256 z → (0 ≤ c ∧ c < 256) →
  val 256 z + 256 ^ (i + j) * c = T0 + 256 ^ i * (rd (bytesOf a) i * val 256 ((bytesOf b).take j)) →
  (∀ z', z'.length = a.size + b.size + 1 → Dig 256 z' → val 256 z' = T0 + 256 ^ i * (rd (bytesOf a) i * V b) → Rn Tryz.prog (aBY aGC) aAv [aAv] [s_ a, s_ b, e2, e3, e4, e5, e6, i_ ((i + 1 : Nat) : Int), Il z'] R) →
  Rn Tryz.prog (aBY aGC) aAK [aAv, aAK] [s_ a, s_ b, e2, e3, e4, e5, e6, i_ i, e8, e9, e10, i_ c, i_ j, Il z] R := by
 have hda := aOw a i
 have fin : ∀ (j : Nat) (z : List Int), z.length = a.size + b.size + 1 → Dig 256 z → ¬ j < b.size → val 256 z = T0 + 256 ^ i * (rd (bytesOf a) i * val 256 ((bytesOf b).take j)) →
  (∀ z', z'.length = a.size + b.size + 1 → Dig 256 z' → val 256 z' = T0 + 256 ^ i * (rd (bytesOf a) i * V b) → Rn Tryz.prog (aBY aGC) aAv [aAv] [s_ a, s_ b, e2, e3, e4, e5, e6, i_ ((i + 1 : Nat) : Int), Il z'] R) → Rn Tryz.prog (aBY aGC) aAK [aAv, aAK] [s_ a, s_ b, e2, e3, e4, e5, e6, i_ i, e8, e9, e10, i_ 0, i_ j, Il z] R := fun j z hz hd hj hv K => by
  have k := K z hz hd (by rw [hv, List.take_of_length_le (by rw [bytesOf_length]; omega), aEc])
  exact rp (aA6 aBa b) (rF (by omega) (aB0 3 false .i64 j b.size) (rF (by decide) (aAT 3 true .i64 0 0) (rp (aEe 3 true (i : Int) 1 (by omega)) (ra k))))
 induction r with
 | zero =>
  intro j z c hj hz hd hc hv K
  have hc0 : c = 0 := by
   rcases (show c = 0 ∨ 1 ≤ c by omega) with h | h
   ·exact h
   ·rw [List.take_of_length_le (l := bytesOf b) (by rw [bytesOf_length]; omega), ← aEc] at hv
    have h0 := aAw (by decide) hd
    have h1 : (0 : Int) < 256 ^ (i + j) := Int.pow_pos (by decide)
    have h2 := Int.mul_le_mul_of_nonneg_left h (Int.le_of_lt h1)
    rw [Int.mul_one, show i + j = a.size + b.size + 1 by omega] at h2
    rw [show i + j = a.size + b.size + 1 by omega] at hv
    omega
  subst hc0
  exact fin j z hz hd (by omega) (by rw [Int.mul_zero] at hv; omega) K
 | succ r ih =>
  intro j z c hj hz hd hc hv K
  by_cases hgo : j < b.size ∨ c > 0
  ·have hdb := aOw b j
   have hzr := aAy hd (i := i + j) (by omega)
   have hp : 0 ≤ rd (bytesOf a) i * rd (bytesOf b) j := Int.mul_nonneg hda.1 hdb.1
   have hp2 : rd (bytesOf a) i * rd (bytesOf b) j ≤ 255 * 255 := Int.mul_le_mul (by omega) (by omega) hdb.1 (by omega)
   obtain ⟨n, hn⟩ : ∃ n, n = rd z ((i + j : Nat) : Int) + rd (bytesOf a) i * rd (bytesOf b) j + c := ⟨_, rfl⟩
   have hdm : 256 * (n / 256) + n % 256 = n := Int.mul_ediv_add_emod _ _
   have next := ih (j + 1) (z.set (i + j) (n % 256)) (n / 256) (by omega) (by rw [List.length_set, hz]) (aAU hd _ (by omega) (by omega)) (by omega) (by
    rw [aHP _ _ _ _ (by omega), aAm, show i + (j + 1) = i + j + 1 by omega, Int.pow_succ]
    have e1 : (256 : Int) ^ (i + j) = 256 ^ i * 256 ^ j := Int.pow_add _ _ _
    grind) K
   have c1 := F_at.eq a i
   have c2 := F_at.eq b j
   have p0 := aEe (P := Tryz.prog) 3 false (i : Int) (j : Int) (by omega)
   rw [show (i : Int) + j = ((i + j : Nat) : Int) by omega] at p0
   have q1 := aNn (P := Tryz.prog) i_ z (i + j) (by omega) .i64
   have q2 := aNo (P := Tryz.prog) i_ z (i + j) (by omega) .i64
   have p1 := aRs (P := Tryz.prog) 3 false (rd (bytesOf a) i) (rd (bytesOf b) j) (by omega)
   have p2 := aEe (P := Tryz.prog) 3 false (rd z ((i + j : Nat) : Int)) (rd (bytesOf a) i * rd (bytesOf b) j) (by omega)
   have p3 := aEe (P := Tryz.prog) 3 false (rd z ((i + j : Nat) : Int) + rd (bytesOf a) i * rd (bytesOf b) j) c (by omega)
   rw [← hn] at p3
   have p4 := aRu (P := Tryz.prog) 3 true .i64 n 256 (by omega) (by decide)
   have q3 := aQL (P := Tryz.prog) i_ z (i + j) (by omega) .i64 (n % 256)
   have p5 := aRt (P := Tryz.prog) 3 true n 256 (by omega) (by decide)
   have p6 := aEe (P := Tryz.prog) 3 true (j : Int) 1 (by omega)
   by_cases hj' : j < b.size
   ·exact rp (aA6 aBa b) (rT (by omega) (aB0 3 false .i64 j b.size) (rp p0 (rp q1 (rp q2 (rc F_at c1 (rc F_at c2 (rp p1 (rp p2 (rp p3 (rp p0 (rp p4 (rp q1 (rp q3 (rp p5 (rp p6 (ra next))))))))))))))))
   ·exact rp (aA6 aBa b) (rF (by omega) (aB0 3 false .i64 j b.size) (rT (by omega) (aAT 3 true .i64 c 0) (rp p0 (rp q1 (rp q2 (rc F_at c1 (rc F_at c2 (rp p1 (rp p2 (rp p3 (rp p0 (rp p4 (rp q1 (rp q3 (rp p5 (rp p6 (ra next)))))))))))))))))
  ·obtain rfl : c = 0 := by omega
   exact fin j z hz hd (by omega) (by rw [Int.mul_zero] at hv; omega) K
theorem aO0 (z : List Int) (hd : Dig 256 z) (hs : z.length ≤ 100000) (x : Nat) (hx : val 256 z = x) (e0 e1 e2 e3 e4 e5 e6 e7 e9 e10 e11 : D) (r : Nat) : ∀ (i : Nat) (l : List Int), i + r = z.length → l = z.take i → Rn Tryz.prog (aBY aGC) aBA [aBA] [e0, e1, e2, e3, e4, e5, e6, e7, Il z, e9, e10, e11, i_ z.length, i_ i, Bl l] [s_ (N x)] := by
 induction r with
 | zero =>
  intro i l hi hl
  rw [List.take_of_length_le (by omega)] at hl
  subst hl
  exact rF (by omega) (aB0 3 false .i64 i l.length) (rp (aQK l) (rc aGg (aOy hd hs hx) rr))
 | succ r ih =>
  intro i l hi hl
  have hr := aAy hd (i := i) (by omega)
  have hll : l.length = i := by rw [hl, List.length_take]; omega
  have next := ih (i + 1) (l ++ [rd z i]) (by omega) (by rw [hl, aIC z i (by omega)])
  exact rT (by omega) (aB0 3 false .i64 i z.length) (rp (aNn i_ z i (by omega) .i64) (rp (aNo i_ z i (by omega) .i64) (rp (aQF aLm .i64 (rd z i) aLl hr) (rp (aQI l (rd z i) (by omega)) (rp (aEe 3 true (i : Int) 1 (by omega)) (ra next))))))
theorem aNm (a b : ByteArray) (ha : a.size ≤ 20000) (hb : b.size ≤ 20000) (e2 e3 e4 e5 e6 : D) (r : Nat) : ∀ (i : Nat) (z : List Int), i + r = a.size → z.length = a.size + b.size + 1 → Dig 256 z → val 256 z = val 256 ((bytesOf a).take i) * V b → Rn Tryz.prog (aBY aGC) aAv [aAv] [s_ a, s_ b, e2, e3, e4, e5, e6, i_ i, Il z] [s_ (N (V a * V b))] := by
 induction r with
 | zero =>
  intro i z hi hz hd hv
  rw [List.take_of_length_le (by rw [bytesOf_length]; omega), ← aEc, ← Int.natCast_mul] at hv
  have := aO0 z hd (by omega) (V a * V b) hv (s_ a) (s_ b) e2 e3 e4 e5 e6 (i_ i) (i_ a.size) (b_ false) (Bl []) z.length 0 [] (by omega) rfl
  exact rp (aA6 aBa a) (rF (by omega) (aB0 3 false .i64 i a.size) (rp aQH (rp (aPX z) (rl this))))
 | succ r ih =>
  intro i z hi hz hd hv
  have hda := aOw a i
  have e1 := aAm 256 (bytesOf a) i
  have row := aOz a b ha hb e2 e3 e4 e5 e6 (Il z) (i_ a.size) (b_ true) i (by omega) [s_ (N (V a * V b))] (val 256 z) ?_ (a.size + b.size + 1 - i) 0 z 0 (by omega) hz hd (by omega) (by simp [val]) (fun z' hz' hd' hv' => ih (i + 1) z' (by omega) hz' hd' (by rw [hv', hv, e1, Int.add_mul, Int.mul_assoc]))
  ·exact rp (aA6 aBa a) (rT (by omega) (aB0 3 false .i64 i a.size) (rl row))
  have h1 : val 256 z + 256 ^ i * (rd (bytesOf a) i * V b) = val 256 ((bytesOf a).take (i + 1)) * V b := by rw [hv, e1, Int.add_mul, Int.mul_assoc]
  rw [h1]
  have h2 := aBp (by decide) (aA1 (aBF a) (i + 1))
  rw [List.length_take, bytesOf_length, Nat.min_eq_left (by omega)] at h2
  have h3' := aOx b
  have h4 := aAw (by decide) (aA1 (aBF a) (i + 1))
  have h5 : val 256 ((bytesOf a).take (i + 1)) * V b ≤ 256 ^ (i + 1) * 256 ^ b.size := Int.mul_le_mul (Int.le_of_lt h2) (Int.le_of_lt h3') (by omega) (Int.le_of_lt (Int.pow_pos (by decide)))
  rw [← Int.pow_add] at h5
  have h6 : (256 : Int) ^ (i + 1 + b.size) < 256 ^ (a.size + b.size + 1) := by
   have := Nat.pow_lt_pow_right (show 1 < 256 by decide) (show i + 1 + b.size < a.size + b.size + 1 by omega)
   have e : ∀ m : Nat, (256 : Int) ^ m = ((256 ^ m : Nat) : Int) := fun m => by rw [Int.natCast_pow]; rfl
   rw [e, e]
   exact Int.ofNat_lt.2 this
  exact Int.lt_of_le_of_lt h5 h6
theorem aRq : Sx.Good Tryz.prog X.G 97 ⟨[.one, .one], .v1 .one⟩ aFR := aAg okR2 (fun _ _ => X.G_below) 400 (by kernel_rfl) (by kernel_rfl : _ = some aBU) fun ds rs h => by
 obtain ⟨a, b, rfl, ha, hb, rfl⟩ := S2.inv h
 have p1 := aEe (P := Tryz.prog) 3 false (a.size : Int) (b.size : Int) (by omega)
 have p2 := aEe (P := Tryz.prog) 3 true ((a.size : Int) + b.size) 1 (by omega)
 rw [show (a.size : Int) + b.size + 1 = ((a.size + b.size + 1 : Nat) : Int) by omega] at p2
 have p3 := aRv (P := Tryz.prog) (fun x => .int .i64 x) 8 (a.size + b.size + 1) (by omega) (by omega) .i64 .i64
 have lp := aNm a b ha hb (i_ a.size) (i_ b.size) (i_ ((a.size : Int) + b.size)) (i_ ((a.size + b.size + 1 : Nat) : Int)) (Il (List.replicate (a.size + b.size + 1) 0)) a.size 0 _ (by omega) List.length_replicate (aAN (by decide) _) (by rw [aCo]; simp [val])
 exact rp (aA6 aBa a) (rp (aA6 aBa b) (rp p1 (rp p2 (rp p3 (rl lp)))))
end Go.Proofs.YtjefbecmeobegaaGreatDoor.Sp
