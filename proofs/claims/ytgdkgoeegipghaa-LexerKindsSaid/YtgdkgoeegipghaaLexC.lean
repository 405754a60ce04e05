/- The reference's tokens, and the comparison of lists of tokens. -/
import Derived.Test.YtgdkgoeegipghaaLexB
namespace Go.Proofs.Ytgdkgoeegipghaa.LexC
open Go.RowKit Go.Proofs.YtgdkgoeegipghaaW.PrintWords Go.Proofs.Ytgdkgoeegipghaa.P Go.Proofs.Ytgdkgoeegipghaa.LexA Go.Proofs.Ytgdkgoeegipghaa.LexB

theorem num_j2 (s : ByteArray) (q : Nat) : ∃ K, ∀ k, K ≤ k → voussoirref19_number.j2 k s q false = some (q : Int) := by
  refine ⟨1, fun k hk => ?_⟩
  obtain ⟨k, rfl⟩ : ∃ m, k = m + 1 := ⟨k - 1, by omega⟩
  rw [voussoirref19_number.j2, if_neg (by decide)]
theorem num_j2' (s : ByteArray) (hs : s.size ≤ 140737488351232) (q : Nat) (hq : q + 1 ≤ s.size) : ∃ K, ∀ k, K ≤ k → voussoirref19_number.j2 k s q true = some ((q + 1 + run isD (sf s (q + 1)) : Nat) : Int) := by
  obtain ⟨K, hK⟩ := reach_ev (g := voussoirref19_number.l1) rdigit_f (fun k s i => by rw [voussoirref19_number.l1]) s hs (s.size - (q + 1)) (q + 1) (by omega)
  refine ⟨K + 1, fun k hk => ?_⟩
  obtain ⟨k, rfl⟩ : ∃ m, k = m + 1 := ⟨k - 1, by omega⟩
  rw [voussoirref19_number.j2, if_pos rfl, w64 (by omega) (by omega)]
  exact hK k (by omega)
def W (s : ByteArray) (q : Nat) : Nat := if hd (· == 46) (sf s q) && hd isD (sf s (q + 1)) then q + 1 + run isD (sf s (q + 1)) else q
theorem num_j1 (s : ByteArray) (hs : s.size ≤ 140737488351232) (q : Nat) (hq0 : q ≤ s.size) : ∃ K, ∀ k, K ≤ k → voussoirref19_number.j1 k s q = some (W s q : Int) := by
  by_cases hq : q + 1 < s.size
  · have q1 := hd_sf (· == 46) s q (by omega)
    have q2 := hd_sf isD s (q + 1) hq
    by_cases hb : ((bt s q == 46) && isD (bt s (q + 1 : Nat))) = true
    · simp only [Bool.and_eq_true, beq_iff_eq] at hb
      obtain ⟨K, hK⟩ := num_j2' s hs q (by omega)
      refine ⟨K + 1, fun k hk => ?_⟩
      obtain ⟨k, rfl⟩ : ∃ m, k = m + 1 := ⟨k - 1, by omega⟩
      have e : W s q = q + 1 + run isD (sf s (q + 1)) := by
        unfold W
        rw [q1, q2, if_pos (by rw [hb.1, hb.2]; rfl)]
      rw [voussoirref19_number.j1, w64 (by omega) (by omega), if_pos (by omega), if_pos (by omega), if_pos (by omega), if_pos hb.1, if_pos (by omega), rdigit_f, Option.bind_some, e]
      have h2 := hb.2
      simp only [Int.natCast_add, Int.natCast_one] at h2
      rw [h2]
      exact hK k (by omega)
    · obtain ⟨K, hK⟩ := num_j2 s q
      have e : W s q = q := by
        unfold W
        rw [q1, q2, if_neg hb]
      refine ⟨K + 1, fun k hk => ?_⟩
      obtain ⟨k, rfl⟩ : ∃ m, k = m + 1 := ⟨k - 1, by omega⟩
      rw [voussoirref19_number.j1, w64 (by omega) (by omega), if_pos (by omega), if_pos (by omega), if_pos (by omega), e]
      by_cases c : bt s q = 46
      · rw [if_pos c, if_pos (by omega), rdigit_f, Option.bind_some]
        have : isD (bt s (q + 1 : Nat)) = false := by
          cases h : isD (bt s (q + 1 : Nat)) with
          | false => rfl
          | true => exact absurd (by rw [c, h]; rfl) hb
        simp only [Int.natCast_add, Int.natCast_one] at this
        rw [this]
        exact hK k (by omega)
      · rw [if_neg c]
        exact hK k (by omega)
  · obtain ⟨K, hK⟩ := num_j2 s q
    have e : W s q = q := by
      unfold W
      rw [hd_sf_nil isD s (q + 1) (by omega), Bool.and_false, if_neg (by decide)]
    refine ⟨K + 1, fun k hk => ?_⟩
    obtain ⟨k, rfl⟩ : ∃ m, k = m + 1 := ⟨k - 1, by omega⟩
    rw [voussoirref19_number.j1, w64 (by omega) (by omega), if_neg (by omega), e]
    exact hK k (by omega)
theorem num_l0 (s : ByteArray) (hs : s.size ≤ 140737488351232) : ∀ (n p : Nat), p + n = s.size → ∃ K, ∀ k, K ≤ k → voussoirref19_number.l0 k s p = some (W s (p + run isD (sf s p)) : Int) := by
  intro n
  induction n with
  | zero =>
    intro p hp
    obtain ⟨K, hK⟩ := num_j1 s hs p (by omega)
    refine ⟨K + 1, fun k hk => ?_⟩
    obtain ⟨k, rfl⟩ : ∃ m, k = m + 1 := ⟨k - 1, by omega⟩
    rw [voussoirref19_number.l0, if_neg (by omega), sf_nil s p (by omega), run_nil]
    exact hK k (by omega)
  | succ n ih =>
    intro p hp
    obtain ⟨K, hK⟩ := ih (p + 1) (by omega)
    obtain ⟨K2, hK2⟩ := num_j1 s hs p (by omega)
    refine ⟨max K K2 + 1, fun k hk => ?_⟩
    obtain ⟨k, rfl⟩ : ∃ m, k = m + 1 := ⟨k - 1, by omega⟩
    rw [voussoirref19_number.l0, if_pos (by omega), if_pos (by omega), rdigit_f, Option.bind_some, sf_cons s p (by omega), run_cons]
    by_cases hc : isD (bt s p) = true
    · rw [if_pos hc, if_pos hc, w64 (by omega) (by omega)]
      have := hK k (by omega)
      simp only [Int.natCast_add, Int.natCast_one] at this
      rw [this, show p + 1 + run isD (sf s (p + 1)) = p + (run isD (sf s (p + 1)) + 1) by omega]
    · rw [if_neg hc, if_neg hc]
      exact hK2 k (by omega)
theorem number_ev (s : ByteArray) (hs : s.size ≤ 140737488351232) : ∃ K, ∀ k, K ≤ k → voussoirref19_number.f k s = some ((numLen (bytesOf s) : Nat) : Int) := by
  obtain ⟨K, hK⟩ := num_l0 s hs s.size 0 (by omega)
  refine ⟨K, fun k hk => ?_⟩
  unfold voussoirref19_number.f
  have := hK k hk
  simp only [Int.natCast_zero, Nat.zero_add] at this
  rw [this]
  congr 1
theorem name_ev (s : ByteArray) (hs : s.size ≤ 140737488351232) : ∃ K, ∀ k, K ≤ k → voussoirref19_name.f k s = some ((run isI (bytesOf s) : Nat) : Int) := by
  obtain ⟨K, hK⟩ := reach_ev (g := voussoirref19_name.l0) (F := fun c => some (isI c)) (P := isI) (fun c => rfl) (fun k s i => by
    rw [voussoirref19_name.l0]
    split
    · split
      · rw [rletter_f, Option.bind_some, rdigit_f, Option.bind_some, Option.bind_some]
        unfold isI
        cases isL (bt s i) <;> cases isD (bt s i) <;> simp <;> (by_cases h : bt s i = 95 <;> simp [h])
      · rfl
    · rfl) s hs s.size 0 (by omega)
  refine ⟨K, fun k hk => ?_⟩
  unfold voussoirref19_name.f
  have := hK k hk
  simp only [Int.natCast_zero, Nat.zero_add, List.drop_zero] at this
  rw [this]
set_option maxHeartbeats 2000000 in
theorem rtokens_l0 (s : ByteArray) (hs : s.size ≤ 2000) {p : Nat} {l : List Int} {ts : List Tk} {e : Option (Nat × Int)} (h : Lex p l ts e) : p ≤ s.size → sf s p = l → ∀ acc : List S, acc.length ≤ p →
    ∃ K, ∀ k, K ≤ k → voussoirref19_Tokens.l0 k s acc (p : Int) = some (out acc ts e) := by
  induction h with
  | nil p =>
    intro hp hl acc ha
    refine ⟨1, fun k hk => ?_⟩
    obtain ⟨k, rfl⟩ : ∃ m, k = m + 1 := ⟨k - 1, by omega⟩
    have := congrArg List.length hl
    rw [sf_len] at this
    simp only [List.length_nil] at this
    rw [voussoirref19_Tokens.l0, if_neg (by omega)]
    simp [out]
  | @blank p r ts e h ih =>
    intro hp hl acc ha
    have hlt : p < s.size := by
      have := congrArg List.length hl
      rw [sf_len] at this
      simp only [List.length_cons] at this
      omega
    have h2 : sf s (p + 1) = r := by rw [← drop_sf, hl]; rfl
    have hb : bt s p = 32 := by
      have := sf_cons s p hlt
      rw [hl] at this
      injection this with this _
      exact this.symm
    obtain ⟨K, hK⟩ := ih (by omega) h2 acc (by omega)
    refine ⟨K + 4, fun k hk => ?_⟩
    obtain ⟨k, rfl⟩ : ∃ m, k = m + 4 := ⟨k - 4, by omega⟩
    rw [voussoirref19_Tokens.l0, if_pos (by omega), if_pos (by omega), hb, rdigit_f, Option.bind_some, if_neg (by decide), rletter_f, Option.bind_some, if_neg (by decide), if_neg (by decide), if_neg (by decide), if_neg (by decide), if_neg (by decide), if_neg (by decide)]
    rw [voussoirref19_Tokens.j1, if_neg (by decide), if_pos rfl, voussoirref19_Tokens.j2, if_neg (by decide), voussoirref19_Tokens.j3, if_neg (by decide), if_pos rfl, w64 (by omega) (by omega)]
    have := hK k (by omega)
    simp only [Int.natCast_add, Int.natCast_one] at this
    exact this
  | @err p c r hc hb =>
    intro hp hl acc ha
    have hlt : p < s.size := by
      have := congrArg List.length hl
      rw [sf_len] at this
      simp only [List.length_cons] at this
      omega
    have hc2 : bt s p = c := by
      have := sf_cons s p hlt
      rw [hl] at this
      injection this with this _
      exact this.symm
    have hx : bytesOf (s.extract p s.size) = c :: r := by rw [bytes_extract, ← hl, List.take_of_length_le (by rw [List.length_drop, bytesOf_length]; omega)]
    obtain ⟨K, hK⟩ := name_ev (s.extract p s.size) (by rw [ByteArray.size_extract]; omega)
    rw [hx] at hK
    unfold bad at hb ⊢
    rw [wk_cons] at hb ⊢
    refine ⟨K + 5, fun k hk => ?_⟩
    obtain ⟨k, rfl⟩ : ∃ m, k = m + 5 := ⟨k - 5, by omega⟩
    rw [voussoirref19_Tokens.l0, if_pos (by omega), if_pos (by omega), hc2, rdigit_f, Option.bind_some, rletter_f, Option.bind_some]
    by_cases hD : isD c = true
    · rw [if_pos hD] at hb; simp at hb
    · rw [if_neg hD] at hb
      rw [if_neg hD, if_neg hD]
      by_cases hL : isL c = true
      · rw [if_pos hL] at hb
        rw [if_pos hL, if_pos hL, if_pos (by omega), Int.toNat_natCast, hK (k + 4) (by omega), Option.bind_some]
        have h24 : 24 < run isI (c :: r) := by
          rcases Nat.lt_or_ge 24 (run isI (c :: r)) with h | h
          · exact h
          · exact absurd (by simp; omega) hb
        rw [voussoirref19_Tokens.j2, if_pos rfl, voussoirref19_Tokens.j3, if_pos (by simp; omega)]
        simp [out, h24]
      · rw [if_neg hL] at hb
        rw [if_neg hL, if_neg hL]
        by_cases hS : isS c = true
        · rw [if_pos hS] at hb; simp at hb
        · rw [if_neg hS]
          have : ¬ (c = 43 ∨ c = 45 ∨ c = 42 ∨ c = 47 ∨ c = 40 ∨ c = 41) := fun h => hS ((isS_iff _).2 h)
          rw [if_neg (by omega), if_neg (by omega), if_neg (by omega), if_neg (by omega), if_neg (by omega), voussoirref19_Tokens.j1, if_neg (by simp; omega), if_neg hc]
          simp [out]
  | @tok p c r ts e hc hb h ih =>
    intro hp hl acc ha
    have hlt : p < s.size := by
      have := congrArg List.length hl
      rw [sf_len] at this
      simp only [List.length_cons] at this
      omega
    have hc2 : bt s p = c := by
      have := sf_cons s p hlt
      rw [hl] at this
      injection this with this _
      exact this.symm
    have hx : bytesOf (s.extract p s.size) = c :: r := by rw [bytes_extract, ← hl, List.take_of_length_le (by rw [List.length_drop, bytesOf_length]; omega)]
    have hxs : (s.extract p s.size).size ≤ 140737488351232 := by rw [ByteArray.size_extract]; omega
    obtain ⟨K, hK⟩ := name_ev (s.extract p s.size) hxs
    obtain ⟨K1, hK1⟩ := number_ev (s.extract p s.size) hxs
    rw [hx] at hK hK1
    have hwl := wk_le (c :: r)
    have hcl : (c :: r).length = s.size - p := by rw [← hl, sf_len]
    have hpos := wk_pos hb
    obtain ⟨hk0, hk2⟩ := bad_zero hb
    have hd2 : sf s (p + (wk (c :: r)).2) = (c :: r).drop (wk (c :: r)).2 := by rw [← drop_sf, hl]
    obtain ⟨K3, hK3⟩ := ih (by omega) hd2 (acc ++ [toS ⟨(wk (c :: r)).1, (c :: r).take (wk (c :: r)).2, p⟩]) (by rw [List.length_append, List.length_singleton]; omega)
    have e3 : s.extract ((p : Nat) : Int).toNat (((p + (wk (c :: r)).2 : Nat) : Int)).toNat = mkb ((c :: r).take (wk (c :: r)).2) := by
      rw [Int.toNat_natCast, Int.toNat_natCast, extract_mkb, ← hl, Nat.add_sub_cancel_left]
    have e4 : out acc (⟨(wk (c :: r)).1, (c :: r).take (wk (c :: r)).2, p⟩ :: ts) e = out (acc ++ [toS ⟨(wk (c :: r)).1, (c :: r).take (wk (c :: r)).2, p⟩]) ts e := by
      cases e <;> simp [out]
    generalize hR : out acc (⟨(wk (c :: r)).1, (c :: r).take (wk (c :: r)).2, p⟩ :: ts) e = R at e4
    generalize hw : wk (c :: r) = w at hwl hpos hk0 hk2 hK3 e3 e4
    obtain ⟨kd, n⟩ := w
    simp only at hwl hpos hk0 hk2 hK3 e3 e4
    rw [hcl] at hwl
    clear hR ih h hd2 hb
    -- the end of a round
    have j2_ev : ∃ K, ∀ k, K ≤ k → voussoirref19_Tokens.j2 k s acc p kd (n : Int) = some R := by
      refine ⟨K3 + 2, fun k hk => ?_⟩
      obtain ⟨k, rfl⟩ : ∃ m, k = m + 2 := ⟨k - 2, by omega⟩
      have q1 : (0 : Int) ≤ p := by omega
      have q2 : (p : Int) ≤ ((p + n : Nat) : Int) := by omega
      have q3 : ((p + n : Nat) : Int) ≤ (s.size : Int) := by omega
      have q4 : acc.length < 4398046511104 := by omega
      have ew : wrap64 ((p : Int) + (n : Int)) = ((p + n : Nat) : Int) := by rw [w64 (by omega) (by omega)]; omega
      have j3 : voussoirref19_Tokens.j3 (k + 1) s acc p kd (n : Int) false = some R := by
        rw [voussoirref19_Tokens.j3, if_neg (by decide), if_neg hk0, ew, if_pos q1, if_pos q2, if_pos q3, if_pos q4, e3, e4]
        exact hK3 k (by omega)
      rw [voussoirref19_Tokens.j2]
      by_cases h2 : kd = 2
      · have := hk2 h2
        rw [if_pos h2, show decide ((n : Int) > 24) = false by simp; omega]
        exact j3
      · rw [if_neg h2]
        exact j3
    obtain ⟨K4, hK4⟩ := j2_ev
    refine ⟨max K (max K1 K4) + 5, fun k hk => ?_⟩
    obtain ⟨k, rfl⟩ : ∃ m, k = m + 5 := ⟨k - 5, by omega⟩
    have k1 := hK (k + 4) (by omega)
    have k2 := hK1 (k + 4) (by omega)
    have k3 := hK4 (k + 4) (by omega)
    have k4 := hK4 (k + 3) (by omega)
    rw [voussoirref19_Tokens.l0, if_pos (by omega), if_pos (by omega), hc2, rdigit_f, Option.bind_some, rletter_f, Option.bind_some]
    have hp' : (p : Int) ≤ (s.size : Int) := by omega
    clear hK hK1 hK4 hK3 e4 e3 hk
    rw [wk_cons] at hw
    by_cases hD : isD c = true
    · rw [if_pos hD] at hw
      injection hw with hw1 hw2
      subst hw1 hw2
      rw [if_pos hD, if_pos hp', Int.toNat_natCast, k2, Option.bind_some]
      exact k3
    · rw [if_neg hD] at hw
      rw [if_neg hD]
      by_cases hL : isL c = true
      · rw [if_pos hL] at hw
        injection hw with hw1 hw2
        subst hw1 hw2
        rw [if_pos hL, if_pos hp', Int.toNat_natCast, k1, Option.bind_some]
        exact k3
      · rw [if_neg hL] at hw
        rw [if_neg hL]
        by_cases hS : isS c = true
        · rw [if_pos hS] at hw
          injection hw with hw1 hw2
          subst hw1 hw2
          have j1 : voussoirref19_Tokens.j1 (k + 4) s acc p c 0 1 true = some R := by
            rw [voussoirref19_Tokens.j1, if_pos rfl]
            exact k4
          clear k1 k2 k3 k4
          have hS' := (isS_iff _).1 hS
          clear hD hL hS hc hc2 hcl hl hx hxs
          rcases hS' with h | h | h | h | h | h
          · rw [if_pos h]; exact j1
          · subst h; rw [if_neg (by decide), if_pos rfl]; exact j1
          · subst h; rw [if_neg (by decide), if_neg (by decide), if_pos rfl]; exact j1
          · subst h; rw [if_neg (by decide), if_neg (by decide), if_neg (by decide), if_pos rfl]; exact j1
          · subst h; rw [if_neg (by decide), if_neg (by decide), if_neg (by decide), if_neg (by decide), if_pos rfl]; exact j1
          · subst h; rw [if_neg (by decide), if_neg (by decide), if_neg (by decide), if_neg (by decide), if_neg (by decide)]; exact j1
        · rw [if_neg hS] at hw
          injection hw with hw1 hw2
          exact absurd hw1.symm hk0
theorem rtokens_ev (s : ByteArray) (hs : s.size ≤ 2000) {ts : List Tk} {e : Option (Nat × Int)} (h : Lex 0 (bytesOf s) ts e) : ∃ K, ∀ k, K ≤ k → voussoirref19_Tokens.f k s = some (out [] ts e) := by
  obtain ⟨K2, hK2⟩ := rtokens_l0 s hs h (by omega) rfl [] (by simp)
  refine ⟨K2, fun k hk => ?_⟩
  unfold voussoirref19_Tokens.f
  rw [Option.bind_some, if_neg (by omega)]
  exact hK2 k (by omega)
theorem rtokens_long (s : ByteArray) (hs : 2000 < s.size) : ∃ K, ∀ k, K ≤ k → voussoirref19_Tokens.f k s = some ([], 0, 6) := by
  refine ⟨0, fun k hk => ?_⟩
  unfold voussoirref19_Tokens.f
  rw [Option.bind_some, if_pos (by omega)]
theorem same_l0 (l : List S) (hl : l.length ≤ 140737488351232) : ∀ (n i : Nat), i + n = l.length → ∃ K, ∀ k, K ≤ k → voussoirref19_Same.l0 k l l (l.length : Int) i = some true := by
  intro n
  induction n with
  | zero =>
    intro i hi
    refine ⟨1, fun k hk => ?_⟩
    obtain ⟨k, rfl⟩ : ∃ m, k = m + 1 := ⟨k - 1, by omega⟩
    rw [voussoirref19_Same.l0, if_neg (by omega)]
  | succ n ih =>
    intro i hi
    obtain ⟨K, hK⟩ := ih (i + 1) (by omega)
    refine ⟨K + 1, fun k hk => ?_⟩
    obtain ⟨k, rfl⟩ : ∃ m, k = m + 1 := ⟨k - 1, by omega⟩
    rw [voussoirref19_Same.l0, if_pos (by omega), if_pos (by omega), if_pos (by omega), if_pos (by omega), if_neg (by simp), w64 (by omega) (by omega)]
    have := hK k (by omega)
    simp only [Int.natCast_add, Int.natCast_one] at this
    exact this
theorem same_ev (l : List S) (hl : l.length ≤ 140737488351232) : ∃ K, ∀ k, K ≤ k → voussoirref19_Same.f k l l = some true := by
  obtain ⟨K, hK⟩ := same_l0 l hl l.length 0 (by omega)
  refine ⟨K, fun k hk => ?_⟩
  unfold voussoirref19_Same.f
  rw [if_pos rfl]
  exact hK k hk
theorem alive : ∃ K, ∀ k, K ≤ k → voussoirlaw19_lexAlive.f k = some true := by
  have h : voussoirlaw19_lexAlive.f 40 = some true := by decide +kernel
  exact ⟨40, fun k hk => at_rounds (g := fun k => voussoirlaw19_lexAlive.f k) (fun k => voussoirlaw19_lexAlive.mono k) hk h⟩
theorem lex_num {p : Nat} {l : List Int} {ts : List Tk} {e : Option (Nat × Int)} (h : Lex p l ts e) : ts.length ≤ l.length := by
  have := lex_size h
  induction h with
  | nil p => simp
  | blank h ih => have := ih (lex_size h); rw [List.length_cons]; omega
  | err hc hb => simp
  | @tok p c r ts e hc hb h ih =>
    have := ih (lex_size h)
    have hp := wk_pos hb
    rw [List.length_drop] at this
    simp only [List.length_cons] at this ⊢
    have := wk_le (c :: r)
    simp only [List.length_cons] at this
    omega
end Go.Proofs.Ytgdkgoeegipghaa.LexC
