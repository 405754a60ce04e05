/- What the lexer's functions and the reference's come to, in the words of the plain law (LexA). -/
import Derived.Test.YtgdkgoeegipghaaPx5
import Derived.Test.YtgdkgoeegipghaaLexA
namespace Go.Proofs.Ytgdkgoeegipghaa.LexB
open Go.RowKit Go.Proofs.YtgdkgoeegipghaaW.PrintWords Go.Proofs.Ytgdkgoeegipghaa.P Go.Proofs.Ytgdkgoeegipghaa.LexA

abbrev S := S31
abbrev rdS (xs : List S) (i : Int) : S := rd_T31 xs i
/-- A string out of its bytes. -/
def mkb (l : List Int) : ByteArray := ⟨(l.map fun x => x.toNat.toUInt8).toArray⟩
theorem mkb_bytes (s : ByteArray) : mkb (bytesOf s) = s := by
  unfold mkb bytesOf
  rw [List.map_map]
  have : ((fun x : Int => x.toNat.toUInt8) ∘ fun b : UInt8 => (b.toNat : Int)) = id := by
    funext b
    simp
  rw [this, List.map_id]
theorem bytes_inj {a b : ByteArray} (h : bytesOf a = bytesOf b) : a = b := by rw [← mkb_bytes a, h, mkb_bytes]
theorem bytes_extract (s : ByteArray) (a b : Nat) : bytesOf (s.extract a b) = ((bytesOf s).drop a).take (b - a) := by
  unfold bytesOf
  rw [ByteArray.data_extract, Array.toList_extract, List.extract_eq_take_drop, ← List.map_drop, ← List.map_take]
theorem bytes_append (a b : ByteArray) : bytesOf (a ++ b) = bytesOf a ++ bytesOf b := by
  unfold bytesOf
  rw [ByteArray.data_append, Array.toList_append, List.map_append]
theorem extract_mkb (s : ByteArray) (a b : Nat) : s.extract a b = mkb (((bytesOf s).drop a).take (b - a)) := by rw [← bytes_extract, mkb_bytes]
/-- What is left of a string from a place on. -/
abbrev sf (s : ByteArray) (p : Nat) : List Int := (bytesOf s).drop p
theorem sf_len (s : ByteArray) (p : Nat) : (sf s p).length = s.size - p := by rw [List.length_drop, bytesOf_length]
theorem sf_cons (s : ByteArray) (p : Nat) (h : p < s.size) : sf s p = bt s p :: sf s (p + 1) := by
  have hl : p < (bytesOf s).length := by rw [bytesOf_length]; exact h
  show (bytesOf s).drop p = bt s p :: (bytesOf s).drop (p + 1)
  rw [List.drop_eq_getElem_cons hl]
  congr 1
  rw [← rd_bytesOf]
  unfold rd
  rw [Int.toNat_natCast, List.getD_eq_getElem?_getD, List.getElem?_eq_getElem hl]
  rfl
theorem sf_nil (s : ByteArray) (p : Nat) (h : s.size ≤ p) : sf s p = [] := List.drop_eq_nil_of_le (by rw [bytesOf_length]; exact h)
theorem hd_sf (P : Int → Bool) (s : ByteArray) (p : Nat) (h : p < s.size) : hd P (sf s p) = P (bt s p) := by rw [sf_cons s p h]; rfl
theorem hd_sf_nil (P : Int → Bool) (s : ByteArray) (p : Nat) (h : s.size ≤ p) : hd P (sf s p) = false := by rw [sf_nil s p h]; rfl
theorem w64 {i : Int} (h0 : -9223372036854775808 ≤ i) (h1 : i ≤ 9223372036854775807) : wrap64 i = i := by unfold wrap64; omega

theorem digit_f (c : Int) : lexer_digit.f c = some (isD c) := by
  unfold lexer_digit.f isD
  by_cases h : 48 ≤ c
  · rw [if_pos (show c ≥ 48 from h)]; simp [h]
  · rw [if_neg (show ¬ c ≥ 48 from h)]; simp [h]
theorem letter_f (c : Int) : lexer_letter.f c = some (isL c) := by
  unfold lexer_letter.f isL
  by_cases h : 97 ≤ c
  · rw [if_pos (show c ≥ 97 from h)]; simp [h]
  · rw [if_neg (show ¬ c ≥ 97 from h)]; simp [h]
theorem inner_f (c : Int) : lexer_inner.f c = some (isI c) := by
  unfold lexer_inner.f isI
  rw [letter_f, Option.bind_some]
  cases isL c
  · rw [if_neg (by decide), digit_f, Option.bind_some]
    cases isD c <;> simp
  · simp
theorem rdigit_f (c : Int) : voussoirref19_digit.f c = some (isD c) := digit_f c
theorem rletter_f (c : Int) : voussoirref19_letter.f c = some (isL c) := letter_f c
/-- A loop that goes on while a byte belongs. -/
theorem reach_ev {F : Int → Option Bool} {g : Nat → ByteArray → Int → Option Int} {P : Int → Bool} (hF : ∀ c, F c = some (P c))
    (hg : ∀ k s i, g (k + 1) s i = if i < (s.size : Int) then (if 0 ≤ i then ((F (bt s i)).bind fun t => (if t = true then (g k s (wrap64 (i + 1))) else (some i))) else (none)) else (some i))
    (s : ByteArray) (hs : s.size ≤ 140737488351232) : ∀ (n p : Nat), p + n = s.size → ∃ K, ∀ k, K ≤ k → g k s (p : Int) = some ((p + run P (sf s p) : Nat) : Int) := by
  intro n
  induction n with
  | zero =>
    intro p hp
    refine ⟨1, fun k hk => ?_⟩
    obtain ⟨k, rfl⟩ : ∃ m, k = m + 1 := ⟨k - 1, by omega⟩
    show g (k + 1) s p = _
    rw [hg, if_neg (by omega), sf_nil s p (by omega), run_nil]
    rfl
  | succ n ih =>
    intro p hp
    obtain ⟨K, hK⟩ := ih (p + 1) (by omega)
    refine ⟨K + 1, fun k hk => ?_⟩
    obtain ⟨k, rfl⟩ : ∃ m, k = m + 1 := ⟨k - 1, by omega⟩
    show g (k + 1) s p = _
    rw [hg, if_pos (by omega), if_pos (by omega), hF, Option.bind_some, sf_cons s p (by omega), run_cons]
    by_cases hc : P (bt s p) = true
    · rw [if_pos hc, if_pos hc, w64 (by omega) (by omega)]
      have := hK k (by omega)
      simp only [Int.natCast_add, Int.natCast_one] at this
      rw [this, sf]
      simp only [Int.natCast_add, Int.natCast_one]
      congr 1
      omega
    · rw [if_neg hc, if_neg hc]
      rfl
theorem reach_digit_ev (s : ByteArray) (hs : s.size ≤ 140737488351232) (p : Nat) (hp : p ≤ s.size) : ∃ K, ∀ k, K ≤ k → lexer_reach_digit.f k s (p : Int) = some (((p + run isD (sf s p) : Nat) : Int)) :=
  reach_ev (g := lexer_reach_digit.l0) digit_f (fun k s i => by rw [lexer_reach_digit.l0]) s hs (s.size - p) p (by omega)
theorem reach_inner_ev (s : ByteArray) (hs : s.size ≤ 140737488351232) (p : Nat) (hp : p ≤ s.size) : ∃ K, ∀ k, K ≤ k → lexer_reach_inner.f k s (p : Int) = some (((p + run isI (sf s p) : Nat) : Int)) :=
  reach_ev (g := lexer_reach_inner.l0) inner_f (fun k s i => by rw [lexer_reach_inner.l0]) s hs (s.size - p) p (by omega)
theorem reach_blank_ev (s : ByteArray) (hs : s.size ≤ 140737488351232) (p : Nat) (hp : p ≤ s.size) : ∃ K, ∀ k, K ≤ k → lexer_reach_Tokens_1.f k s (p : Int) = some (((p + run (· == 32) (sf s p) : Nat) : Int)) :=
  reach_ev (g := lexer_reach_Tokens_1.l0) (F := lexer_Tokens_1.f) (fun c => rfl) (fun k s i => by rw [lexer_reach_Tokens_1.l0]) s hs (s.size - p) p (by omega)
theorem isS_iff (c : Int) : isS c = true ↔ c = 43 ∨ c = 45 ∨ c = 42 ∨ c = 47 ∨ c = 40 ∨ c = 41 := by
  unfold isS
  simp only [Bool.or_eq_true, beq_iff_eq]
  omega
theorem drop_sf (s : ByteArray) (p d : Nat) : (sf s p).drop d = sf s (p + d) := by rw [List.drop_drop]
theorem word_ev (s : ByteArray) (hs : s.size ≤ 140737488351232) (p : Nat) (hp : p < s.size) : ∃ K, ∀ k, K ≤ k → lexer_word.f k s (p : Int) = some ((wk (sf s p)).1, ((p + (wk (sf s p)).2 : Nat) : Int)) := by
  have hc := sf_cons s p hp
  have hw : wk (sf s p) = if isD (bt s p) then (1, numLen (sf s p)) else if isL (bt s p) then (2, run isI (sf s p)) else if isS (bt s p) then (3, 1) else (0, 0) := by rw [hc, wk_cons]
  obtain ⟨K1, h1⟩ := reach_digit_ev s hs p (by omega)
  obtain ⟨K2, h2⟩ := reach_inner_ev s hs p (by omega)
  have hr := run_le isD (sf s p)
  rw [sf_len] at hr
  by_cases hD : isD (bt s p) = true
  · rw [if_pos hD] at hw
    by_cases hq : p + run isD (sf s p) + 1 < s.size
    · have hq1 := hd_sf (· == 46) s (p + run isD (sf s p)) (by omega)
      have hq2 := hd_sf isD s (p + run isD (sf s p) + 1) hq
      obtain ⟨K3, h3⟩ := reach_digit_ev s hs (p + run isD (sf s p) + 1) (by omega)
      refine ⟨max K1 K3, fun k hk => ?_⟩
      show lexer_word.f k s p = _
      unfold lexer_word.f
      rw [if_pos (by omega), if_pos (by omega), digit_f, Option.bind_some, if_pos hD]
      rw [h1 k (by omega), Option.bind_some, w64 (by omega) (by omega), if_pos (by omega), if_pos (by omega), if_pos (by omega)]
      have h3' := h3 k (by omega)
      simp only [Int.natCast_add, Int.natCast_one] at h3' hq2 ⊢
      have hn : numLen (sf s p) = if hd (· == 46) (sf s (p + run isD (sf s p))) && hd isD (sf s (p + run isD (sf s p) + 1)) then run isD (sf s p) + 1 + run isD (sf s (p + run isD (sf s p) + 1)) else run isD (sf s p) := by
        unfold numLen
        rw [drop_sf, drop_sf, ← Nat.add_assoc]
      rw [hw, hn]
      by_cases c46 : bt s (p + run isD (sf s p) : Nat) = 46
      · simp only [Int.natCast_add] at c46 hq1
        rw [if_pos c46, if_pos (by omega), digit_f, Option.bind_some]
        rw [hq1, c46]
        simp only [beq_self_eq_true, Bool.true_and, hq2]
        by_cases cD : isD (bt s ((p : Int) + (run isD (sf s p) : Int) + 1)) = true
        · rw [if_pos cD, if_pos cD, h3', Option.bind_some]
          congr 2
          simp only [Int.natCast_add, Int.natCast_one]
          omega
        · rw [if_neg cD, if_neg cD]
      · simp only [Int.natCast_add] at c46 hq1
        rw [if_neg c46, hq1]
        rw [show ((bt s ((p : Int) + (run isD (sf s p) : Int))) == 46) = false by simpa using c46, Bool.false_and, if_neg (by decide)]
    · refine ⟨K1, fun k hk => ?_⟩
      show lexer_word.f k s p = _
      unfold lexer_word.f
      rw [if_pos (by omega), if_pos (by omega), digit_f, Option.bind_some, if_pos hD]
      rw [h1 k (by omega), Option.bind_some, w64 (by omega) (by omega), if_neg (by omega)]
      have hn : numLen (sf s p) = run isD (sf s p) := by
        unfold numLen
        rw [drop_sf, drop_sf, hd_sf_nil isD s _ (by omega), Bool.and_false, if_neg (by decide)]
      rw [hw, hn]
  · rw [if_neg hD] at hw
    by_cases hL : isL (bt s p) = true
    · rw [if_pos hL] at hw
      refine ⟨K2, fun k hk => ?_⟩
      show lexer_word.f k s p = _
      unfold lexer_word.f
      rw [if_pos (by omega), if_pos (by omega), digit_f, Option.bind_some, if_neg hD, letter_f, Option.bind_some, if_pos hL, h2 k (by omega), Option.bind_some, hw]
    · rw [if_neg hL] at hw
      refine ⟨0, fun k hk => ?_⟩
      show lexer_word.f k s p = _
      unfold lexer_word.f
      rw [if_pos (by omega), if_pos (by omega), digit_f, Option.bind_some, if_neg hD, letter_f, Option.bind_some, if_neg hL, w64 (by omega) (by omega)]
      by_cases hS : isS (bt s p) = true
      · rw [if_pos hS] at hw
        rw [hw]
        rcases (isS_iff _).1 hS with h | h | h | h | h | h <;> rw [h] <;> rfl
      · rw [if_neg hS] at hw
        rw [hw]
        have : ¬ (bt s p = 43 ∨ bt s p = 45 ∨ bt s p = 42 ∨ bt s p = 47 ∨ bt s p = 40 ∨ bt s p = 41) := fun h => hS ((isS_iff _).2 h)
        rw [if_neg (by omega), if_neg (by omega), if_neg (by omega), if_neg (by omega), if_neg (by omega), if_neg (by omega)]
        simp
/-- A token as the program has it. -/
def toS (x : Tk) : S := ⟨x.k, mkb x.t, (x.p : Int)⟩
def out (acc : List S) (ts : List Tk) : Option (Nat × Int) → List S × Int × Int
  | none => (acc ++ ts.map toS, 0, 0)
  | some (q, n) => ([], (q : Int), n)
theorem tokens_l0 (s : ByteArray) (hs : s.size ≤ 2000) {p : Nat} {l : List Int} {ts : List Tk} {e : Option (Nat × Int)} (h : Lex p l ts e) : p ≤ s.size → sf s p = l → ∀ acc : List S, acc.length ≤ p →
    ∃ K, ∀ k, K ≤ k → lexer_Tokens.l0 k s acc ((p + run (· == 32) l : Nat) : Int) = some (out acc ts e) := by
  induction h with
  | nil p =>
    intro hp hl acc ha
    refine ⟨1, fun k hk => ?_⟩
    obtain ⟨k, rfl⟩ : ∃ m, k = m + 1 := ⟨k - 1, by omega⟩
    have := congrArg List.length hl
    rw [sf_len] at this
    simp only [List.length_nil] at this
    show lexer_Tokens.l0 (k + 1) s acc _ = _
    rw [run_nil, Nat.add_zero, lexer_Tokens.l0, if_neg (by omega)]
    simp [out]
  | @blank p r ts e h ih =>
    intro hp hl acc ha
    have hlt : p < s.size := by
      have := congrArg List.length hl
      rw [sf_len] at this
      simp only [List.length_cons] at this
      omega
    have h2 : sf s (p + 1) = r := by rw [← drop_sf, hl]; rfl
    have := ih (by omega) h2 acc (by omega)
    rw [run_cons, if_pos (by decide)]
    rw [show p + 1 + run (· == 32) r = p + (run (· == 32) r + 1) by omega] at this
    exact this
  | @err p c r hc hb =>
    intro hp hl acc ha
    have hlt : p < s.size := by
      have := congrArg List.length hl
      rw [sf_len] at this
      simp only [List.length_cons] at this
      omega
    obtain ⟨K, hK⟩ := word_ev s (by omega) p hlt
    rw [hl] at hK
    refine ⟨K + 1, fun k hk => ?_⟩
    obtain ⟨k, rfl⟩ : ∃ m, k = m + 1 := ⟨k - 1, by omega⟩
    show lexer_Tokens.l0 (k + 1) s acc _ = _
    rw [show p + run (· == 32) (c :: r) = p by rw [run_cons, if_neg (by simpa using hc)]; rfl, lexer_Tokens.l0, if_pos (by omega), hK k (by omega), Option.bind_some]
    have hwl := wk_le (c :: r)
    have hcl : (c :: r).length = s.size - p := by rw [← hl, sf_len]
    unfold bad at hb ⊢
    by_cases h0 : (wk (c :: r)).1 = 0
    · rw [if_pos h0, if_pos h0]; rfl
    · rw [if_neg h0] at hb
      rw [if_neg h0, if_neg h0]
      by_cases h2 : (wk (c :: r)).1 = 2 ∧ 24 < (wk (c :: r)).2
      · rw [if_pos h2, if_pos h2.1, if_pos (by
          show wrap64 (((p + (wk (c :: r)).2 : Nat) : Int) - p) > 24
          rw [w64 (by omega) (by omega)]; omega)]
        rfl
      · rw [if_neg h2] at hb; exact absurd rfl hb
  | @tok p c r ts e hc hb h ih =>
    intro hp hl acc ha
    have hlt : p < s.size := by
      have := congrArg List.length hl
      rw [sf_len] at this
      simp only [List.length_cons] at this
      omega
    have hwl := wk_le (c :: r)
    have hcl : (c :: r).length = s.size - p := by rw [← hl, sf_len]
    have hpos := wk_pos hb
    obtain ⟨hk0, hk2⟩ := bad_zero hb
    obtain ⟨K, hK⟩ := word_ev s (by omega) p hlt
    rw [hl] at hK
    have hd2 : sf s (p + (wk (c :: r)).2) = (c :: r).drop (wk (c :: r)).2 := by rw [← drop_sf, hl]
    obtain ⟨K2, hK2⟩ := reach_blank_ev s (by omega) (p + (wk (c :: r)).2) (by omega)
    rw [hd2] at hK2
    obtain ⟨K3, hK3⟩ := ih (by omega) hd2 (acc ++ [toS ⟨(wk (c :: r)).1, (c :: r).take (wk (c :: r)).2, p⟩]) (by rw [List.length_append, List.length_singleton]; omega)
    refine ⟨max K (max K2 K3) + 1, fun k hk => ?_⟩
    obtain ⟨k, rfl⟩ : ∃ m, k = m + 1 := ⟨k - 1, by omega⟩
    have e3 : s.extract ((p : Nat) : Int).toNat (((p + (wk (c :: r)).2 : Nat) : Int)).toNat = mkb ((c :: r).take (wk (c :: r)).2) := by
      rw [Int.toNat_natCast, Int.toNat_natCast, extract_mkb, ← hl, Nat.add_sub_cancel_left]
    have e4 : out acc (⟨(wk (c :: r)).1, (c :: r).take (wk (c :: r)).2, p⟩ :: ts) e = out (acc ++ [toS ⟨(wk (c :: r)).1, (c :: r).take (wk (c :: r)).2, p⟩]) ts e := by
      cases e <;> simp [out]
    show lexer_Tokens.l0 (k + 1) s acc _ = _
    rw [show p + run (· == 32) (c :: r) = p by rw [run_cons, if_neg (by simpa using hc)]; rfl, lexer_Tokens.l0, if_pos (by omega), hK k (by omega), Option.bind_some, if_neg hk0]
    rw [e4]
    by_cases h2 : (wk (c :: r)).1 = 2
    · rw [if_pos h2, if_neg (by
          show ¬ wrap64 (((p + (wk (c :: r)).2 : Nat) : Int) - p) > 24
          rw [w64 (by omega) (by omega)]; have := hk2 h2; omega), if_pos (by omega), if_pos (by show (p : Int) ≤ ((p + (wk (c :: r)).2 : Nat) : Int); omega), if_pos (by show ((p + (wk (c :: r)).2 : Nat) : Int) ≤ s.size; omega), if_pos (by omega)]
      show ((lexer_reach_Tokens_1.f k s ((p + (wk (c :: r)).2 : Nat) : Int)).bind _) = _
      rw [hK2 k (by omega), Option.bind_some, e3]
      exact hK3 k (by omega)
    · rw [if_neg h2, if_pos (by omega), if_pos (by show (p : Int) ≤ ((p + (wk (c :: r)).2 : Nat) : Int); omega), if_pos (by show ((p + (wk (c :: r)).2 : Nat) : Int) ≤ s.size; omega), if_pos (by omega)]
      show ((lexer_reach_Tokens_1.f k s ((p + (wk (c :: r)).2 : Nat) : Int)).bind _) = _
      rw [hK2 k (by omega), Option.bind_some, e3]
      exact hK3 k (by omega)
theorem tokens_ev (s : ByteArray) (hs : s.size ≤ 2000) {ts : List Tk} {e : Option (Nat × Int)} (h : Lex 0 (bytesOf s) ts e) : ∃ K, ∀ k, K ≤ k → lexer_Tokens.f k s = some (out [] ts e) := by
  obtain ⟨K, hK⟩ := reach_blank_ev s (by omega) 0 (by omega)
  obtain ⟨K2, hK2⟩ := tokens_l0 s hs h (by omega) rfl [] (by simp)
  refine ⟨max K K2, fun k hk => ?_⟩
  show lexer_Tokens.f k s = _
  unfold lexer_Tokens.f
  rw [if_neg (by omega)]
  have := hK k (by omega)
  simp only [Int.natCast_zero] at this
  rw [this, Option.bind_some]
  exact hK2 k (by omega)
theorem tokens_long (s : ByteArray) (hs : 2000 < s.size) : ∃ K, ∀ k, K ≤ k → lexer_Tokens.f k s = some ([], 0, 6) := by
  refine ⟨0, fun k hk => ?_⟩
  show lexer_Tokens.f k s = _
  unfold lexer_Tokens.f
  rw [if_pos (by omega)]
end Go.Proofs.Ytgdkgoeegipghaa.LexB
