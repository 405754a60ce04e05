/- The plain law of the lexer: what a string's tokens are, as a relation over lists of bytes, and what follows from it: truncation, concatenation, a token alone. -/
import Derived.Test.YtgdkgoeegipghaaPx0
namespace Go.Proofs.Ytgdkgoeegipghaa.LexA
open Go.RowKit Go.Proofs.YtgdkgoeegipghaaW.PrintWords Go.Proofs.Ytgdkgoeegipghaa.P

def isD (c : Int) : Bool := decide (48 ≤ c) && decide (c ≤ 57)
def isL (c : Int) : Bool := decide (97 ≤ c) && decide (c ≤ 122)
def isI (c : Int) : Bool := isL c || isD c || c == 95
def isS (c : Int) : Bool := c == 43 || c == 45 || c == 42 || c == 47 || c == 40 || c == 41
def run (P : Int → Bool) (l : List Int) : Nat := (l.takeWhile P).length
def hd (P : Int → Bool) : List Int → Bool
  | [] => false
  | c :: _ => P c
theorem hd_nil (P : Int → Bool) : hd P [] = false := rfl
def numLen (l : List Int) : Nat :=
  if hd (· == 46) (l.drop (run isD l)) && hd isD (l.drop (run isD l + 1)) then run isD l + 1 + run isD (l.drop (run isD l + 1)) else run isD l
def wk : List Int → Int × Nat
  | [] => (0, 0)
  | c :: r => if isD c then (1, numLen (c :: r)) else if isL c then (2, run isI (c :: r)) else if isS c then (3, 1) else (0, 0)
theorem wk_cons (c : Int) (r : List Int) : wk (c :: r) = if isD c then (1, numLen (c :: r)) else if isL c then (2, run isI (c :: r)) else if isS c then (3, 1) else (0, 0) := rfl
def bad (x : Int × Nat) : Int := if x.1 = 0 then 3 else if x.1 = 2 ∧ 24 < x.2 then 7 else 0
structure Tk where
  k : Int
  t : List Int
  p : Nat
inductive Lex : Nat → List Int → List Tk → Option (Nat × Int) → Prop
  | nil (p : Nat) : Lex p [] [] none
  | blank {p : Nat} {r : List Int} {ts : List Tk} {e : Option (Nat × Int)} : Lex (p + 1) r ts e → Lex p (32 :: r) ts e
  | err {p : Nat} {c : Int} {r : List Int} : c ≠ 32 → bad (wk (c :: r)) ≠ 0 → Lex p (c :: r) [] (some (p, bad (wk (c :: r))))
  | tok {p : Nat} {c : Int} {r : List Int} {ts : List Tk} {e : Option (Nat × Int)} : c ≠ 32 → bad (wk (c :: r)) = 0 →
      Lex (p + (wk (c :: r)).2) ((c :: r).drop (wk (c :: r)).2) ts e → Lex p (c :: r) (⟨(wk (c :: r)).1, (c :: r).take (wk (c :: r)).2, p⟩ :: ts) e

theorem run_nil (P : Int → Bool) : run P [] = 0 := rfl
theorem run_cons (P : Int → Bool) (c : Int) (l : List Int) : run P (c :: l) = if P c then run P l + 1 else 0 := by
  unfold run
  rw [List.takeWhile_cons]
  split <;> simp
theorem run_le (P : Int → Bool) (l : List Int) : run P l ≤ l.length := by
  induction l with
  | nil => simp [run_nil]
  | cons c r ih => rw [run_cons]; split <;> simp <;> omega
/-- Behind the run no byte belongs to it. -/
theorem run_stop (P : Int → Bool) (l : List Int) : hd P (l.drop (run P l)) = false := by
  induction l with
  | nil => rfl
  | cons c r ih =>
    rw [run_cons]
    split
    · simpa using ih
    · rename_i h; simpa [hd] using h
theorem run_append (P : Int → Bool) (l b : List Int) (h : hd P b = false) : run P (l ++ b) = run P l := by
  induction l with
  | nil =>
    cases b with
    | nil => rfl
    | cons c r => simp only [List.nil_append, run_cons, run_nil]; rw [if_neg]; simpa [hd] using h
  | cons c r ih => simp only [List.cons_append, run_cons, ih]
theorem run_take (P : Int → Bool) (l : List Int) (m : Nat) (h : run P l ≤ m) : run P (l.take m) = run P l := by
  induction l generalizing m with
  | nil => simp
  | cons c r ih =>
    rw [run_cons] at h ⊢
    cases m with
    | zero =>
      by_cases hc : P c = true
      · rw [if_pos hc] at h; omega
      · rw [if_neg hc, List.take_zero]; rfl
    | succ m =>
      rw [List.take_succ_cons, run_cons]
      by_cases hc : P c = true
      · rw [if_pos hc] at h ⊢; rw [if_pos hc, ih m (by omega)]
      · rw [if_neg hc, if_neg hc]
theorem run_all (P : Int → Bool) (l : List Int) (h : ∀ c ∈ l, P c = true) : run P l = l.length := by
  induction l with
  | nil => rfl
  | cons c r ih =>
    rw [run_cons, if_pos (h c (by simp)), ih (fun x hx => h x (by simp [hx]))]
    simp
theorem run_mem (P : Int → Bool) (l : List Int) : ∀ c ∈ l.take (run P l), P c = true := by
  induction l with
  | nil => simp
  | cons c r ih =>
    rw [run_cons]
    split
    · rename_i hc
      intro x hx
      rw [List.take_succ_cons] at hx
      rcases List.mem_cons.1 hx with rfl | hx
      · exact hc
      · exact ih x hx
    · simp
theorem hd_append (P : Int → Bool) (l b : List Int) (h : l ≠ []) : hd P (l ++ b) = hd P l := by
  cases l with
  | nil => exact absurd rfl h
  | cons c r => rfl
theorem hd_take (P : Int → Bool) (l : List Int) (m : Nat) (h : 0 < m) : hd P (l.take m) = hd P l := by
  cases l with
  | nil => simp
  | cons c r => obtain ⟨m, rfl⟩ : ∃ k, m = k + 1 := ⟨m - 1, by omega⟩; rfl
theorem hd_some {P : Int → Bool} {l : List Int} (h : hd P l = true) : ∃ c r, l = c :: r ∧ P c = true := by
  cases l with
  | nil => cases h
  | cons c r => exact ⟨c, r, rfl, h⟩
theorem hd_len {P : Int → Bool} {l : List Int} {i : Nat} (h : hd P (l.drop i) = true) : i < l.length := by
  rcases Nat.lt_or_ge i l.length with h1 | h1
  · exact h1
  · rw [List.drop_eq_nil_of_le h1] at h; cases h

theorem numLen_le (l : List Int) : numLen l ≤ l.length := by
  unfold numLen
  have h0 := run_le isD l
  split
  · rename_i h
    simp only [Bool.and_eq_true] at h
    have h1 := hd_len h.2
    have h2 := run_le isD (l.drop (run isD l + 1))
    rw [List.length_drop] at h2
    omega
  · exact h0
theorem numLen_pos (l : List Int) (h : hd isD l = true) : 0 < numLen l := by
  obtain ⟨c, r, rfl, hc⟩ := hd_some h
  unfold numLen
  rw [run_cons, if_pos hc]
  split <;> omega
/-- A stretch that starts behind the string: a byte that no token holds. -/
theorem numLen_append (l b : List Int) (hb : hd isD b = false) (hb2 : hd (· == 46) b = false) : numLen (l ++ b) = numLen l := by
  unfold numLen
  rw [run_append isD l b hb]
  have h0 := run_le isD l
  rcases Nat.lt_or_ge (run isD l) l.length with h1 | h1
  · rw [List.drop_append_of_le_length (by omega), List.drop_append_of_le_length (by omega)]
    rw [hd_append _ (l.drop (run isD l)) b (by intro he; have := congrArg List.length he; simp at this; omega)]
    rcases Nat.lt_or_ge (run isD l + 1) l.length with h2 | h2
    · rw [hd_append _ (l.drop (run isD l + 1)) b (by intro he; have := congrArg List.length he; simp at this; omega)]
      rw [run_append isD _ b hb]
    · rw [List.drop_eq_nil_of_le h2]
      rw [List.nil_append, hb, hd_nil, Bool.and_false, if_neg (by decide), if_neg (by decide)]
  · rw [List.drop_append, List.drop_eq_nil_of_le h1, List.drop_eq_nil_of_le (show l.length ≤ run isD l + 1 by omega)]
    have e : run isD l - l.length = 0 := by omega
    rw [e]
    rw [List.nil_append, List.drop_zero, hb2, hd_nil, Bool.false_and, Bool.false_and, if_neg (by decide), if_neg (by decide)]
theorem numLen_take (l : List Int) (m : Nat) (h : numLen l ≤ m) : numLen (l.take m) = numLen l := by
  have hr : run isD l ≤ numLen l := by unfold numLen; split <;> omega
  have e := run_take isD l m (by omega)
  unfold numLen at h ⊢
  rw [e]
  by_cases hc : (hd (· == 46) (l.drop (run isD l)) && hd isD (l.drop (run isD l + 1))) = true
  · rw [if_pos hc] at h ⊢
    have hc' := hc
    simp only [Bool.and_eq_true] at hc'
    have hp : 0 < run isD (l.drop (run isD l + 1)) := by
      obtain ⟨c, r, he, hc2⟩ := hd_some hc'.2
      rw [he, run_cons, if_pos hc2]; omega
    rw [List.drop_take, List.drop_take, hd_take _ _ _ (by omega), hd_take _ _ _ (by omega), if_pos hc, run_take isD _ _ (by omega)]
  · rw [if_neg hc] at h ⊢
    rw [if_neg]
    intro h2
    apply hc
    simp only [Bool.and_eq_true, List.drop_take] at h2 ⊢
    obtain ⟨a1, a2⟩ := h2
    have hm : run isD l + 1 < m := by
      rcases Nat.lt_or_ge (run isD l + 1) m with h3 | h3
      · exact h3
      · rw [show m - (run isD l + 1) = 0 by omega, List.take_zero] at a2; cases a2
    rw [hd_take _ _ _ (by omega)] at a1 a2
    exact ⟨a1, a2⟩
theorem wk_le (l : List Int) : (wk l).2 ≤ l.length := by
  cases l with
  | nil => simp [wk]
  | cons c r =>
    rw [wk_cons]
    by_cases h1 : isD c = true
    · rw [if_pos h1]; exact numLen_le _
    · rw [if_neg h1]
      by_cases h2 : isL c = true
      · rw [if_pos h2]; exact run_le _ _
      · rw [if_neg h2]
        by_cases h3 : isS c = true
        · rw [if_pos h3]; simp
        · rw [if_neg h3]; simp
theorem bad_zero {x : Int × Nat} (h : bad x = 0) : x.1 ≠ 0 ∧ (x.1 = 2 → x.2 ≤ 24) := by
  unfold bad at h
  split at h
  · cases h
  · rename_i h1
    refine ⟨h1, fun h2 => ?_⟩
    split at h
    · cases h
    · omega
theorem wk_pos {c : Int} {r : List Int} (h : bad (wk (c :: r)) = 0) : 0 < (wk (c :: r)).2 := by
  have hb := (bad_zero h).1
  rw [wk_cons] at hb ⊢
  by_cases h1 : isD c = true
  · rw [if_pos h1]; exact numLen_pos _ h1
  · rw [if_neg h1] at hb ⊢
    by_cases h2 : isL c = true
    · rw [if_pos h2]; show 0 < run isI (c :: r); rw [run_cons, if_pos (by simp [isI, h2])]; omega
    · rw [if_neg h2] at hb ⊢
      by_cases h3 : isS c = true
      · rw [if_pos h3]; simp
      · rw [if_neg h3] at hb; exact absurd rfl hb
theorem isI_32 : isI 32 = false := by decide
theorem isD_32 : isD 32 = false := by decide
theorem wk_append (c : Int) (r b : List Int) (hD : hd isD b = false) (hP : hd (· == 46) b = false) (hI : hd isI b = false) : wk ((c :: r) ++ b) = wk (c :: r) := by
  rw [List.cons_append, wk_cons, wk_cons, ← List.cons_append, numLen_append _ _ hD hP, run_append _ _ _ hI]
theorem wk_take (c : Int) (r : List Int) (m : Nat) (h : (wk (c :: r)).2 ≤ m) (hm : 0 < m) : wk ((c :: r).take m) = wk (c :: r) := by
  obtain ⟨m, rfl⟩ : ∃ k, m = k + 1 := ⟨m - 1, by omega⟩
  rw [List.take_succ_cons]
  rw [wk_cons] at h ⊢
  rw [wk_cons, ← List.take_succ_cons]
  by_cases h1 : isD c = true
  · rw [if_pos h1] at h; rw [if_pos h1, if_pos h1, numLen_take _ _ h]
  · rw [if_neg h1] at h; rw [if_neg h1, if_neg h1]
    by_cases h2 : isL c = true
    · rw [if_pos h2] at h; rw [if_pos h2, if_pos h2, run_take _ _ _ h]
    · rw [if_neg h2, if_neg h2]

/-- Every string is told one way. -/
theorem lex_total : ∀ (n : Nat) (l : List Int) (p : Nat), l.length ≤ n → ∃ ts e, Lex p l ts e := by
  intro n
  induction n with
  | zero =>
    intro l p h
    obtain rfl : l = [] := List.length_eq_zero_iff.1 (by omega)
    exact ⟨_, _, Lex.nil p⟩
  | succ n ih =>
    intro l p h
    cases l with
    | nil => exact ⟨_, _, Lex.nil p⟩
    | cons c r =>
      simp only [List.length_cons] at h
      by_cases hc : c = 32
      · subst hc
        obtain ⟨ts, e, h1⟩ := ih r (p + 1) (by omega)
        exact ⟨ts, e, Lex.blank h1⟩
      · by_cases hb : bad (wk (c :: r)) = 0
        · have hp := wk_pos hb
          obtain ⟨ts, e, h1⟩ := ih ((c :: r).drop (wk (c :: r)).2) (p + (wk (c :: r)).2) (by rw [List.length_drop, List.length_cons]; omega)
          exact ⟨_, _, Lex.tok hc hb h1⟩
        · exact ⟨_, _, Lex.err hc hb⟩
theorem lex_one {p : Nat} {l : List Int} {ts ts' : List Tk} {e e' : Option (Nat × Int)} (h : Lex p l ts e) (h' : Lex p l ts' e') : ts = ts' ∧ e = e' := by
  induction h generalizing ts' e' with
  | nil p => cases h'; exact ⟨rfl, rfl⟩
  | blank h ih =>
    cases h' with
    | blank h1 => exact ih h1
    | err hc => exact absurd rfl hc
    | tok hc => exact absurd rfl hc
  | err hc hb =>
    cases h' with
    | blank h1 => exact absurd rfl hc
    | err _ _ => exact ⟨rfl, rfl⟩
    | tok _ hb' => exact absurd hb' hb
  | tok hc hb h ih =>
    cases h' with
    | blank h1 => exact absurd rfl hc
    | err _ hb' => exact absurd hb hb'
    | tok _ _ h1 => obtain ⟨e1, e2⟩ := ih h1; exact ⟨by rw [e1], e2⟩
def sh (q : Nat) (x : Tk) : Tk := ⟨x.k, x.t, x.p + q⟩
theorem lex_shift {p : Nat} {l : List Int} {ts : List Tk} {e : Option (Nat × Int)} (h : Lex p l ts e) (q : Nat) : Lex (p + q) l (ts.map (sh q)) (e.map fun x => (x.1 + q, x.2)) := by
  induction h with
  | nil p => exact Lex.nil _
  | @blank p r ts e h ih => exact Lex.blank (by rw [show p + q + 1 = p + 1 + q by omega]; exact ih)
  | err hc hb => exact Lex.err hc hb
  | @tok p c r ts e hc hb h ih => exact Lex.tok hc hb (by rw [show p + q + (wk (c :: r)).2 = p + (wk (c :: r)).2 + q by omega]; exact ih)
/-- The tokens of two strings joined by a blank. -/
theorem lex_concat {p : Nat} {a : List Int} {ts : List Tk} {e : Option (Nat × Int)} (h : Lex p a ts e) (he : e = none) (b : List Int) {us : List Tk} {e' : Option (Nat × Int)} (hb : Lex (p + a.length + 1) b us e') : Lex p (a ++ 32 :: b) (ts ++ us) e' := by
  induction h with
  | nil p => exact Lex.blank (by simpa using hb)
  | @blank p r ts e h ih => exact Lex.blank (ih he (by rw [List.length_cons] at hb; rw [show p + 1 + r.length + 1 = p + (r.length + 1) + 1 by omega]; exact hb))
  | err hc hb => cases he
  | @tok p c r ts e hc hbad h ih =>
    have hw : wk (c :: (r ++ 32 :: b)) = wk (c :: r) := wk_append c r (32 :: b) isD_32 rfl isI_32
    have hl := wk_le (c :: r)
    have h1 := ih he (by rw [List.length_drop, show p + (wk (c :: r)).2 + ((c :: r).length - (wk (c :: r)).2) + 1 = p + (c :: r).length + 1 by omega]; exact hb)
    have := @Lex.tok p c (r ++ 32 :: b) (ts ++ us) e' hc (by rw [hw]; exact hbad) (by
      rw [hw, ← List.cons_append, List.drop_append_of_le_length hl]; exact h1)
    rw [hw, ← List.cons_append, List.take_append_of_le_length hl] at this
    exact this
/-- The stretch ahead of an error is free of errors; the rest begins with it. -/
theorem lex_err {p : Nat} {l : List Int} {ts : List Tk} {e : Option (Nat × Int)} (h : Lex p l ts e) (q : Nat) (n : Int) (he : e = some (q, n)) :
    p ≤ q ∧ q - p < l.length ∧ (∃ us, Lex p (l.take (q - p)) us none) ∧ (∀ p', Lex p' (l.drop (q - p)) [] (some (p', n))) ∧ n ≠ 0 := by
  induction h with
  | nil p => cases he
  | @blank p r ts e h ih =>
    obtain ⟨h1, h2, ⟨us, h3⟩, h4, h5⟩ := ih he
    refine ⟨by omega, by simp; omega, ?_, ?_, h5⟩
    · rw [show q - p = q - (p + 1) + 1 by omega, List.take_succ_cons]; exact ⟨us, Lex.blank h3⟩
    · intro p'; rw [show q - p = q - (p + 1) + 1 by omega, List.drop_succ_cons]; exact h4 p'
  | @err p c r hc hb =>
    simp only [Option.some.injEq, Prod.mk.injEq] at he
    obtain ⟨rfl, rfl⟩ := he
    refine ⟨Nat.le_refl _, by simp, ?_, ?_, hb⟩
    · rw [Nat.sub_self, List.take_zero]; exact ⟨[], Lex.nil _⟩
    · intro p'; rw [Nat.sub_self, List.drop_zero]; exact Lex.err hc hb
  | @tok p c r ts e hc hb h ih =>
    obtain ⟨h1, h2, ⟨us, h3⟩, h4, h5⟩ := ih he
    have hp := wk_pos hb
    have hl := wk_le (c :: r)
    rw [List.length_drop] at h2
    refine ⟨by omega, by omega, ?_, ?_, h5⟩
    · have hm : (wk (c :: r)).2 ≤ q - p := by omega
      have hw := wk_take c r (q - p) hm (by omega)
      obtain ⟨m, hm'⟩ : ∃ m, q - p = m + 1 := ⟨q - p - 1, by omega⟩
      rw [hm', List.take_succ_cons] at hw ⊢
      refine ⟨_, Lex.tok hc (by rw [hw]; exact hb) (ts := us) (e := none) ?_⟩
      rw [hw, ← List.take_succ_cons, List.drop_take, ← hm', show q - p - (wk (c :: r)).2 = q - (p + (wk (c :: r)).2) by omega]
      exact h3
    · intro p'
      have := h4 p'
      rw [List.drop_drop, show (wk (c :: r)).2 + (q - (p + (wk (c :: r)).2)) = q - p by omega] at this
      exact this
/-- What a token is by itself. -/
def Good (x : Tk) : Prop := ∃ c r, x.t = c :: r ∧ c ≠ 32 ∧ bad (wk x.t) = 0 ∧ wk x.t = (x.k, x.t.length)
theorem lex_good {p : Nat} {l : List Int} {ts : List Tk} {e : Option (Nat × Int)} (h : Lex p l ts e) : ∀ x ∈ ts, Good x := by
  induction h with
  | nil p => simp
  | blank h ih => exact ih
  | err hc hb => simp
  | @tok p c r ts e hc hb h ih =>
    intro x hx
    rcases List.mem_cons.1 hx with rfl | hx
    · have hp := wk_pos hb
      have hl := wk_le (c :: r)
      have hw := wk_take c r (wk (c :: r)).2 (Nat.le_refl _) hp
      obtain ⟨m, hm⟩ : ∃ m, (wk (c :: r)).2 = m + 1 := ⟨(wk (c :: r)).2 - 1, by omega⟩
      refine ⟨c, r.take m, by rw [hm, List.take_succ_cons], hc, by rw [hw]; exact hb, ?_⟩
      rw [hw, List.length_take, Nat.min_eq_left hl]
    · exact ih x hx
theorem good_len {x : Tk} (h : Good x) : 0 < x.t.length := by
  obtain ⟨c, r, h1, _⟩ := h
  rw [h1]; simp
theorem good_alone {x : Tk} (h : Good x) (p : Nat) : Lex p x.t [⟨x.k, x.t, p⟩] none := by
  obtain ⟨c, r, h1, h2, h3, h4⟩ := h
  rw [h1] at h3 h4 ⊢
  have := Lex.tok h2 h3 (p := p) (ts := []) (e := none) (by rw [h4, List.drop_eq_nil_of_le (by simp)]; exact Lex.nil _)
  rw [h4] at this
  simpa using this
theorem good_blank {x : Tk} (h : Good x) (p : Nat) {b : List Int} {us : List Tk} {e : Option (Nat × Int)} (hb : Lex (p + x.t.length + 1) b us e) : Lex p (x.t ++ 32 :: b) (⟨x.k, x.t, p⟩ :: us) e :=
  lex_concat (good_alone h p) rfl b hb
/-- A name behind digits: a number and a name. -/
theorem good_digits {x : Tk} (h : Good x) (hk : x.k = 2) (d : List Int) (hd : ∀ c ∈ d, c = 55) (h0 : 0 < d.length) (p : Nat) : Lex p (d ++ x.t) [⟨1, d, p⟩, ⟨2, x.t, p + d.length⟩] none := by
  obtain ⟨c, r, h1, h2, h3, h4⟩ := h
  have hc : isD c = false ∧ isL c = true := by
    rw [h1] at h4
    rw [wk_cons] at h4
    split at h4
    · simp only [Prod.mk.injEq] at h4; omega
    · rename_i hc
      split at h4
      · rename_i hl; exact ⟨by simpa using hc, hl⟩
      · split at h4 <;> simp only [Prod.mk.injEq] at h4 <;> omega
  cases d with
  | nil => simp at h0
  | cons a d =>
    obtain rfl : a = 55 := hd a (by simp)
    have hdot : (c == 46) = false := by
      have := hc.2
      simp only [isL, Bool.and_eq_true, decide_eq_true_eq] at this
      simp; omega
    have hrun : run isD (55 :: d) = (55 :: d).length := run_all isD _ (fun x hx => by rw [hd x hx]; decide)
    have hn : numLen ((55 :: d) ++ x.t) = (55 :: d).length := by
      rw [numLen_append _ _ (by rw [h1]; exact hc.1) (by rw [h1]; exact hdot)]
      unfold numLen
      rw [hrun, List.drop_eq_nil_of_le (Nat.le_refl _)]
      rfl
    have hw : wk (55 :: (d ++ x.t)) = (1, (55 :: d).length) := by
      rw [wk_cons, if_pos (by decide), ← List.cons_append, hn]
    have := @Lex.tok p 55 (d ++ x.t) [⟨2, x.t, p + (55 :: d).length⟩] none (by decide) (by rw [hw]; rfl) (by
      rw [hw, ← List.cons_append]
      show Lex (p + (55 :: d).length) (((55 :: d) ++ x.t).drop (55 :: d).length) _ _
      rw [List.drop_left]
      have := good_alone ⟨c, r, h1, h2, h3, h4⟩ (p + (55 :: d).length)
      rw [hk] at this
      exact this)
    rw [hw, ← List.cons_append] at this
    rw [show List.take (1, (55 :: d).length).2 ((55 :: d) ++ x.t) = 55 :: d from List.take_left] at this
    exact this
/-- Where the tokens lie: in order, found at their offsets, blanks alone between them. -/
inductive Lay (s : List Int) : Nat → List Tk → Prop
  | nil (p : Nat) : p ≤ s.length → (∀ c ∈ s.drop p, c = 32) → Lay s p []
  | cons (p : Nat) (x : Tk) (ts : List Tk) : p ≤ x.p → x.p + x.t.length ≤ s.length → 0 < x.t.length → (s.drop x.p).take x.t.length = x.t → (∀ c ∈ (s.drop p).take (x.p - p), c = 32) → Lay s (x.p + x.t.length) ts → Lay s p (x :: ts)
theorem lay_blank {s : List Int} {p : Nat} {ts : List Tk} (h : Lay s (p + 1) ts) {r : List Int} (hs : s.drop p = 32 :: r) : Lay s p ts := by
  have hp : p < s.length := by
    rcases Nat.lt_or_ge p s.length with h1 | h1
    · exact h1
    · rw [List.drop_eq_nil_of_le h1] at hs; cases hs
  have hr : s.drop (p + 1) = r := by
    rw [← List.drop_drop, hs]; rfl
  cases h with
  | nil _ h0 h1 => exact .nil p (by omega) (by rw [hs]; intro c hc; rcases List.mem_cons.1 hc with rfl | hc; exact rfl; exact h1 c (by rw [hr]; exact hc))
  | cons _ x ts a1 a2 a3 a4 a5 a6 =>
    refine .cons p x ts (by omega) a2 a3 a4 ?_ a6
    rw [hs, show x.p - p = x.p - (p + 1) + 1 by omega, List.take_succ_cons]
    intro c hc
    rcases List.mem_cons.1 hc with rfl | hc
    · rfl
    · exact a5 c (by rw [hr]; exact hc)
theorem lex_lay {p : Nat} {l : List Int} {ts : List Tk} {e : Option (Nat × Int)} (h : Lex p l ts e) (he : e = none) (s : List Int) (hp : p ≤ s.length) (hs : s.drop p = l) : Lay s p ts := by
  induction h with
  | nil p => exact .nil p hp (by rw [hs]; simp)
  | @blank p r ts e h ih =>
    have hlt : p < s.length := by
      rcases Nat.lt_or_ge p s.length with h1 | h1
      · exact h1
      · rw [List.drop_eq_nil_of_le h1] at hs; cases hs
    exact lay_blank (ih he (by omega) (by rw [← List.drop_drop, hs]; rfl)) hs
  | err hc hb => cases he
  | @tok p c r ts e hc hb h ih =>
    have hl := wk_le (c :: r)
    have hlen : (c :: r).length = s.length - p := by rw [← hs, List.length_drop]
    have hl2 : ((c :: r).take (wk (c :: r)).2).length = (wk (c :: r)).2 := by rw [List.length_take, Nat.min_eq_left hl]
    have hpos := wk_pos hb
    refine .cons p _ ts (Nat.le_refl _) ?_ ?_ ?_ ?_ ?_
    · show p + ((c :: r).take (wk (c :: r)).2).length ≤ s.length
      rw [hl2]; omega
    · show 0 < ((c :: r).take (wk (c :: r)).2).length
      rw [hl2]; exact hpos
    · show (s.drop p).take ((c :: r).take (wk (c :: r)).2).length = _
      rw [hl2, hs]
    · show ∀ c' ∈ (s.drop p).take (p - p), c' = 32
      rw [Nat.sub_self, List.take_zero]; simp
    · show Lay s (p + ((c :: r).take (wk (c :: r)).2).length) ts
      rw [hl2]
      exact ih he (by omega) (by rw [← List.drop_drop, hs])
/-- Tokens with a blank behind each take at most twice as many bytes as the string. -/
theorem lex_size {p : Nat} {l : List Int} {ts : List Tk} {e : Option (Nat × Int)} (h : Lex p l ts e) : ((ts.map fun x => x.t.length + 1).sum) ≤ 2 * l.length := by
  induction h with
  | nil p => simp
  | blank h ih => rw [List.length_cons]; omega
  | err hc hb => simp
  | @tok p c r ts e hc hb h ih =>
    have hl := wk_le (c :: r)
    have hp := wk_pos hb
    rw [List.length_drop] at ih
    simp only [List.map_cons, List.sum_cons, List.length_take, Nat.min_eq_left hl]
    omega
def cat (ts : List Tk) : List Int := (ts.map fun x => x.t ++ [32]).flatten
/-- Every token with a blank behind it: the same tokens at new offsets. -/
def put : Nat → List Tk → List Tk
  | _, [] => []
  | q, x :: ts => ⟨x.k, x.t, q⟩ :: put (q + (x.t.length + 1)) ts
theorem lex_cat (ts : List Tk) (h : ∀ x ∈ ts, Good x) (q : Nat) : Lex q (cat ts) (put q ts) none := by
  induction ts generalizing q with
  | nil => exact Lex.nil _
  | cons x ts ih =>
    have h1 := ih (fun y hy => h y (by simp [hy])) (q + x.t.length + 1)
    have h2 := good_blank (h x (by simp)) q h1
    simp only [cat, List.map_cons, List.flatten_cons, put]
    rw [List.append_assoc]
    exact h2
theorem lex_blanks (n : Nat) {p : Nat} {l : List Int} {ts : List Tk} {e : Option (Nat × Int)} (h : Lex (p + n) l ts e) : Lex p (List.replicate n 32 ++ l) ts e := by
  induction n generalizing p with
  | zero => simpa using h
  | succ n ih =>
    rw [List.replicate_succ, List.cons_append]
    exact Lex.blank (ih (by rw [show p + 1 + n = p + (n + 1) by omega]; exact h))
end Go.Proofs.Ytgdkgoeegipghaa.LexA
