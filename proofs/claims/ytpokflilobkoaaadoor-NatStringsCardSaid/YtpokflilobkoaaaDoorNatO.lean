/- What Parse, in the program and in the reference, and the reference's Of, Num and Text come to. -/
import Derived.Test.YtpokflilobkoaaaDoorNatN
namespace Go.Proofs.YtpokflilobkoaaaDoor.NatO
open Go Go.RowKit Go.Proofs.YtpokflilobkoaaaDoorW.PrintWords Go.Proofs.YtpokflilobkoaaaDoorW.PrintLast Go.Proofs.YtpokflilobkoaaaDoor.P Go.Proofs.YtpokflilobkoaaaDoor.NatA Go.Proofs.YtpokflilobkoaaaDoor.NatB Go.Proofs.YtpokflilobkoaaaDoor.NatC Go.Proofs.YtpokflilobkoaaaDoor.NatD Go.Proofs.YtpokflilobkoaaaDoor.NatI Go.Proofs.YtpokflilobkoaaaDoor.NatJ Go.Proofs.YtpokflilobkoaaaDoor.NatK Go.Proofs.YtpokflilobkoaaaDoor.NatL Go.Proofs.YtpokflilobkoaaaDoor.NatM Go.Proofs.YtpokflilobkoaaaDoor.NatN

/-! ### the program's Parse -/
theorem parse1 (s : ByteArray) (hd : (L s).all dig = true) (hs : s.size ≤ 1000) (b e : Nat) (he : e ≤ s.size) (h9 : e ≤ b + 9) (hb : b ≤ s.size) (R : ByteArray × Bool)
    (K : Ev (fun k => nat_Parse.l0 k s (N (dv ((L s).take e))) ((b + 9 : Nat) : Int)) R) (r : Nat) : ∀ (i n p : Nat), i + r = e → b ≤ i → dv ((L s).take i) = dv ((L s).take b) * p + n → n < p → p = 10 ^ (i - b) →
    Ev (fun k => nat_Parse.l1 k s (N (dv ((L s).take b))) b e n p i) R := by
  have hL := L_length s
  induction r with
  | zero =>
    intro i n p hi hbi hv hn hp
    obtain rfl : i = e := by omega
    have hp9 : p ≤ 10 ^ 9 := by rw [hp]; exact Nat.pow_le_pow_right (by decide) (by omega)
    have s1 : (N (dv ((L s).take b))).size ≤ 1000 := Nat.le_trans (N_dv_size _ (all_take hd b)) (by rw [List.length_take]; omega)
    have s2 : (N p).size ≤ 8 := (N_size _ _).2 (by omega)
    have s3 : (N n).size ≤ 8 := (N_size _ _).2 (by omega)
    have m1 := ev_mul (N (dv ((L s).take b))) (N p) (by omega) (by omega)
    have s4 := N_size_mul (N (dv ((L s).take b))) (N p)
    rw [V_N, V_N] at m1 s4
    have a1 := ev_add (N (dv ((L s).take b) * p)) (N n) (by omega) (by omega)
    rw [V_N, V_N, ← hv] at a1
    refine Ev.step (fun k => by rw [nat_Parse.l1, if_neg (by omega), w64 (by omega) (by omega), show (b : Int) + 9 = ((b + 9 : Nat) : Int) by omega]) ?_
    exact Ev.bind (ev_from p (by omega)) (Ev.bind m1 (Ev.bind (ev_from n (by omega)) (Ev.bind a1 K)))
  | succ r ih =>
    intro i n p hi hbi hv hn hp
    have hp9 : p ≤ 10 ^ 8 := by rw [hp]; exact Nat.pow_le_pow_right (by decide) (by omega)
    have hg := all_get hd i (by omega)
    have e1 := bt_L s i (by omega)
    have e2 := take_L s i (by omega)
    obtain ⟨c, hc⟩ : ∃ c, c = ((L s)[i]'(by omega)).toNat := ⟨_, rfl⟩
    rw [← hc] at hg e1
    have e3 := dv_snoc ((L s).take i) ((L s)[i]'(by omega))
    rw [← e2, ← hc] at e3
    refine Ev.step (fun k => by rw [nat_Parse.l1, if_pos (by omega), if_pos (by omega), if_pos (by omega), e1, wu (n := 10 * (n : Int)) (by omega) (by omega), Int.emod_eq_of_lt (a := (c : Int) - 48) (by omega) (by omega), wu (n := 10 * (n : Int) + ((c : Int) - 48)) (by omega) (by omega), wu (n := 10 * (p : Int)) (by omega) (by omega), w64 (by omega) (by omega), show 10 * (n : Int) + ((c : Int) - 48) = ((10 * n + (c - 48) : Nat) : Int) by omega, show 10 * (p : Int) = ((10 * p : Nat) : Int) by omega, show (i : Int) + 1 = ((i + 1 : Nat) : Int) by omega]) ?_
    refine ih (i + 1) _ _ (by omega) (by omega) ?_ (by omega) (by rw [hp, show i + 1 - b = i - b + 1 by omega, Nat.pow_succ, Nat.mul_comm])
    rw [e3, hv]
    grind
theorem take_ge (s : ByteArray) (i : Nat) (h : s.size ≤ i) : (L s).take i = L s := List.take_of_length_le (by rw [L_length]; exact h)
theorem parse0 (s : ByteArray) (hd : (L s).all dig = true) (hs : s.size ≤ 1000) (m : Nat) : ∀ b : Nat, s.size ≤ b + 9 * m → b ≤ s.size + 9 → Ev (fun k => nat_Parse.l0 k s (N (dv ((L s).take b))) b) (N (dv (L s)), true) := by
  induction m with
  | zero =>
    intro b h1 h2
    rw [take_ge s b (by omega)]
    exact Ev.step (fun k => by rw [nat_Parse.l0, if_neg (by omega)]) (Ev.now _)
  | succ m ih =>
    intro b h1 h2
    by_cases hb : b < s.size
    · have K := ih (b + 9) (by omega) (by omega)
      by_cases h9 : s.size < b + 9
      · refine Ev.step (fun k => by rw [nat_Parse.l0, if_pos (by omega), w64 (by omega) (by omega), show mn ((b : Int) + 9) (s.size : Int) = (s.size : Int) by unfold mn; exact if_pos (by omega)]) ?_
        rw [take_ge s (b + 9) (by omega)] at K
        refine parse1 s hd hs b s.size (Nat.le_refl _) (by omega) (by omega) _ (by rw [take_ge s s.size (Nat.le_refl _)]; exact K) (s.size - b) b 0 1 (by omega) (Nat.le_refl _) (by omega) (by decide) (by rw [Nat.sub_self])
      · refine Ev.step (fun k => by rw [nat_Parse.l0, if_pos (by omega), w64 (by omega) (by omega), show mn ((b : Int) + 9) (s.size : Int) = ((b + 9 : Nat) : Int) by unfold mn; exact if_neg (by omega)]) ?_
        refine parse1 s hd hs b (b + 9) (by omega) (by omega) (by omega) _ K 9 b 0 1 (by omega) (Nat.le_refl _) (by omega) (by decide) (by rw [Nat.sub_self])
    · rw [take_ge s b (by omega)]
      exact Ev.step (fun k => by rw [nat_Parse.l0, if_neg (by omega)]) (Ev.now _)
theorem bt_head (s : ByteArray) (h : 0 < s.size) : bt s 0 = 48 ↔ (L s).head? = some 48 := by
  have e := bt_L s 0 h
  have hl : 0 < (L s).length := by rw [L_length]; exact h
  rw [List.head?_eq_getElem?, List.getElem?_eq_getElem hl]
  have e' : bt s 0 = (((L s)[0]'hl).toNat : Int) := e
  rw [e', Option.some.injEq, ← UInt8.toNat_inj]
  show _ ↔ _ = 48
  omega
theorem L_nil (s : ByteArray) : L s = [] ↔ s.size = 0 := by rw [← L_length, List.length_eq_zero_iff]
theorem parseR_no (s : ByteArray) (h : num (L s) = false) : parseR s = ((⟨#[]⟩ : ByteArray), false) := by unfold parseR; rw [h, if_neg (by decide)]
theorem parseR_yes (s : ByteArray) (h : num (L s) = true) : parseR s = (N (dv (L s)), true) := by unfold parseR; rw [if_pos h]
theorem num_false_dig {l : List UInt8} (h : l.all dig = false) : num l = false := by unfold num; rw [h, Bool.and_false, Bool.false_and]
theorem num_zero {l : List UInt8} (h : 1 < l.length) (h0 : l.head? = some 48) : num l = false := by
  unfold num
  rw [decide_eq_false (by omega), h0]
  simp
theorem num_true {l : List UInt8} (h : l ≠ []) (hd : l.all dig = true) (h1 : l.length ≤ 1 ∨ l.head? ≠ some 48) : num l = true := by
  unfold num
  rw [hd]
  rcases h1 with h1 | h1
  · simp [h, h1]
  · simp [h, bne_iff_ne, h1]
theorem ev_parse (s : ByteArray) (hs : s.size ≤ 1000) : Ev (fun k => nat_Parse.f k s) (parseR s) := by
  have no : Ev (fun k => nat_Parse.j0 k s true) ((⟨#[]⟩ : ByteArray), false) := Ev.step (fun k => by rw [nat_Parse.j0, if_pos rfl]) (Ev.now _)
  by_cases h0 : s.size = 0
  · rw [parseR_no s (by rw [(L_nil s).2 h0]; rfl)]
    exact Ev.congr (fun k => by unfold nat_Parse.f; rw [if_pos ((nil_iff s).2 h0)]) no
  obtain ⟨t, ht, htd⟩ := trim_dig s hs
  have rest : (s.size ≤ 1 ∨ (L s).head? ≠ some 48) → Ev (fun k => nat_Parse.j0 k s (t.toList != ([] : List UInt8))) (parseR s) := fun h1 => by
    rw [htd]
    cases hd : (L s).all dig with
    | false =>
      rw [parseR_no s (num_false_dig hd)]
      exact no
    | true =>
      rw [parseR_yes s (num_true (fun e => h0 ((L_nil s).1 e)) hd (by rw [L_length]; exact h1))]
      refine Ev.step (fun k => by rw [nat_Parse.j0, if_neg (by decide)]) ?_
      have := parse0 s hd hs 1000 0 (by omega) (by omega)
      rw [List.take_zero, show dv [] = 0 from rfl, N_zero] at this
      exact this
  by_cases h1 : (s.size : Int) > 1
  · by_cases h48 : bt s 0 = 48
    · rw [parseR_no s (num_zero (by rw [L_length]; omega) ((bt_head s (by omega)).1 h48))]
      exact Ev.congr (fun k => by unfold nat_Parse.f; rw [if_neg (fun e => h0 ((nil_iff s).1 e)), if_pos h1, if_pos (by omega), if_pos h48]) no
    · exact Ev.congr (fun k => by unfold nat_Parse.f; rw [if_neg (fun e => h0 ((nil_iff s).1 e)), if_pos h1, if_pos (by omega), if_neg h48, ht, Option.bind_some]) (rest (.inr fun e => h48 ((bt_head s (by omega)).2 e)))
  · exact Ev.congr (fun k => by unfold nat_Parse.f; rw [if_neg (fun e => h0 ((nil_iff s).1 e)), if_neg h1, ht, Option.bind_some]) (rest (.inl (by omega)))
/-! ### the reference's Of and Parse -/
theorem rof0 (n : Nat) : ∀ l : List Int, n < 18446744073709551616 → l.length + (nb n).length ≤ 1000000 → Ev (fun k => voussoirref01_Of.l0 k n l) (strOfNums (l ++ nb n)) := by
  induction n using Nat.strongRecOn with
  | _ n ih =>
    intro l hn hl
    by_cases h : n = 0
    · subst h
      rw [nb_zero, List.append_nil]
      exact Ev.step (fun k => by rw [voussoirref01_Of.l0, if_neg (by omega)]) (Ev.now _)
    · rw [nb_pos h, List.length_cons] at hl
      have e : strOfNums (l ++ nb n) = strOfNums ((l ++ [((n % 256 : Nat) : Int)]) ++ nb (n / 256)) := by rw [nb_pos h, List.append_assoc]; rfl
      rw [e]
      refine Ev.step (fun k => by rw [voussoirref01_Of.l0, if_pos (by omega), if_pos (by omega), tdiv_nat (by omega), tmod_nat (by omega), wu (by omega) (by omega), show (n : Int) / 256 = ((n / 256 : Nat) : Int) by omega, show (n : Int) % 256 % 256 = ((n % 256 : Nat) : Int) by omega]) ?_
      exact ih (n / 256) (by omega) _ (by omega) (by rw [List.length_append, List.length_singleton]; omega)
theorem rev_of (n : Nat) (hn : n < 18446744073709551616) : Ev (fun k => voussoirref01_Of.f k n) (N n) :=
  rof0 n [] hn (by have := (nb_length n 8).2 (by omega); simp; omega)
theorem rparse0 (s : ByteArray) (hs : s.size ≤ 1000) (r : Nat) : ∀ i : Nat, i + r = s.size → ((L s).take i).all dig = true →
    Ev (fun k => voussoirref01_Parse.l0 k s (N (dv ((L s).take i))) i) (if (L s).all dig = true then (N (dv (L s)), true) else ((⟨#[]⟩ : ByteArray), false)) := by
  have hL := L_length s
  induction r with
  | zero =>
    intro i hi hd
    rw [take_ge s i (by omega)] at hd ⊢
    rw [if_pos hd]
    exact Ev.step (fun k => by rw [voussoirref01_Parse.l0, if_neg (by omega)]) (Ev.now _)
  | succ r ih =>
    intro i hi hd
    have e1 := bt_L s i (by omega)
    have e2 := take_L s i (by omega)
    obtain ⟨c, hc⟩ : ∃ c, c = ((L s)[i]'(by omega)).toNat := ⟨_, rfl⟩
    rw [← hc] at e1
    have e3 := dv_snoc ((L s).take i) ((L s)[i]'(by omega))
    rw [← e2, ← hc] at e3
    have no : dig ((L s)[i]'(by omega)) = false → Ev (fun k => voussoirref01_Parse.j2 k s (N (dv ((L s).take i))) i true) (if (L s).all dig = true then (N (dv (L s)), true) else ((⟨#[]⟩ : ByteArray), false)) := fun h => by
      have : (L s).all dig = false := by
        cases ha : (L s).all dig with
        | false => rfl
        | true => rw [List.all_eq_true.1 ha _ (List.getElem_mem (by omega))] at h; cases h
      rw [this, if_neg (by decide)]
      exact Ev.step (fun k => by rw [voussoirref01_Parse.j2, if_pos rfl]) (Ev.now _)
    have hdg : dig ((L s)[i]'(by omega)) = (decide (48 ≤ c) && decide (c ≤ 57)) := by unfold dig; rw [← hc]
    by_cases h1 : c < 48
    · exact Ev.step (fun k => by rw [voussoirref01_Parse.l0, if_pos (by omega), if_pos (by omega), e1, if_pos (by omega)]) (no (by rw [hdg, decide_eq_false (by omega)]; rfl))
    by_cases h2 : c > 57
    · exact Ev.step (fun k => by rw [voussoirref01_Parse.l0, if_pos (by omega), if_pos (by omega), e1, if_neg (by omega), decide_eq_true (by omega)]) (no (by rw [hdg, decide_eq_false (p := c ≤ 57) (by omega), Bool.and_false]))
    have hdt : ((L s).take (i + 1)).all dig = true := by
      rw [e2, List.all_append, hd]
      simp only [List.all_cons, List.all_nil, Bool.and_true, Bool.true_and]
      rw [hdg, decide_eq_true (by omega), decide_eq_true (by omega)]
      rfl
    have s1 : (N (dv ((L s).take i))).size ≤ 1000 := Nat.le_trans (N_dv_size _ hd) (by rw [List.length_take]; omega)
    have m1 := rev_small (N (dv ((L s).take i))) 10 (by decide) (by omega)
    have s2 : (N (dv ((L s).take i) * 10)).size ≤ 1001 := Nat.le_trans ((N_size _ ((N (dv ((L s).take i))).size + 1)).2 (by
      have := (N_size (dv ((L s).take i)) _).1 (Nat.le_refl _)
      rw [Nat.pow_succ]
      omega)) (by omega)
    rw [V_N, show ((10 : Nat) : Int) = 10 from rfl] at m1
    have s3 : (N (c - 48)).size ≤ 1 := (N_size _ _).2 (by omega)
    have a1 := rev_add (N (dv ((L s).take i) * 10)) (N (c - 48)) (by omega) (by omega)
    rw [V_N, V_N, show dv ((L s).take i) * 10 + (c - 48) = dv ((L s).take (i + 1)) by omega] at a1
    refine Ev.step (fun k => by rw [voussoirref01_Parse.l0, if_pos (by omega), if_pos (by omega), e1, if_neg (by omega), decide_eq_false (by omega)]) ?_
    refine Ev.step (fun k => by rw [voussoirref01_Parse.j2, if_neg (by decide)]) ?_
    refine Ev.bind m1 (Ev.congr (fun k => by rw [if_pos (by omega), if_pos (by omega), e1, Int.emod_eq_of_lt (by omega) (by omega), show (c : Int) - 48 = ((c - 48 : Nat) : Int) by omega, w64 (by omega) (by omega), show (i : Int) + 1 = ((i + 1 : Nat) : Int) by omega]) ?_)
    exact Ev.bind (rev_of (c - 48) (by omega)) (Ev.bind a1 (ih (i + 1) (by omega) hdt))
theorem rev_parse (s : ByteArray) (hs : s.size ≤ 1000) : Ev (fun k => voussoirref01_Parse.f k s) (parseR s) := by
  have no : Ev (fun k => voussoirref01_Parse.j0 k s true) ((⟨#[]⟩ : ByteArray), false) := Ev.step (fun k => by rw [voussoirref01_Parse.j0, if_pos rfl]) (Ev.now _)
  by_cases h0 : s.size = 0
  · rw [parseR_no s (by rw [(L_nil s).2 h0]; rfl)]
    exact Ev.congr (fun k => by unfold voussoirref01_Parse.f; rw [if_pos (by omega)]) no
  have rest : (s.size ≤ 1 ∨ (L s).head? ≠ some 48) → Ev (fun k => voussoirref01_Parse.j0 k s false) (parseR s) := fun h1 => by
    refine Ev.step (fun k => by rw [voussoirref01_Parse.j0, if_neg (by decide)]) ?_
    have := rparse0 s hs s.size 0 (by omega) rfl
    rw [List.take_zero, show dv [] = 0 from rfl, N_zero] at this
    have e : (if (L s).all dig = true then (N (dv (L s)), true) else ((⟨#[]⟩ : ByteArray), false)) = parseR s := by
      cases hd : (L s).all dig with
      | false => rw [parseR_no s (num_false_dig hd), if_neg (by decide)]
      | true => rw [parseR_yes s (num_true (fun e => h0 ((L_nil s).1 e)) hd (by rw [L_length]; exact h1)), if_pos rfl]
    rw [e] at this
    exact this
  by_cases h48 : bt s 0 = 48
  · by_cases h1 : (s.size : Int) > 1
    · rw [parseR_no s (num_zero (by rw [L_length]; omega) ((bt_head s (by omega)).1 h48))]
      exact Ev.congr (fun k => by unfold voussoirref01_Parse.f; rw [if_neg (by omega), if_pos (by omega), if_pos h48, decide_eq_true h1]) no
    · exact Ev.congr (fun k => by unfold voussoirref01_Parse.f; rw [if_neg (by omega), if_pos (by omega), if_pos h48, decide_eq_false h1]) (rest (.inl (by omega)))
  · exact Ev.congr (fun k => by unfold voussoirref01_Parse.f; rw [if_neg (by omega), if_pos (by omega), if_neg h48]) (rest (.inr fun e => h48 ((bt_head s (by omega)).2 e)))
/-! ### the reference's Num and Text -/
theorem rnum0 (n : Nat) (hn : n < 18446744073709551616) (r : Nat) : r ≤ (N n).size → Ev (fun k => voussoirref01_Num.l0 k (N n) (val 256 ((nb n).drop r)) ((r : Int) - 1)) ((n : Int), true) := by
  have hbl : (nb n).length = (N n).size := by rw [← bytes_N, bytesOf_length]
  have h8 := (N_size n 8).2 (by omega)
  have up : ∀ i, i ≤ (nb n).length → 0 ≤ val 256 ((nb n).drop i) ∧ val 256 ((nb n).drop i) ≤ n := fun i hi => by
    have h1 := val_split 256 (nb n) i hi
    rw [val_nb] at h1
    have h2 := val_nonneg (B := 256) (by decide) (dig_take (dig_nb n) i)
    have h3 := val_nonneg (B := 256) (by decide) (dig_drop (dig_nb n) i)
    have h4 : (1 : Int) ≤ 256 ^ i := Int.pow_pos (by decide)
    have h5 := Int.mul_le_mul_of_nonneg_right h4 h3
    omega
  induction r with
  | zero =>
    intro hr
    rw [List.drop_zero, val_nb]
    exact Ev.step (fun k => by rw [voussoirref01_Num.l0, if_neg (by omega)]) (Ev.now _)
  | succ r ih =>
    intro hr
    have hb := bt_dig (N n) (r : Int)
    have h1 := up (r + 1) (by omega)
    have h2 := up r (by omega)
    have h3 := val_drop 256 (nb n) r (by omega)
    have h4 : bt (N n) (r : Int) = rd (nb n) (r : Int) := by rw [bt_nat, bytes_N]
    refine Ev.step (fun k => by rw [voussoirref01_Num.l0, show ((r + 1 : Nat) : Int) - 1 = (r : Int) by omega, if_pos (by omega), if_pos (by omega), if_pos (by omega), wu (n := val 256 ((nb n).drop (r + 1)) * 256) (by omega) (by omega), wu (n := bt (N n) (r : Int)) hb.1 (by omega), wu (by omega) (by omega), w64 (by omega) (by omega), show val 256 ((nb n).drop (r + 1)) * 256 + bt (N n) (r : Int) = val 256 ((nb n).drop r) by omega]) (ih (by omega))
theorem rev_num (a : ByteArray) (ha : a.size ≤ 67108864) : Ev (fun k => voussoirref01_Num.f k a) (u64R (V a)) := by
  unfold voussoirref01_Num.f u64R
  refine Ev.bind (rev_norm a ha) ?_
  have h8 := N_size (V a) 8
  by_cases h : V a < 18446744073709551616
  · have hs := h8.2 (by omega)
    rw [if_pos h]
    have := rnum0 (V a) h (N (V a)).size (Nat.le_refl _)
    rw [List.drop_eq_nil_of_le (by rw [← bytes_N, bytesOf_length]; exact Nat.le_refl _), show val 256 ([] : List Int) = 0 from rfl] at this
    exact Ev.congr (fun k => by rw [if_neg (by omega), w64 (by omega) (by omega)]) this
  · rw [if_neg h]
    exact Ev.congr (fun k => if_pos (by
      rcases Nat.lt_or_ge 8 (N (V a)).size with h' | h'
      · omega
      · exact absurd (h8.1 h') (by omega))) (Ev.now _)
theorem nine (x : Nat) (h : x < 10) : strOfNums [(IntKind.u64.wrap (48 + (x : Int))) % 256] = text x := by
  unfold text strOfNums
  rw [wu (by omega) (by omega), Int.emod_eq_of_lt (by omega) (by omega), Lib.decDigits_one h, show (48 : Int) + x = ((48 + x : Nat) : Int) by omega, List.map_singleton, Int.toNat_natCast]
theorem N_ten : (⟨#[10]⟩ : ByteArray) = N 10 := (N_V (a := ⟨#[10]⟩) (.inr (by decide))).symm
theorem rtext0 (n : Nat) : ∀ out : ByteArray, 0 < n → (N n).size ≤ 60000 → out.size + Lib.nDigits n ≤ 1000000 → Ev (fun k => voussoirref01_Text.l0 k (N n) out) (text n ++ out) := by
  induction n using Nat.strongRecOn with
  | _ n ih =>
    intro out h0 hs ho
    have d1 := rev_div (N n) (⟨#[10]⟩ : ByteArray) hs (by decide)
    rw [V_N, show V (⟨#[10]⟩ : ByteArray) = 10 from rfl] at d1
    unfold divR at d1
    rw [if_neg (by decide)] at d1
    have hm : n % 10 < 10 := Nat.mod_lt _ (by decide)
    have s1 : (N (n % 10)).size ≤ 1 := (N_size _ _).2 (by omega)
    have n1 := rev_num (N (n % 10)) (by omega)
    rw [V_N] at n1
    unfold u64R at n1
    rw [if_pos (by omega)] at n1
    have hts : (text (n % 10)).size = 1 := by rw [text_size, Lib.nDigits_small hm]
    refine Ev.step (fun k => by rw [voussoirref01_Text.l0, if_neg (fun e => by have := N_toList_nil.1 e; omega)]) ?_
    refine Ev.bind d1 (Ev.bind n1 (Ev.congr (fun k => by rw [Option.bind_some, nine _ hm]) ?_))
    by_cases h10 : n < 10
    · refine Ev.congr (fun k => by rw [if_pos (by rw [hts]; have := Lib.nDigits_pos n; omega)]) ?_
      dsimp only
      rw [Nat.div_eq_of_lt h10, Nat.mod_eq_of_lt h10]
      refine Ev.step (fun k => by rw [voussoirref01_Text.l0, if_pos (N_toList_nil.2 rfl), if_neg (fun e => by
        have := (nil_iff _).1 e
        rw [ByteArray.size_append, text_size, Lib.nDigits_small h10] at this
        omega)]) (Ev.now _)
    · rw [Lib.nDigits_big h10] at ho
      have e : text n ++ out = text (n / 10) ++ (text (n % 10) ++ out) := by
        rw [← ba_assoc]
        congr 1
        unfold text
        rw [ba_append, Lib.decDigits_one hm]
        congr 2
        rw [Lib.decDigits, dif_neg h10]
      rw [e]
      refine Ev.congr (fun k => by rw [if_pos (by rw [hts]; omega)]) ?_
      exact ih (n / 10) (by omega) _ (by omega) (Nat.le_trans ((N_size _ (N n).size).2 (Nat.lt_of_le_of_lt (Nat.div_le_self _ _) ((N_size n _).1 (Nat.le_refl _)))) hs) (by rw [ByteArray.size_append, hts]; omega)
theorem rev_text (a : ByteArray) (ha : a.size ≤ 10000) : Ev (fun k => voussoirref01_Text.f k a) (text (V a)) := by
  refine Ev.bind (rev_norm a (by omega)) ?_
  by_cases h : V a = 0
  · rw [h]
    have e : text 0 = (⟨#[48]⟩ : ByteArray) := by unfold text; rw [Lib.decDigits_one (by decide)]; rfl
    rw [e]
    exact Ev.step (fun k => by rw [voussoirref01_Text.l0, if_pos (N_toList_nil.2 rfl), if_pos (Lib.toList_data _)]) (Ev.now _)
  · have h3 : text (V a) ++ (⟨#[]⟩ : ByteArray) = text (V a) := by apply ByteArray.ext; rw [ByteArray.data_append]; simp
    have hd : Lib.nDigits (V a) ≤ 3 * a.size + 1 := nDigits_le (3 * a.size) (V a) (Nat.lt_of_lt_of_le (V_lt a) (by
      rw [show 3 * a.size + 1 = 3 * a.size + 1 from rfl, Nat.pow_succ, Nat.pow_mul]
      exact Nat.le_trans (Nat.pow_le_pow_left (by decide) _) (Nat.le_mul_of_pos_right _ (by decide))))
    have := rtext0 (V a) (⟨#[]⟩ : ByteArray) (by omega) (N_small (by omega)) (by rw [show (⟨#[]⟩ : ByteArray).size = 0 from rfl]; omega)
    rw [h3] at this
    exact this
end Go.Proofs.YtpokflilobkoaaaDoor.NatO
