import Derived.Test.YtliabkapejhohaaGreatDoorNatN
namespace Go.Proofs.YtliabkapejhohaaGreatDoor.NatR
open Go Go.RowKit Go.Proofs.YtliabkapejhohaaGreatDoorW.PrintWords Go.Proofs.YtliabkapejhohaaGreatDoorW.PrintLast Go.Proofs.YtliabkapejhohaaGreatDoor.P Go.Proofs.YtliabkapejhohaaGreatDoor.NatA Go.Proofs.YtliabkapejhohaaGreatDoor.NatB Go.Proofs.YtliabkapejhohaaGreatDoor.NatC Go.Proofs.YtliabkapejhohaaGreatDoor.NatD Go.Proofs.YtliabkapejhohaaGreatDoor.NatI Go.Proofs.YtliabkapejhohaaGreatDoor.NatJ Go.Proofs.YtliabkapejhohaaGreatDoor.NatN
theorem parse1 (s : ByteArray) (hd : (L s).all dig = true) (hs : s.size ≤ 1000) (b e : Nat) (he : e ≤ s.size) (h9 : e ≤ b + 9) (hb : b ≤ s.size) (R : ByteArray × Bool)
    (K : Ev (fun k => nat_Parse.l0 k s (N (dv ((L s).take e))) ((b + 9 : Nat) : Int)) R) (r : Nat) : ∀ (i n p : Nat), i + r = e → b ≤ i → dv ((L s).take i) = dv ((L s).take b) * p + n → n < p → p = 10 ^ (i - b) →
    Ev (fun k => nat_Parse.l1 k s (N (dv ((L s).take b))) b e n p i) R := by
  have hL := L_length s
  induction r with
  | zero =>
    intro i n p hi hbi hv hn hp
    obtain rfl : i = e := by omega
    have hp9 : p ≤ 10 ^ 9 := by rw [hp]; exact Nat.pow_le_pow_right (by decide) (by omega)
    have s1 : (N (dv ((L s).take b))).size ≤ 1000 := Nat.le_trans (N_dv_size _ (all_take hd b)) (by rw [List.length_take]; omega)
    have s2 : (N p).size ≤ 8 := (N_size _ _).2 (by omega)
    have s3 : (N n).size ≤ 8 := (N_size _ _).2 (by omega)
    have m1 := ev_mul (N (dv ((L s).take b))) (N p) (by omega) (by omega)
    have s4 := N_size_mul (N (dv ((L s).take b))) (N p)
    rw [V_N, V_N] at m1 s4
    have a1 := ev_add (N (dv ((L s).take b) * p)) (N n) (by omega) (by omega)
    rw [V_N, V_N, ← hv] at a1
    refine Ev.step (fun k => by rw [nat_Parse.l1, if_neg (by omega), w64 (by omega) (by omega), show (b : Int) + 9 = ((b + 9 : Nat) : Int) by omega]) ?_
    exact Ev.bind (ev_from p (by omega)) (Ev.bind m1 (Ev.bind (ev_from n (by omega)) (Ev.bind a1 K)))
  | succ r ih =>
    intro i n p hi hbi hv hn hp
    have hp9 : p ≤ 10 ^ 8 := by rw [hp]; exact Nat.pow_le_pow_right (by decide) (by omega)
    have hg := all_get hd i (by omega)
    have e1 := bt_L s i (by omega)
    have e2 := take_L s i (by omega)
    obtain ⟨c, hc⟩ : ∃ c, c = ((L s)[i]'(by omega)).toNat := ⟨_, rfl⟩
    rw [← hc] at hg e1
    have e3 := dv_snoc ((L s).take i) ((L s)[i]'(by omega))
    rw [← e2, ← hc] at e3
    refine Ev.step (fun k => by rw [nat_Parse.l1, if_pos (by omega), if_pos (by omega), if_pos (by omega), e1, wu (n := 10 * (n : Int)) (by omega) (by omega), Int.emod_eq_of_lt (a := (c : Int) - 48) (by omega) (by omega), wu (n := 10 * (n : Int) + ((c : Int) - 48)) (by omega) (by omega), wu (n := 10 * (p : Int)) (by omega) (by omega), w64 (by omega) (by omega), show 10 * (n : Int) + ((c : Int) - 48) = ((10 * n + (c - 48) : Nat) : Int) by omega, show 10 * (p : Int) = ((10 * p : Nat) : Int) by omega, show (i : Int) + 1 = ((i + 1 : Nat) : Int) by omega]) ?_
    refine ih (i + 1) _ _ (by omega) (by omega) ?_ (by omega) (by rw [hp, show i + 1 - b = i - b + 1 by omega, Nat.pow_succ, Nat.mul_comm])
    rw [e3, hv]
    grind
theorem take_ge (s : ByteArray) (i : Nat) (h : s.size ≤ i) : (L s).take i = L s := List.take_of_length_le (by rw [L_length]; exact h)
theorem parse0 (s : ByteArray) (hd : (L s).all dig = true) (hs : s.size ≤ 1000) (m : Nat) : ∀ b : Nat, s.size ≤ b + 9 * m → b ≤ s.size + 9 → Ev (fun k => nat_Parse.l0 k s (N (dv ((L s).take b))) b) (N (dv (L s)), true) := by
  induction m with
  | zero =>
    intro b h1 h2
    rw [take_ge s b (by omega)]
    exact Ev.step (fun k => by rw [nat_Parse.l0, if_neg (by omega)]) (Ev.now _)
  | succ m ih =>
    intro b h1 h2
    by_cases hb : b < s.size
    · have K := ih (b + 9) (by omega) (by omega)
      by_cases h9 : s.size < b + 9
      · refine Ev.step (fun k => by rw [nat_Parse.l0, if_pos (by omega), w64 (by omega) (by omega), show mn ((b : Int) + 9) (s.size : Int) = (s.size : Int) by unfold mn; exact if_pos (by omega)]) ?_
        rw [take_ge s (b + 9) (by omega)] at K
        refine parse1 s hd hs b s.size (Nat.le_refl _) (by omega) (by omega) _ (by rw [take_ge s s.size (Nat.le_refl _)]; exact K) (s.size - b) b 0 1 (by omega) (Nat.le_refl _) (by omega) (by decide) (by rw [Nat.sub_self])
      · refine Ev.step (fun k => by rw [nat_Parse.l0, if_pos (by omega), w64 (by omega) (by omega), show mn ((b : Int) + 9) (s.size : Int) = ((b + 9 : Nat) : Int) by unfold mn; exact if_neg (by omega)]) ?_
        refine parse1 s hd hs b (b + 9) (by omega) (by omega) (by omega) _ K 9 b 0 1 (by omega) (Nat.le_refl _) (by omega) (by decide) (by rw [Nat.sub_self])
    · rw [take_ge s b (by omega)]
      exact Ev.step (fun k => by rw [nat_Parse.l0, if_neg (by omega)]) (Ev.now _)
theorem bt_head (s : ByteArray) (h : 0 < s.size) : bt s 0 = 48 ↔ (L s).head? = some 48 := by
  have e := bt_L s 0 h
  have hl : 0 < (L s).length := by rw [L_length]; exact h
  rw [List.head?_eq_getElem?, List.getElem?_eq_getElem hl]
  have e' : bt s 0 = (((L s)[0]'hl).toNat : Int) := e
  rw [e', Option.some.injEq, ← UInt8.toNat_inj]
  show _ ↔ _ = 48
  omega
theorem L_nil (s : ByteArray) : L s = [] ↔ s.size = 0 := by rw [← L_length, List.length_eq_zero_iff]
theorem parseR_no (s : ByteArray) (h : num (L s) = false) : parseR s = ((⟨#[]⟩ : ByteArray), false) := by unfold parseR; rw [h, if_neg (by decide)]
theorem parseR_yes (s : ByteArray) (h : num (L s) = true) : parseR s = (N (dv (L s)), true) := by unfold parseR; rw [if_pos h]
theorem num_false_dig {l : List UInt8} (h : l.all dig = false) : num l = false := by unfold num; rw [h, Bool.and_false, Bool.false_and]
theorem num_zero {l : List UInt8} (h : 1 < l.length) (h0 : l.head? = some 48) : num l = false := by
  unfold num
  rw [decide_eq_false (by omega), h0]
  simp
theorem num_true {l : List UInt8} (h : l ≠ []) (hd : l.all dig = true) (h1 : l.length ≤ 1 ∨ l.head? ≠ some 48) : num l = true := by
  unfold num
  rw [hd]
  rcases h1 with h1 | h1
  · simp [h, h1]
  · simp [h, bne_iff_ne, h1]
theorem ev_parse (s : ByteArray) (hs : s.size ≤ 1000) : Ev (fun k => nat_Parse.f k s) (parseR s) := by
  have no : Ev (fun k => nat_Parse.j0 k s true) ((⟨#[]⟩ : ByteArray), false) := Ev.step (fun k => by rw [nat_Parse.j0, if_pos rfl]) (Ev.now _)
  by_cases h0 : s.size = 0
  · rw [parseR_no s (by rw [(L_nil s).2 h0]; rfl)]
    exact Ev.congr (fun k => by unfold nat_Parse.f; rw [if_pos ((nil_iff s).2 h0)]) no
  obtain ⟨t, ht, htd⟩ := trim_dig s hs
  have rest : (s.size ≤ 1 ∨ (L s).head? ≠ some 48) → Ev (fun k => nat_Parse.j0 k s (t.toList != ([] : List UInt8))) (parseR s) := fun h1 => by
    rw [htd]
    cases hd : (L s).all dig with
    | false =>
      rw [parseR_no s (num_false_dig hd)]
      exact no
    | true =>
      rw [parseR_yes s (num_true (fun e => h0 ((L_nil s).1 e)) hd (by rw [L_length]; exact h1))]
      refine Ev.step (fun k => by rw [nat_Parse.j0, if_neg (by decide)]) ?_
      have := parse0 s hd hs 1000 0 (by omega) (by omega)
      rw [List.take_zero, show dv [] = 0 from rfl, N_zero] at this
      exact this
  by_cases h1 : (s.size : Int) > 1
  · by_cases h48 : bt s 0 = 48
    · rw [parseR_no s (num_zero (by rw [L_length]; omega) ((bt_head s (by omega)).1 h48))]
      exact Ev.congr (fun k => by unfold nat_Parse.f; rw [if_neg (fun e => h0 ((nil_iff s).1 e)), if_pos h1, if_pos (by omega), if_pos h48]) no
    · exact Ev.congr (fun k => by unfold nat_Parse.f; rw [if_neg (fun e => h0 ((nil_iff s).1 e)), if_pos h1, if_pos (by omega), if_neg h48, ht, Option.bind_some]) (rest (.inr fun e => h48 ((bt_head s (by omega)).2 e)))
  · exact Ev.congr (fun k => by unfold nat_Parse.f; rw [if_neg (fun e => h0 ((nil_iff s).1 e)), if_neg h1, ht, Option.bind_some]) (rest (.inl (by omega)))
end Go.Proofs.YtliabkapejhohaaGreatDoor.NatR
