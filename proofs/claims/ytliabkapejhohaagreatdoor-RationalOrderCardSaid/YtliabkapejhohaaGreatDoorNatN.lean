/- Decimal numerals read back: numerals, Trim at the digits. -/
import Derived.Test.YtliabkapejhohaaGreatDoorNatJ
import Derived.Test.YtliabkapejhohaaGreatDoorPxNatParse
import Derived.Lib.SlTrimSet
namespace Go.Proofs.YtliabkapejhohaaGreatDoor.NatN
open Go Go.RowKit Go.Proofs.YtliabkapejhohaaGreatDoorW.PrintWords Go.Proofs.YtliabkapejhohaaGreatDoorW.PrintLast Go.Proofs.YtliabkapejhohaaGreatDoor.P Go.Proofs.YtliabkapejhohaaGreatDoor.NatA Go.Proofs.YtliabkapejhohaaGreatDoor.NatB Go.Proofs.YtliabkapejhohaaGreatDoor.NatC Go.Proofs.YtliabkapejhohaaGreatDoor.NatD Go.Proofs.YtliabkapejhohaaGreatDoor.NatI Go.Proofs.YtliabkapejhohaaGreatDoor.NatJ

/-! ### numerals -/
def dig (c : UInt8) : Bool := decide (48 ≤ c.toNat) && decide (c.toNat ≤ 57)
/-- The number that digits tell. -/
def dv (l : List UInt8) : Nat := l.foldl (fun n c => 10 * n + (c.toNat - 48)) 0
theorem dv_snoc (l : List UInt8) (c : UInt8) : dv (l ++ [c]) = 10 * dv l + (c.toNat - 48) := by unfold dv; rw [List.foldl_append]; rfl
theorem dig_iff (c : UInt8) : dig c = true ↔ 48 ≤ c.toNat ∧ c.toNat ≤ 57 := by unfold dig; rw [Bool.and_eq_true, decide_eq_true_iff, decide_eq_true_iff]
/-- A numeral: digits alone, at least one, and none ahead of it that is 0. -/
def num (l : List UInt8) : Bool := !l.isEmpty && l.all dig && (decide (l.length ≤ 1) || l.head? != some 48)
theorem ofNat48 {d : Nat} (h : d < 10) : (UInt8.ofNat (48 + d)).toNat = 48 + d := by rw [UInt8.toNat_ofNat']; omega
theorem dec_dig (n : Nat) : (Lib.decDigits n).all dig = true := by
  induction n using Nat.strongRecOn with
  | _ n ih =>
    rw [Lib.decDigits]
    split
    · rename_i h
      simp only [List.all_cons, List.all_nil, Bool.and_true]
      rw [dig_iff, ofNat48 h]
      omega
    · rw [List.all_append, ih (n / 10) (by omega)]
      simp only [List.all_cons, List.all_nil, Bool.and_true, Bool.true_and]
      rw [dig_iff, ofNat48 (Nat.mod_lt _ (by decide))]
      omega
theorem dv_dec (n : Nat) : dv (Lib.decDigits n) = n := by
  induction n using Nat.strongRecOn with
  | _ n ih =>
    rw [Lib.decDigits]
    split
    · rename_i h
      have := dv_snoc [] (UInt8.ofNat (48 + n))
      rw [List.nil_append, ofNat48 h] at this
      rw [this]
      simp [dv]
    · rw [dv_snoc, ih (n / 10) (by omega), ofNat48 (Nat.mod_lt _ (by decide))]
      omega
theorem dec_ne (n : Nat) : Lib.decDigits n ≠ [] := fun e => by
  have h := Lib.decDigits_length n
  have h1 := Lib.nDigits_pos n
  rw [e, List.length_nil] at h
  omega
theorem head_append {l m : List UInt8} (h : l ≠ []) : (l ++ m).head? = l.head? := by
  cases l with
  | nil => exact absurd rfl h
  | cons => rfl
theorem dec_head (n : Nat) (h : 0 < n) : (Lib.decDigits n).head? ≠ some 48 := by
  induction n using Nat.strongRecOn with
  | _ n ih =>
    rw [Lib.decDigits]
    split
    · rename_i h1
      intro e
      have e1 : UInt8.ofNat (48 + n) = 48 := by simpa using e
      have := congrArg UInt8.toNat e1
      rw [ofNat48 h1] at this
      have : (48 : UInt8).toNat = 48 := rfl
      omega
    · rw [head_append (dec_ne _)]
      exact ih (n / 10) (by omega) (by omega)
theorem num_dec (n : Nat) : num (Lib.decDigits n) = true := by
  unfold num
  rw [dec_dig, Bool.and_true]
  have h1 : (Lib.decDigits n).isEmpty = false := by
    cases h : Lib.decDigits n with
    | nil => exact absurd h (dec_ne n)
    | cons => rfl
  rw [h1]
  by_cases h : n = 0
  · subst h
    rw [Lib.decDigits_one (by decide)]
    rfl
  · have := dec_head n (by omega)
    simp [bne_iff_ne, this]
theorem rev_ind {P : List UInt8 → Prop} (h0 : P []) (h1 : ∀ l c, P l → P (l ++ [c])) (l : List UInt8) : P l := by
  have : ∀ n, ∀ l : List UInt8, l.length = n → P l := fun n => by
    induction n with
    | zero => intro l h; rw [List.length_eq_zero_iff.1 h]; exact h0
    | succ n ih =>
      intro l h
      have hne : l ≠ [] := fun e => by rw [e] at h; cases h
      rw [← List.dropLast_concat_getLast hne]
      exact h1 _ _ (ih _ (by rw [List.length_dropLast]; omega))
  exact this _ l rfl
theorem dv_pos (l : List UInt8) : l ≠ [] → l.all dig = true → l.head? ≠ some 48 → 0 < dv l := by
  refine rev_ind (P := fun l => l ≠ [] → l.all dig = true → l.head? ≠ some 48 → 0 < dv l) (fun h => absurd rfl h) (fun l c ih _ hd hh => ?_) l
  rw [List.all_append, Bool.and_eq_true] at hd
  rw [dv_snoc]
  by_cases hl : l = []
  · subst hl
    have hc : dig c = true := by simpa using hd.2
    rw [dig_iff] at hc
    have hne : c.toNat ≠ 48 := fun e => hh (by
      show some c = some 48
      congr 1
      exact UInt8.toNat_inj.1 e)
    omega
  · have := ih hl hd.1 (by rw [head_append hl] at hh; exact hh)
    omega
/-- A numeral is the one that its number has. -/
theorem dec_dv (l : List UInt8) : num l = true → Lib.decDigits (dv l) = l := by
  refine rev_ind (P := fun l => num l = true → Lib.decDigits (dv l) = l) (fun h => by cases h) (fun l c ih h => ?_) l
  unfold num at h
  simp only [Bool.and_eq_true, Bool.or_eq_true, decide_eq_true_iff, bne_iff_ne, ne_eq, List.all_append] at h
  obtain ⟨⟨_, hd, hc⟩, hh⟩ := h
  have hc : dig c = true := by simpa using hc
  rw [dig_iff] at hc
  have hcc : UInt8.ofNat (48 + (c.toNat - 48)) = c := UInt8.toNat_inj.1 (by rw [UInt8.toNat_ofNat']; omega)
  rw [dv_snoc]
  by_cases hl : l = []
  · subst hl
    rw [show 10 * dv [] + (c.toNat - 48) = c.toNat - 48 by simp [dv], Lib.decDigits_one (by omega), hcc]
    rfl
  · have hne : l.length ≠ 0 := fun e => hl (List.length_eq_zero_iff.1 e)
    have hh' : ¬ l.head? = some 48 := by
      rcases hh with hh | hh
      · rw [List.length_append, List.length_singleton] at hh
        omega
      · rw [head_append hl] at hh
        exact hh
    have hp := dv_pos l hl hd hh'
    rw [Lib.decDigits, dif_neg (by omega), show (10 * dv l + (c.toNat - 48)) / 10 = dv l by omega, show (10 * dv l + (c.toNat - 48)) % 10 = c.toNat - 48 by omega, hcc, ih (by
      unfold num
      simp [hl, hd, bne_iff_ne, hh'])]
theorem dv_lt (l : List UInt8) : l.all dig = true → dv l < 10 ^ l.length := by
  refine rev_ind (P := fun l => l.all dig = true → dv l < 10 ^ l.length) (fun _ => by simp [dv]) (fun l c ih hd => ?_) l
  rw [List.all_append, Bool.and_eq_true] at hd
  have hc : dig c = true := by simpa using hd.2
  rw [dig_iff] at hc
  have := ih hd.1
  rw [dv_snoc, List.length_append, List.length_singleton, Nat.pow_succ]
  omega
/-! ### a string's bytes -/
def L (s : ByteArray) : List UInt8 := s.data.toList
theorem L_length (s : ByteArray) : (L s).length = s.size := Array.length_toList
theorem bt_L (s : ByteArray) (i : Nat) (h : i < s.size) : bt s i = (((L s)[i]'(by rw [L_length]; exact h)).toNat : Int) := by
  unfold bt L
  rw [dif_pos (by rw [Int.toNat_natCast]; exact h)]
  simp only [Int.toNat_natCast, Array.getElem_toList]
  rfl
theorem take_L (s : ByteArray) (i : Nat) (h : i < s.size) : (L s).take (i + 1) = (L s).take i ++ [(L s)[i]'(by rw [L_length]; exact h)] := by
  rw [List.take_succ_eq_append_getElem (by rw [L_length]; exact h)]
def parseR (s : ByteArray) : ByteArray × Bool := if num (L s) = true then (N (dv (L s)), true) else ((⟨#[]⟩ : ByteArray), false)
theorem N_dv_size (l : List UInt8) (h : l.all dig = true) : (N (dv l)).size ≤ l.length := (N_size _ _).2 (Nat.lt_of_lt_of_le (dv_lt l h) (Nat.pow_le_pow_left (by decide) _))
theorem all_take {l : List UInt8} (h : l.all dig = true) (i : Nat) : (l.take i).all dig = true := List.all_eq_true.2 fun x hx => List.all_eq_true.1 h x (List.mem_of_mem_take hx)
theorem all_get {l : List UInt8} (h : l.all dig = true) (i : Nat) (hi : i < l.length) : 48 ≤ l[i].toNat ∧ l[i].toNat ≤ 57 := (dig_iff _).1 (List.all_eq_true.1 h _ (List.getElem_mem hi))
/-! ### Trim at the digits -/
theorem dropWhile_nil {p : UInt8 → Bool} (l : List UInt8) : l.dropWhile p = [] ↔ l.all p = true := by
  induction l with
  | nil => simp
  | cons x r ih =>
    rw [List.dropWhile_cons, List.all_cons]
    cases h : p x with
    | true => simpa using ih
    | false => simp
theorem trim_nil (l cs : List UInt8) : Lib.trimS l cs = [] ↔ l.all (cs.contains ·) = true := by
  unfold Lib.trimS Lib.trimLeftS Lib.trimRightS
  rw [dropWhile_nil]
  constructor
  · intro h
    have h1 := List.takeWhile_append_dropWhile (p := (cs.contains ·)) (l := l.reverse)
    rw [← List.all_reverse, ← h1, List.all_append, Bool.and_eq_true]
    exact ⟨List.all_takeWhile, by rw [← List.all_reverse]; exact h⟩
  · intro h
    rw [List.all_reverse]
    rw [(dropWhile_nil _).2 (by rw [List.all_reverse]; exact h)]
    rfl
theorem contains_dig : ∀ c : UInt8, ([48, 49, 50, 51, 52, 53, 54, 55, 56, 57] : List UInt8).contains c = dig c := fun c => by
  have h : ∀ n : Fin 256, ([48, 49, 50, 51, 52, 53, 54, 55, 56, 57] : List UInt8).contains (UInt8.ofNat n.val) = dig (UInt8.ofNat n.val) := by decide +kernel
  have := h ⟨c.toNat, c.toNat_lt⟩
  rw [UInt8.ofNat_toNat] at this
  exact this
theorem trim_dig (s : ByteArray) (hs : s.size ≤ 1000) : ∃ t, X.strings_Trim.f s (⟨#[48, 49, 50, 51, 52, 53, 54, 55, 56, 57]⟩ : ByteArray) = some t ∧ (t.toList != ([] : List UInt8)) = !(L s).all dig := by
  refine ⟨⟨(Lib.trimS (L s) [48, 49, 50, 51, 52, 53, 54, 55, 56, 57]).toArray⟩, ?_, ?_⟩
  · unfold X.strings_Trim.f
    rw [if_pos ⟨by omega, by decide, by decide⟩]
    rfl
  · have h := trim_nil (L s) [48, 49, 50, 51, 52, 53, 54, 55, 56, 57]
    rw [show ((fun x => ([48, 49, 50, 51, 52, 53, 54, 55, 56, 57] : List UInt8).contains x) : UInt8 → Bool) = dig from funext contains_dig] at h
    rw [Lib.toList_data]
    show (Lib.trimS (L s) [48, 49, 50, 51, 52, 53, 54, 55, 56, 57] != []) = _
    cases hd : (L s).all dig with
    | true => rw [h.2 hd]; rfl
    | false =>
      have : Lib.trimS (L s) [48, 49, 50, 51, 52, 53, 54, 55, 56, 57] ≠ [] := fun e => by rw [h.1 e] at hd; cases hd
      exact bne_iff_ne.2 this
end Go.Proofs.YtliabkapejhohaaGreatDoor.NatN
