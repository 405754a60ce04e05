import Derived.Test.YtliabkapejhohaaGreatDoorNatJ
import Derived.Test.YtliabkapejhohaaGreatDoorPxNatParse
import Derived.Lib.SlTrimSet
namespace Go.Proofs.YtliabkapejhohaaGreatDoor.NatN
open Go Go.RowKit Go.Proofs.YtliabkapejhohaaGreatDoorW.PrintWords Go.Proofs.YtliabkapejhohaaGreatDoorW.PrintLast Go.Proofs.YtliabkapejhohaaGreatDoor.P Go.Proofs.YtliabkapejhohaaGreatDoor.NatA Go.Proofs.YtliabkapejhohaaGreatDoor.NatB Go.Proofs.YtliabkapejhohaaGreatDoor.NatC Go.Proofs.YtliabkapejhohaaGreatDoor.NatD Go.Proofs.YtliabkapejhohaaGreatDoor.NatI Go.Proofs.YtliabkapejhohaaGreatDoor.NatJ
def dig (c : UInt8) : Bool := decide (48 ≤ c.toNat) && decide (c.toNat ≤ 57)
def dv (l : List UInt8) : Nat := l.foldl (fun n c => 10 * n + (c.toNat - 48)) 0
theorem dv_snoc (l : List UInt8) (c : UInt8) : dv (l ++ [c]) = 10 * dv l + (c.toNat - 48) := by unfold dv; rw [List.foldl_append]; rfl
theorem dig_iff (c : UInt8) : dig c = true ↔ 48 ≤ c.toNat ∧ c.toNat ≤ 57 := by unfold dig; rw [Bool.and_eq_true, decide_eq_true_iff, decide_eq_true_iff]
def num (l : List UInt8) : Bool := !l.isEmpty && l.all dig && (decide (l.length ≤ 1) || l.head? != some 48)
theorem rev_ind {P : List UInt8 → Prop} (h0 : P []) (h1 : ∀ l c, P l → P (l ++ [c])) (l : List UInt8) : P l := by
  have : ∀ n, ∀ l : List UInt8, l.length = n → P l := fun n => by
    induction n with
    | zero => intro l h; rw [List.length_eq_zero_iff.1 h]; exact h0
    | succ n ih =>
      intro l h
      have hne : l ≠ [] := fun e => by rw [e] at h; cases h
      rw [← List.dropLast_concat_getLast hne]
      exact h1 _ _ (ih _ (by rw [List.length_dropLast]; omega))
  exact this _ l rfl
theorem dv_lt (l : List UInt8) : l.all dig = true → dv l < 10 ^ l.length := by
  refine rev_ind (P := fun l => l.all dig = true → dv l < 10 ^ l.length) (fun _ => by simp [dv]) (fun l c ih hd => ?_) l
  rw [List.all_append, Bool.and_eq_true] at hd
  have hc : dig c = true := by simpa using hd.2
  rw [dig_iff] at hc
  have := ih hd.1
  rw [dv_snoc, List.length_append, List.length_singleton, Nat.pow_succ]
  omega
def L (s : ByteArray) : List UInt8 := s.data.toList
theorem L_length (s : ByteArray) : (L s).length = s.size := Array.length_toList
theorem bt_L (s : ByteArray) (i : Nat) (h : i < s.size) : bt s i = (((L s)[i]'(by rw [L_length]; exact h)).toNat : Int) := by
  unfold bt L
  rw [dif_pos (by rw [Int.toNat_natCast]; exact h)]
  simp only [Int.toNat_natCast, Array.getElem_toList]
  rfl
theorem take_L (s : ByteArray) (i : Nat) (h : i < s.size) : (L s).take (i + 1) = (L s).take i ++ [(L s)[i]'(by rw [L_length]; exact h)] := by
  rw [List.take_succ_eq_append_getElem (by rw [L_length]; exact h)]
def parseR (s : ByteArray) : ByteArray × Bool := if num (L s) = true then (N (dv (L s)), true) else ((⟨#[]⟩ : ByteArray), false)
theorem N_dv_size (l : List UInt8) (h : l.all dig = true) : (N (dv l)).size ≤ l.length := (N_size _ _).2 (Nat.lt_of_lt_of_le (dv_lt l h) (Nat.pow_le_pow_left (by decide) _))
theorem all_take {l : List UInt8} (h : l.all dig = true) (i : Nat) : (l.take i).all dig = true := List.all_eq_true.2 fun x hx => List.all_eq_true.1 h x (List.mem_of_mem_take hx)
theorem all_get {l : List UInt8} (h : l.all dig = true) (i : Nat) (hi : i < l.length) : 48 ≤ l[i].toNat ∧ l[i].toNat ≤ 57 := (dig_iff _).1 (List.all_eq_true.1 h _ (List.getElem_mem hi))
theorem dropWhile_nil {p : UInt8 → Bool} (l : List UInt8) : l.dropWhile p = [] ↔ l.all p = true := by
  induction l with
  | nil => simp
  | cons x r ih =>
    rw [List.dropWhile_cons, List.all_cons]
    cases h : p x with
    | true => simpa using ih
    | false => simp
theorem trim_nil (l cs : List UInt8) : Lib.trimS l cs = [] ↔ l.all (cs.contains ·) = true := by
  unfold Lib.trimS Lib.trimLeftS Lib.trimRightS
  rw [dropWhile_nil]
  constructor
  · intro h
    have h1 := List.takeWhile_append_dropWhile (p := (cs.contains ·)) (l := l.reverse)
    rw [← List.all_reverse, ← h1, List.all_append, Bool.and_eq_true]
    exact ⟨List.all_takeWhile, by rw [← List.all_reverse]; exact h⟩
  · intro h
    rw [List.all_reverse]
    rw [(dropWhile_nil _).2 (by rw [List.all_reverse]; exact h)]
    rfl
theorem contains_dig : ∀ c : UInt8, ([48, 49, 50, 51, 52, 53, 54, 55, 56, 57] : List UInt8).contains c = dig c := fun c => by
  have h : ∀ n : Fin 256, ([48, 49, 50, 51, 52, 53, 54, 55, 56, 57] : List UInt8).contains (UInt8.ofNat n.val) = dig (UInt8.ofNat n.val) := by decide +kernel
  have := h ⟨c.toNat, c.toNat_lt⟩
  rw [UInt8.ofNat_toNat] at this
  exact this
theorem trim_dig (s : ByteArray) (hs : s.size ≤ 1000) : ∃ t, X.strings_Trim.f s (⟨#[48, 49, 50, 51, 52, 53, 54, 55, 56, 57]⟩ : ByteArray) = some t ∧ (t.toList != ([] : List UInt8)) = !(L s).all dig := by
  refine ⟨⟨(Lib.trimS (L s) [48, 49, 50, 51, 52, 53, 54, 55, 56, 57]).toArray⟩, ?_, ?_⟩
  · unfold X.strings_Trim.f
    rw [if_pos ⟨by omega, by decide, by decide⟩]
    rfl
  · have h := trim_nil (L s) [48, 49, 50, 51, 52, 53, 54, 55, 56, 57]
    rw [show ((fun x => ([48, 49, 50, 51, 52, 53, 54, 55, 56, 57] : List UInt8).contains x) : UInt8 → Bool) = dig from funext contains_dig] at h
    rw [Lib.toList_data]
    show (Lib.trimS (L s) [48, 49, 50, 51, 52, 53, 54, 55, 56, 57] != []) = _
    cases hd : (L s).all dig with
    | true => rw [h.2 hd]; rfl
    | false =>
      have : Lib.trimS (L s) [48, 49, 50, 51, 52, 53, 54, 55, 56, 57] ≠ [] := fun e => by rw [h.1 e] at hd; cases hd
      exact bne_iff_ne.2 this
end Go.Proofs.YtliabkapejhohaaGreatDoor.NatN
