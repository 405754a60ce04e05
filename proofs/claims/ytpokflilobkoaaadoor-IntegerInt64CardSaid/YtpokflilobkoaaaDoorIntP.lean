/- Signed integers: Parse and Int64. -/
import Derived.Test.YtpokflilobkoaaaDoorIntA
import Derived.Test.YtpokflilobkoaaaDoorNatR
import Derived.Test.YtpokflilobkoaaaDoorPxIntegerParse
import Derived.Test.YtpokflilobkoaaaDoorPxIntegerInt64
namespace Go.Proofs.YtpokflilobkoaaaDoor.IntP
open Go Go.RowKit Go.Proofs.YtpokflilobkoaaaDoorW.PrintWords Go.Proofs.YtpokflilobkoaaaDoorW.PrintLast Go.Proofs.YtpokflilobkoaaaDoor.P Go.Proofs.YtpokflilobkoaaaDoor.NatA Go.Proofs.YtpokflilobkoaaaDoor.NatB Go.Proofs.YtpokflilobkoaaaDoor.NatC Go.Proofs.YtpokflilobkoaaaDoor.NatD Go.Proofs.YtpokflilobkoaaaDoor.NatI Go.Proofs.YtpokflilobkoaaaDoor.NatJ Go.Proofs.YtpokflilobkoaaaDoor.NatN Go.Proofs.YtpokflilobkoaaaDoor.NatR Go.Proofs.YtpokflilobkoaaaDoor.IntA

/-! ### Int64 -/
def i64R (z : Int) : Int × Bool := if -9223372036854775808 ≤ z ∧ z ≤ 9223372036854775807 then (z, true) else (0, false)
theorem ev_i64 (n : Bool) (m : ByteArray) (hm : m.size ≤ 67108864) : Ev (fun k => integer_Int64.f k n m) (i64R (Z n m)) := by
  have s1 := I_size n m hm
  unfold integer_Int64.f
  refine Ev.bind (ev_inorm n m hm) ?_
  generalize Z n m = z at *
  have u := ev_u64 (N z.natAbs) s1
  rw [V_N] at u
  refine Ev.bind u ?_
  have si : (I z).1 = decide (z < 0) := rfl
  unfold u64R i64R
  by_cases h : z.natAbs < 18446744073709551616
  · rw [if_pos h]
    refine Ev.congr (fun k => if_pos rfl) ?_
    by_cases hz : z < 0
    · refine Ev.congr (fun k => if_pos (decide_eq_true hz)) ?_
      by_cases hb : (z.natAbs : Int) ≤ 9223372036854775808
      · rw [if_pos (by omega)]
        refine Ev.step (fun k => by rw [integer_Int64.j0, if_pos (decide_eq_true hb), wu (by omega) (by omega), w64 (i := (z.natAbs : Int) - 1) (by omega) (by omega), w64 (i := -((z.natAbs : Int) - 1)) (by omega) (by omega), w64 (by omega) (by omega), show -((z.natAbs : Int) - 1) - 1 = z by omega]) (Ev.now _)
      · rw [if_neg (by omega)]
        exact Ev.step (fun k => by rw [integer_Int64.j0, if_neg (by rw [decide_eq_false hb]; decide), if_pos (by rw [si]; exact decide_eq_true hz)]) (Ev.now _)
    · refine Ev.congr (fun k => if_neg (by rw [si, decide_eq_false hz]; decide)) ?_
      by_cases hb : (z.natAbs : Int) ≤ 9223372036854775807
      · rw [if_pos (by omega)]
        refine Ev.step (fun k => by rw [integer_Int64.j0, if_neg (by decide), if_neg (by rw [si, decide_eq_false hz]; decide), if_pos hb, w64 (by omega) (by omega), show (z.natAbs : Int) = z by omega]) (Ev.now _)
      · rw [if_neg (by omega)]
        exact Ev.step (fun k => by rw [integer_Int64.j0, if_neg (by decide), if_neg (by rw [si, decide_eq_false hz]; decide), if_neg hb]) (Ev.now _)
  · rw [if_neg h, if_neg (by omega)]
    exact Ev.congr (fun k => if_neg (by decide)) (Ev.now _)
/-! ### Parse -/
/-- A string's first byte is a minus sign. -/
def neg (s : ByteArray) : Bool := decide ((L s).head? = some 45)
/-- What is left of a string without a minus sign at its head. -/
def body (s : ByteArray) : ByteArray := if neg s = true then s.extract 1 s.size else s
def iparseR (s : ByteArray) : Bool × ByteArray × Bool :=
  if num (L (body s)) = true ∧ ¬ (neg s = true ∧ dv (L (body s)) = 0) then ((I (sg (neg s) (dv (L (body s))))).1, (I (sg (neg s) (dv (L (body s))))).2, true) else (false, (⟨#[]⟩ : ByteArray), false)
theorem bt_neg (s : ByteArray) (h : 0 < s.size) : (bt s 0 == 45) = neg s := by
  have e := bt_L s 0 h
  have hl : 0 < (L s).length := by rw [L_length]; exact h
  unfold neg
  rw [Bool.eq_iff_iff, beq_iff_eq, decide_eq_true_iff, List.head?_eq_getElem?, List.getElem?_eq_getElem hl]
  have e' : bt s 0 = (((L s)[0]'hl).toNat : Int) := e
  rw [e', Option.some.injEq, ← UInt8.toNat_inj]
  show _ ↔ _ = 45
  omega
theorem neg_size {s : ByteArray} (h : neg s = true) : 0 < s.size := by
  unfold neg at h
  rw [decide_eq_true_iff] at h
  rcases Nat.eq_zero_or_pos s.size with h0 | h0
  · rw [(L_nil s).2 h0] at h
    cases h
  · exact h0
theorem neg_nil {s : ByteArray} (h : s.size = 0) : neg s = false := by
  cases hn : neg s with
  | false => rfl
  | true => have := neg_size hn; omega
theorem body_size (s : ByteArray) : (body s).size ≤ s.size := by
  unfold body
  split
  · rw [ByteArray.size_extract]; omega
  · exact Nat.le_refl _
theorem iparse1 (s : ByteArray) (hs : s.size ≤ 1000) : Ev (fun k => integer_Parse.j1 k (body s) (neg s)) (iparseR s) := by
  have hb := body_size s
  have p := ev_parse (body s) (by omega)
  refine Ev.step (fun k => by rw [integer_Parse.j1]) (Ev.bind p ?_)
  cases hn : num (L (body s)) with
  | false =>
    have R : iparseR s = (false, (⟨#[]⟩ : ByteArray), false) := by unfold iparseR; exact if_neg (fun e => by rw [hn] at e; cases e.1)
    rw [R, parseR_no _ hn]
    exact Ev.congr (fun k => if_neg (by decide)) (Ev.now _)
  | true =>
    rw [parseR_yes _ hn]
    refine Ev.congr (fun k => if_pos rfl) ?_
    have Y : ¬ (neg s = true ∧ dv (L (body s)) = 0) → iparseR s = ((I (sg (neg s) (dv (L (body s))))).1, (I (sg (neg s) (dv (L (body s))))).2, true) := fun h => by unfold iparseR; exact if_pos ⟨hn, h⟩
    cases hg : neg s with
    | false =>
      rw [Y (fun e => by rw [hg] at e; cases e.1), hg]
      exact Ev.congr (fun k => by rw [if_neg (by decide), iof, Option.bind_some]) (Ev.now _)
    | true =>
      refine Ev.congr (fun k => if_pos rfl) ?_
      by_cases h0 : dv (L (body s)) = 0
      · have R : iparseR s = (false, (⟨#[]⟩ : ByteArray), false) := by unfold iparseR; exact if_neg (fun e => e.2 ⟨hg, h0⟩)
        rw [R]
        exact Ev.congr (fun k => if_pos (N_toList_nil.2 h0)) (Ev.now _)
      · rw [Y (fun e => h0 e.2), hg]
        exact Ev.congr (fun k => by rw [if_neg (fun e => h0 (N_toList_nil.1 e)), iof, Option.bind_some]) (Ev.now _)
theorem ev_iparse (s : ByteArray) (hs : s.size ≤ 1000) : Ev (fun k => integer_Parse.f k s) (iparseR s) := by
  have K := iparse1 s hs
  have g : Ev (fun k => integer_Parse.j0 k s (neg s)) (iparseR s) := by
    cases hg : neg s with
    | false =>
      rw [hg, show body s = s by unfold body; rw [hg, if_neg (by decide)]] at K
      exact Ev.step (fun k => by rw [integer_Parse.j0, if_neg (by decide)]) K
    | true =>
      have := neg_size hg
      rw [hg, show body s = s.extract 1 s.size by unfold body; rw [hg, if_pos rfl]] at K
      exact Ev.step (fun k => by rw [integer_Parse.j0, if_pos rfl, if_pos (by omega)]) K
  by_cases h : (s.size : Int) > 0
  · exact Ev.congr (fun k => by unfold integer_Parse.f; rw [if_pos h, if_pos h, bt_neg s (by omega)]) g
  · rw [neg_nil (by omega)] at g
    exact Ev.congr (fun k => by unfold integer_Parse.f; rw [if_neg h]) g
/-! ### Parse reads back what Format wrote -/
theorem L_text (n : Nat) : L (text n) = Lib.decDigits n := by unfold L text; rw [List.toList_toArray]
theorem L_itext_neg {z : Int} (h : z < 0) : L (itext z) = 45 :: Lib.decDigits z.natAbs := by
  unfold itext
  rw [if_pos h]
  unfold L
  rw [ByteArray.data_append, Array.toList_append]
  show [45] ++ L (text z.natAbs) = _
  rw [L_text]
  rfl
theorem L_itext_pos {z : Int} (h : ¬ z < 0) : L (itext z) = Lib.decDigits z.natAbs := by
  unfold itext
  rw [if_neg h, L_text]
theorem L_extract1 (s : ByteArray) : L (s.extract 1 s.size) = (L s).drop 1 := by
  unfold L
  rw [ByteArray.data_extract, Array.toList_extract, List.extract_eq_take_drop]
  refine List.take_of_length_le ?_
  rw [List.length_drop, Array.length_toList]
  exact Nat.le_refl _
theorem iparse_itext (z : Int) : iparseR (itext z) = ((I z).1, (I z).2, true) := by
  by_cases h : z < 0
  · have hg : neg (itext z) = true := by unfold neg; rw [L_itext_neg h]; exact decide_eq_true rfl
    have hb : L (body (itext z)) = Lib.decDigits z.natAbs := by unfold body; rw [if_pos hg, L_extract1, L_itext_neg h]; rfl
    unfold iparseR
    rw [hb, hg, dv_dec, if_pos ⟨num_dec _, fun e => by have := e.2; omega⟩, show sg true z.natAbs = z by unfold sg; rw [if_pos rfl]; omega]
  · have hg : neg (itext z) = false := by
      unfold neg
      rw [L_itext_pos h]
      refine decide_eq_false (fun e => ?_)
      have hm := List.all_eq_true.1 (dec_dig z.natAbs) 45 (List.mem_of_mem_head? (by rw [e]; rfl))
      cases hm
    have hb : L (body (itext z)) = Lib.decDigits z.natAbs := by unfold body; rw [if_neg (by rw [hg]; decide), L_itext_pos h]
    unfold iparseR
    rw [hb, hg, dv_dec, if_pos ⟨num_dec _, fun e => by cases e.1⟩, show sg false z.natAbs = z by unfold sg; rw [if_neg (by decide)]; omega]
theorem itext_size (z : Int) : (itext z).size ≤ Lib.nDigits z.natAbs + 1 := by
  unfold itext
  split
  · rw [ByteArray.size_append, text_size, show (⟨#[45]⟩ : ByteArray).size = 1 from rfl]; omega
  · rw [text_size]; omega
end Go.Proofs.YtpokflilobkoaaaDoor.IntP
