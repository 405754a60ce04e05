/- LexerConcatenation: the tokens of two strings without errors, joined by a blank, are the tokens of the first and, with shifted offsets, those of the second. No condition. -/
import Derived.Test.YtgdkgoeegipghaaLexC
import Derived.Test.YtgdkgoeegipghaaPx6
namespace Go.Proofs.Ytgdkgoeegipghaa.Pure
open Go.RowKit Go.Proofs.YtgdkgoeegipghaaW.PrintWords Go.Proofs.Ytgdkgoeegipghaa.P Go.Proofs.Ytgdkgoeegipghaa.LexA Go.Proofs.Ytgdkgoeegipghaa.LexB Go.Proofs.Ytgdkgoeegipghaa.LexC
def shS (s : ByteArray) (x : S) : S := ⟨x.f0, x.f1, wrap64 (x.f2 + wrap64 ((s.size : Int) + 1))⟩
theorem rdS_get (xs : List S) (i : Nat) (h : i < xs.length) : rdS xs (i : Int) = xs[i] := by
  show xs.getD (i : Int).toNat _ = _
  rw [Int.toNat_natCast, List.getD_eq_getElem?_getD, List.getElem?_eq_getElem h]
  rfl
theorem lex_at {p : Nat} {l : List Int} {ts : List Tk} {e : Option (Nat × Int)} (h : Lex p l ts e) : ∀ x ∈ ts, x.p ≤ p + l.length := by
  induction h with
  | nil p => simp
  | blank h ih => intro x hx; have := ih x hx; rw [List.length_cons]; omega
  | err hc hb => simp
  | @tok p c r ts e hc hb h ih =>
    intro x hx
    rcases List.mem_cons.1 hx with rfl | hx
    · show p ≤ _; omega
    · have := ih x hx
      rw [List.length_drop] at this
      have := wk_le (c :: r)
      omega
theorem concat_loop (s t : ByteArray) (L : List S) (R : Bool) (hL : L.length ≤ 100000) : ∀ (n i : Nat) (acc : List S), i + n = L.length → acc.length + n ≤ 1000000 →
    (∃ K, ∀ k, K ≤ k → voussoirlaw19_LexerConcatenation.l0 k s t (acc ++ (L.drop i).map (shS s)) L (L.length : Int) (L.length : Int) = some R) →
    ∃ K, ∀ k, K ≤ k → voussoirlaw19_LexerConcatenation.l0 k s t acc L (L.length : Int) (i : Int) = some R := by
  intro n
  induction n with
  | zero =>
    intro i acc hi ha h
    rw [List.drop_eq_nil_of_le (by omega), List.map_nil, List.append_nil] at h
    rw [show i = L.length by omega]
    exact h
  | succ n ih =>
    intro i acc hi ha h
    have hlt : i < L.length := by omega
    obtain ⟨K, hK⟩ := ih (i + 1) (acc ++ [shS s L[i]]) (by omega) (by rw [List.length_append, List.length_singleton]; omega) (by
      rw [List.append_assoc, List.singleton_append, ← List.map_cons, ← List.drop_eq_getElem_cons hlt]; exact h)
    refine ⟨K + 1, fun k hk => ?_⟩
    obtain ⟨k, rfl⟩ : ∃ m, k = m + 1 := ⟨k - 1, by omega⟩
    have e : rd_T31 L (i : Int) = L[i] := rdS_get L i hlt
    rw [voussoirlaw19_LexerConcatenation.l0, if_pos (by omega), if_pos (by omega), if_pos (by omega), if_pos (by omega), e, w64 (i := (i : Int) + 1) (by omega) (by omega)]
    have := hK k (by omega)
    simp only [Int.natCast_add, Int.natCast_one] at this
    exact this
theorem LexerConcatenation : voussoirlaw19_LexerConcatenation.Pure := by
  intro s t hs ht
  obtain ⟨K0, h0⟩ := alive
  by_cases hl : 1500 < s.size + t.size
  · refine ⟨K0, ?_⟩
    unfold voussoirlaw19_LexerConcatenation.f
    rw [h0 K0 (by omega), Option.bind_some, if_pos rfl, w64 (by omega) (by omega), if_pos (by omega)]
  · obtain ⟨ts, e, h⟩ := lex_total s.size (bytesOf s) 0 (by rw [bytesOf_length]; omega)
    obtain ⟨us, f, g⟩ := lex_total t.size (bytesOf t) 0 (by rw [bytesOf_length]; omega)
    obtain ⟨K1, h1⟩ := tokens_ev s (by omega) h
    obtain ⟨K2, h2⟩ := tokens_ev t (by omega) g
    have j0t : ∀ k (a b : List S), voussoirlaw19_LexerConcatenation.j0 (k + 1) s t a b true = some true := fun k a b => by rw [voussoirlaw19_LexerConcatenation.j0, if_pos rfl]
    cases e with
    | some x =>
      obtain ⟨q, n⟩ := x
      obtain ⟨_, _, _, _, hn⟩ := lex_err h q n rfl
      refine ⟨max K0 (max K1 K2) + 1, ?_⟩
      unfold voussoirlaw19_LexerConcatenation.f
      rw [h0 _ (by omega), Option.bind_some, if_pos rfl, w64 (by omega) (by omega), if_neg (by omega), h1 _ (by omega), Option.bind_some, h2 _ (by omega), Option.bind_some]
      rw [if_neg (show ¬ (out [] ts (some (q, n))).2.2 = 0 from hn), j0t]
    | none =>
      cases f with
      | some x =>
        obtain ⟨q, n⟩ := x
        obtain ⟨_, _, _, _, hn⟩ := lex_err g q n rfl
        refine ⟨max K0 (max K1 K2) + 1, ?_⟩
        unfold voussoirlaw19_LexerConcatenation.f
        rw [h0 _ (by omega), Option.bind_some, if_pos rfl, w64 (by omega) (by omega), if_neg (by omega), h1 _ (by omega), Option.bind_some, h2 _ (by omega), Option.bind_some]
        rw [if_pos (show (out [] ts none).2.2 = 0 from rfl), show ((out [] us (some (q, n))).2.2 != 0) = true from bne_iff_ne.2 hn, j0t]
      | none =>
        have hcat : Lex 0 (bytesOf ((s ++ (⟨#[32]⟩ : ByteArray)) ++ t)) (ts ++ us.map (sh (s.size + 1))) none := by
          have hg := lex_shift g (s.size + 1)
          have := lex_concat h rfl (bytesOf t) (us := us.map (sh (s.size + 1))) (e' := none) (by rw [bytesOf_length, Nat.add_assoc]; exact hg)
          have e2 : bytesOf ((s ++ (⟨#[32]⟩ : ByteArray)) ++ t) = bytesOf s ++ 32 :: bytesOf t := by
            rw [bytes_append, bytes_append, List.append_assoc]
            rfl
          rw [e2]
          exact this
        have hsz : ((s ++ (⟨#[32]⟩ : ByteArray)) ++ t).size = s.size + 1 + t.size := by rw [ByteArray.size_append, ByteArray.size_append]; rfl
        have hsz1 : (s ++ (⟨#[32]⟩ : ByteArray)).size = s.size + 1 := by rw [ByteArray.size_append]; rfl
        obtain ⟨K3, h3⟩ := tokens_ev _ (by rw [hsz]; omega) hcat
        have hn := lex_num h
        have hn2 := lex_num g
        rw [bytesOf_length] at hn hn2
        have hat := lex_at g
        rw [bytesOf_length] at hat
        have hmap : (us.map toS).map (shS s) = (us.map (sh (s.size + 1))).map toS := by
          rw [List.map_map, List.map_map]
          apply List.map_congr_left
          intro x hx
          have := hat x hx
          show (⟨x.k, mkb x.t, wrap64 ((x.p : Int) + wrap64 ((s.size : Int) + 1))⟩ : S) = ⟨x.k, mkb x.t, ((x.p + (s.size + 1) : Nat) : Int)⟩
          rw [w64 (i := (s.size : Int) + 1) (by omega) (by omega), w64 (by omega) (by omega)]
          congr 1
        obtain ⟨K4, h4⟩ := same_ev ((ts ++ us.map (sh (s.size + 1))).map toS) (by rw [List.length_map, List.length_append, List.length_map]; omega)
        have hfin : ∃ K, ∀ k, K ≤ k → voussoirlaw19_LexerConcatenation.l0 k s t (ts.map toS ++ ((us.map toS).drop 0).map (shS s)) (us.map toS) ((us.map toS).length : Int) ((us.map toS).length : Int) = some true := by
          refine ⟨max K3 K4 + 1, fun k hk => ?_⟩
          obtain ⟨k, rfl⟩ : ∃ m, k = m + 1 := ⟨k - 1, by omega⟩
          rw [List.drop_zero, hmap, ← List.map_append, voussoirlaw19_LexerConcatenation.l0, if_neg (by omega), if_pos (by omega), hsz1, if_pos (by omega), h3 _ (by omega), Option.bind_some]
          rw [if_pos (show (out [] (ts ++ us.map (sh (s.size + 1))) none).2.2 = 0 from rfl), if_pos (show (out [] (ts ++ us.map (sh (s.size + 1))) none).2.1 = 0 from rfl)]
          rw [show (out [] (ts ++ us.map (sh (s.size + 1))) none).1 = (ts ++ us.map (sh (s.size + 1))).map toS from List.nil_append _, h4 _ (by omega), Option.bind_some]
        obtain ⟨K5, h5⟩ := concat_loop s t (us.map toS) true (by rw [List.length_map]; omega) (us.map toS).length 0 (ts.map toS) (by omega) (by rw [List.length_map, List.length_map]; omega) hfin
        have hj : ∃ K, ∀ k, K ≤ k → voussoirlaw19_LexerConcatenation.j0 k s t (out [] ts none).1 (out [] us none).1 ((out [] us none).2.2 != 0) = some true := by
          refine ⟨K5 + 1, fun k hk => ?_⟩
          obtain ⟨k, rfl⟩ : ∃ m, k = m + 1 := ⟨k - 1, by omega⟩
          rw [show (out [] ts none).1 = ts.map toS from List.nil_append _, show (out [] us none).1 = us.map toS from List.nil_append _, show ((out [] us none).2.2 != 0) = false from rfl]
          rw [voussoirlaw19_LexerConcatenation.j0, if_neg (by decide), Option.bind_some, List.nil_append, if_pos (by rw [List.length_nil, List.length_map]; omega)]
          exact h5 k (by omega)
        obtain ⟨K6, h6⟩ := hj
        refine ⟨max K0 (max K1 (max K2 K6)), ?_⟩
        unfold voussoirlaw19_LexerConcatenation.f
        rw [h0 _ (by omega), Option.bind_some, if_pos rfl, w64 (by omega) (by omega), if_neg (by omega), h1 _ (by omega), Option.bind_some, h2 _ (by omega), Option.bind_some]
        rw [if_pos (show (out [] ts none).2.2 = 0 from rfl)]
        exact h6 _ (by omega)
end Go.Proofs.Ytgdkgoeegipghaa.Pure
