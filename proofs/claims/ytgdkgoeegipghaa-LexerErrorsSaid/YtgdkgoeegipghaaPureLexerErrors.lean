/- LexerErrors: the stretch ahead of an error is free of errors, and the rest causes the same error behind any string that is free of errors. No condition. -/
import Derived.Test.YtgdkgoeegipghaaLexC
import Derived.Test.YtgdkgoeegipghaaPx6
namespace Go.Proofs.Ytgdkgoeegipghaa.Pure
open Go.RowKit Go.Proofs.YtgdkgoeegipghaaW.PrintWords Go.Proofs.Ytgdkgoeegipghaa.P Go.Proofs.Ytgdkgoeegipghaa.LexA Go.Proofs.Ytgdkgoeegipghaa.LexB Go.Proofs.Ytgdkgoeegipghaa.LexC
theorem LexerErrors : voussoirlaw19_LexerErrors.Pure := by
  intro s good hs hg
  obtain ⟨K0, h0⟩ := alive
  by_cases hl : 1500 < s.size + good.size
  · refine ⟨K0, ?_⟩
    unfold voussoirlaw19_LexerErrors.f
    rw [h0 K0 (by omega), Option.bind_some, if_pos rfl, w64 (by omega) (by omega), if_pos (by omega)]
  · obtain ⟨ts, e, h⟩ := lex_total s.size (bytesOf s) 0 (by rw [bytesOf_length]; omega)
    obtain ⟨K1, h1⟩ := tokens_ev s (by omega) h
    cases e with
    | none =>
      refine ⟨max K0 K1, ?_⟩
      unfold voussoirlaw19_LexerErrors.f
      rw [h0 _ (by omega), Option.bind_some, if_pos rfl, w64 (by omega) (by omega), if_neg (by omega), h1 _ (by omega), Option.bind_some]
      simp [out]
    | some x =>
      obtain ⟨q, n⟩ := x
      have h1 : ∀ k, K1 ≤ k → lexer_Tokens.f k s = some (([] : List S), (q : Int), n) := h1
      obtain ⟨_, hq, ⟨us, h2⟩, h3, hn⟩ := lex_err h q n rfl
      rw [Nat.sub_zero, bytesOf_length] at hq
      rw [Nat.sub_zero] at h2 h3
      have e1 : bytesOf (s.extract 0 q) = (bytesOf s).take q := by rw [bytes_extract]; rfl
      rw [← e1] at h2
      obtain ⟨K2, hk2⟩ := tokens_ev (s.extract 0 q) (by rw [ByteArray.size_extract]; omega) h2
      have hk2 : ∀ k, K2 ≤ k → lexer_Tokens.f k (s.extract 0 q) = some (([] : List S) ++ us.map toS, (0 : Int), (0 : Int)) := hk2
      obtain ⟨gs, ge, hgood⟩ := lex_total good.size (bytesOf good) 0 (by rw [bytesOf_length]; omega)
      obtain ⟨K3, hk3⟩ := tokens_ev good (by omega) hgood
      have hsz : (good ++ (⟨#[32]⟩ : ByteArray)).size + (s.extract q s.size).size ≤ 2000 := by
        rw [ByteArray.size_append, ByteArray.size_extract]
        show good.size + 1 + _ ≤ 2000
        omega
      cases ge with
      | some y =>
        obtain ⟨q2, n2⟩ := y
        obtain ⟨_, _, _, _, hn2⟩ := lex_err hgood q2 n2 rfl
        have hk3 : ∀ k, K3 ≤ k → lexer_Tokens.f k good = some (([] : List S), (q2 : Int), n2) := hk3
        refine ⟨max K0 (max K1 (max K2 K3)), ?_⟩
        unfold voussoirlaw19_LexerErrors.f
        rw [h0 _ (by omega), Option.bind_some, if_pos rfl, w64 (by omega) (by omega), if_neg (by omega), h1 _ (by omega), Option.bind_some]
        dsimp only
        rw [if_neg hn, if_pos (by omega), if_pos (by omega), Int.toNat_natCast, hk2 _ (by omega), Option.bind_some]
        dsimp only
        rw [if_pos rfl, hk3 _ (by omega), Option.bind_some]
        dsimp only
        rw [if_neg hn2]
      | none =>
        have hk3 : ∀ k, K3 ≤ k → lexer_Tokens.f k good = some (([] : List S) ++ gs.map toS, (0 : Int), (0 : Int)) := hk3
        have hcat : Lex 0 (bytesOf ((good ++ (⟨#[32]⟩ : ByteArray)) ++ s.extract q s.size)) (gs ++ []) (some (good.size + 1, n)) := by
          have := lex_concat hgood rfl ((bytesOf s).drop q) (h3 (0 + (bytesOf good).length + 1))
          rw [bytesOf_length, Nat.zero_add] at this
          have e2 : bytesOf ((good ++ (⟨#[32]⟩ : ByteArray)) ++ s.extract q s.size) = bytesOf good ++ 32 :: (bytesOf s).drop q := by
            rw [bytes_append, bytes_append, bytes_extract, List.take_of_length_le (by rw [List.length_drop, bytesOf_length]; omega), List.append_assoc]
            rfl
          rw [e2]
          exact this
        obtain ⟨K4, hk4⟩ := tokens_ev _ (by rw [ByteArray.size_append]; exact hsz) hcat
        have hk4 : ∀ k, K4 ≤ k → lexer_Tokens.f k ((good ++ (⟨#[32]⟩ : ByteArray)) ++ s.extract q s.size) = some (([] : List S), ((good.size + 1 : Nat) : Int), n) := hk4
        refine ⟨max K0 (max K1 (max K2 (max K3 K4))), ?_⟩
        unfold voussoirlaw19_LexerErrors.f
        rw [h0 _ (by omega), Option.bind_some, if_pos rfl, w64 (by omega) (by omega), if_neg (by omega), h1 _ (by omega), Option.bind_some]
        dsimp only
        rw [if_neg hn, if_pos (by omega), if_pos (by omega), Int.toNat_natCast, hk2 _ (by omega), Option.bind_some]
        dsimp only
        rw [if_pos rfl, hk3 _ (by omega), Option.bind_some]
        dsimp only
        rw [if_pos rfl, if_pos (by omega)]
        rw [if_pos (by omega), hk4 _ (by omega), Option.bind_some, w64 (by omega) (by omega)]
        dsimp only
        rw [if_pos (by omega)]
        simp
end Go.Proofs.Ytgdkgoeegipghaa.Pure
