/- LexerTokens: for every string the program's tokens are the reference's. No condition. -/
import Derived.Test.YtgdkgoeegipghaaLexC
namespace Go.Proofs.Ytgdkgoeegipghaa.Pure
open Go.RowKit Go.Proofs.YtgdkgoeegipghaaW.PrintWords Go.Proofs.Ytgdkgoeegipghaa.P Go.Proofs.Ytgdkgoeegipghaa.LexA Go.Proofs.Ytgdkgoeegipghaa.LexB Go.Proofs.Ytgdkgoeegipghaa.LexC
theorem LexerTokens : voussoirlaw19_LexerTokens.Pure := by
  intro s hs
  obtain ⟨K0, h0⟩ := alive
  by_cases hl : 3000 < s.size
  · refine ⟨K0, ?_⟩
    unfold voussoirlaw19_LexerTokens.f
    rw [h0 K0 (by omega), Option.bind_some, if_pos rfl, if_pos (by omega)]
  · obtain ⟨R, hR, ⟨K1, h1⟩, ⟨K2, h2⟩⟩ : ∃ R : List S × Int × Int, R.1.length ≤ 140737488351232 ∧ (∃ K, ∀ k, K ≤ k → lexer_Tokens.f k s = some R) ∧ (∃ K, ∀ k, K ≤ k → voussoirref19_Tokens.f k s = some R) := by
      by_cases hm : s.size ≤ 2000
      · obtain ⟨ts, e, h⟩ := lex_total s.size (bytesOf s) 0 (by rw [bytesOf_length]; omega)
        refine ⟨_, ?_, tokens_ev s hm h, rtokens_ev s hm h⟩
        have hn := lex_num h
        rw [bytesOf_length] at hn
        cases e with
        | none => simp [out]; omega
        | some x => simp [out]
      · exact ⟨_, by simp, tokens_long s (by omega), rtokens_long s (by omega)⟩
    obtain ⟨K3, h3⟩ := same_ev R.1 hR
    refine ⟨max K0 (max K1 (max K2 K3)), ?_⟩
    unfold voussoirlaw19_LexerTokens.f
    rw [h0 _ (by omega), Option.bind_some, if_pos rfl, if_neg (by omega), h1 _ (by omega), Option.bind_some, h2 _ (by omega), Option.bind_some, h3 _ (by omega), Option.bind_some, if_pos rfl, if_pos rfl]
    simp
end Go.Proofs.Ytgdkgoeegipghaa.Pure
