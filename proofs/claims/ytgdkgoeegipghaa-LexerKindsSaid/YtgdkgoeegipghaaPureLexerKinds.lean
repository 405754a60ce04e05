/- LexerKinds: a token's text is one token of its kind; digits ahead of a name are a number of their own. No condition. -/
import Derived.Test.YtgdkgoeegipghaaPureLexerSpaces
import Derived.Test.YtgdkgoeegipghaaPx7
namespace Go.Proofs.Ytgdkgoeegipghaa.Pure
open Go.RowKit Go.Proofs.YtgdkgoeegipghaaW.PrintWords Go.Proofs.Ytgdkgoeegipghaa.P Go.Proofs.Ytgdkgoeegipghaa.LexA Go.Proofs.Ytgdkgoeegipghaa.LexB Go.Proofs.Ytgdkgoeegipghaa.LexC
theorem kinds_loop (n : Nat) (len : Nat) (hlen : len ≤ 100000) : ∀ (rest : List Tk) (pre : List S), pre.length + rest.length = len → (∀ x ∈ rest, LexA.Good x ∧ x.t.length ≤ 1000 ∧ ∀ c ∈ x.t, 0 ≤ c ∧ c ≤ 255) →
    ∃ K, ∀ k, K ≤ k → voussoirlaw19_LexerKinds.l0 k (n : Int) (pre ++ rest.map toS) (len : Int) (pre.length : Int) = some true := by
  intro rest
  induction rest with
  | nil =>
    intro pre hp _
    refine ⟨1, fun k hk => ?_⟩
    obtain ⟨k, rfl⟩ : ∃ m, k = m + 1 := ⟨k - 1, by omega⟩
    simp only [List.length_nil] at hp
    rw [voussoirlaw19_LexerKinds.l0, if_neg (by omega)]
  | cons x rest ih =>
    intro pre hp hx
    simp only [List.length_cons] at hp
    obtain ⟨hg, hsz, hby⟩ := hx x (by simp)
    have hbx : bytesOf (mkb x.t) = x.t := bytes_mkb x.t hby
    have hal := good_alone hg 0
    rw [← hbx] at hal
    obtain ⟨K1, h1⟩ := tokens_ev (mkb x.t) (by rw [mkb_size]; omega) hal
    rw [hbx] at h1
    obtain ⟨K2, h2⟩ := ih (pre ++ [toS x]) (by rw [List.length_append, List.length_singleton]; omega) (fun y hy => hx y (by simp [hy]))
    have e : rd_T31 (pre ++ (x :: rest).map toS) (pre.length : Int) = toS x := rdS_at pre (rest.map toS) (toS x)
    have hl : (pre ++ (x :: rest).map toS).length = len := by rw [List.length_append, List.length_map, List.length_cons]; omega
    have hnext : ∀ k, K2 ≤ k → voussoirlaw19_LexerKinds.l0 k (n : Int) (pre ++ (x :: rest).map toS) (len : Int) (wrap64 ((pre.length : Int) + 1)) = some true := by
      intro k hk
      have := h2 k hk
      rw [List.append_assoc, List.length_append, List.length_singleton] at this
      simp only [Int.natCast_add, Int.natCast_one] at this
      rw [w64 (by omega) (by omega)]
      exact this
    -- digits ahead of a name
    have hj : ∃ K, ∀ k, K ≤ k → voussoirlaw19_LexerKinds.j1 k (n : Int) (pre ++ (x :: rest).map toS) (len : Int) (pre.length : Int) false x.k (mkb x.t) (x.p : Int) = some true := by
      by_cases hk2 : x.k = 2
      · have hm : Int.tmod (n : Int) 9 = ((n % 9 : Nat) : Int) := rfl
        have hm9 : n % 9 < 9 := Nat.mod_lt _ (by omega)
        generalize n % 9 = m at hm hm9
        have hd : ∀ c ∈ List.replicate (1 + m) (55 : Int), c = 55 := fun c hc => List.eq_of_mem_replicate hc
        have hds : (⟨(List.replicate (1 + m) (55 : UInt8)).toArray⟩ : ByteArray).size = 1 + m := by
          show (List.replicate (1 + m) (55 : UInt8)).toArray.size = _
          simp
        have hlex := good_digits hg hk2 (List.replicate (1 + m) 55) hd (by rw [List.length_replicate]; omega) 0
        have htext : bytesOf ((⟨(List.replicate (1 + m) (55 : UInt8)).toArray⟩ : ByteArray) ++ mkb x.t) = List.replicate (1 + m) 55 ++ x.t := by
          rw [bytes_append, bytes_rep, hbx]
          rfl
        rw [← htext] at hlex
        obtain ⟨K3, h3⟩ := tokens_ev _ (by rw [ByteArray.size_append, hds, mkb_size]; omega) hlex
        have h3 : ∀ k, K3 ≤ k → lexer_Tokens.f k ((⟨(List.replicate (1 + m) (55 : UInt8)).toArray⟩ : ByteArray) ++ mkb x.t) = some (([toS ⟨1, List.replicate (1 + m) 55, 0⟩, toS ⟨2, x.t, 0 + (List.replicate (1 + m) (55 : Int)).length⟩] : List S), (0 : Int), (0 : Int)) := h3
        have edig : (mkb (List.replicate (1 + m) 55)).toList = (⟨(List.replicate (1 + m) (55 : UInt8)).toArray⟩ : ByteArray).toList := by
          have : mkb (List.replicate (1 + m) 55) = (⟨(List.replicate (1 + m) (55 : UInt8)).toArray⟩ : ByteArray) := by
            unfold mkb
            rw [List.map_replicate]
            rfl
          rw [this]
        obtain ⟨L2, e1, e1', e1'', e2, e3, e4, h3⟩ : ∃ L2 : List S, (L2.length : Int) = 2 ∧ 0 < (L2.length : Int) ∧ 1 < (L2.length : Int) ∧ (rd_T31 L2 0).f0 = 1 ∧ (rd_T31 L2 0).f1.toList = (⟨(List.replicate (1 + m) (55 : UInt8)).toArray⟩ : ByteArray).toList ∧ (rd_T31 L2 1).f1.toList = (mkb x.t).toList ∧ ∀ k, K3 ≤ k → lexer_Tokens.f k ((⟨(List.replicate (1 + m) (55 : UInt8)).toArray⟩ : ByteArray) ++ mkb x.t) = some (L2, (0 : Int), (0 : Int)) :=
          ⟨[toS ⟨1, List.replicate (1 + m) 55, 0⟩, toS ⟨2, x.t, 0 + (List.replicate (1 + m) (55 : Int)).length⟩], rfl, by simp, by simp, rfl, edig, rfl, h3⟩
        refine ⟨max K2 K3 + 1, fun k hk => ?_⟩
        obtain ⟨k, rfl⟩ : ∃ m, k = m + 1 := ⟨k - 1, by omega⟩
        rw [voussoirlaw19_LexerKinds.j1, if_neg (by decide), if_pos hk2, hm, w64 (i := (m : Int)) (by omega) (by omega), w64 (by omega) (by omega), show (1 : Int) + (m : Int) = ((1 + m : Nat) : Int) by omega, repeat_f 55 (1 + m) (by omega), Option.bind_some]
        rw [if_pos (by rw [hds, mkb_size]; omega), h3 _ (by omega), Option.bind_some]
        rw [if_pos rfl, if_pos e1, if_pos e1', if_pos e2, if_pos e3, if_pos e1'', if_pos e4]
        exact hnext k (by omega)
      · refine ⟨K2 + 1, fun k hk => ?_⟩
        obtain ⟨k, rfl⟩ : ∃ m, k = m + 1 := ⟨k - 1, by omega⟩
        rw [voussoirlaw19_LexerKinds.j1, if_neg (by decide), if_neg hk2]
        exact hnext k (by omega)
    obtain ⟨K4, h4⟩ := hj
    have h1 : ∀ k, K1 ≤ k → lexer_Tokens.f k (mkb x.t) = some (([toS ⟨x.k, x.t, 0⟩] : List S), (0 : Int), (0 : Int)) := h1
    obtain ⟨L1, d1, d1', d2, d3, d4, h1⟩ : ∃ L1 : List S, (L1.length : Int) = 1 ∧ 0 < (L1.length : Int) ∧ (rd_T31 L1 0).f0 = x.k ∧ (rd_T31 L1 0).f1.toList = (mkb x.t).toList ∧ ((rd_T31 L1 0).f2 != 0) = false ∧ ∀ k, K1 ≤ k → lexer_Tokens.f k (mkb x.t) = some (L1, (0 : Int), (0 : Int)) :=
      ⟨[toS ⟨x.k, x.t, 0⟩], rfl, by simp, rfl, rfl, rfl, h1⟩
    refine ⟨max K1 K4 + 1, fun k hk => ?_⟩
    obtain ⟨k, rfl⟩ : ∃ m, k = m + 1 := ⟨k - 1, by omega⟩
    rw [voussoirlaw19_LexerKinds.l0, if_pos (by omega), if_pos (by omega), hl, if_pos (by omega), e]
    rw [show (toS x).f1 = mkb x.t from rfl, show (toS x).f0 = x.k from rfl, show (toS x).f2 = (x.p : Int) from rfl]
    rw [h1 _ (by omega), Option.bind_some, if_pos rfl, if_pos d1, if_pos d1', if_pos d2, if_pos d3, d4]
    exact h4 k (by omega)
theorem LexerKinds : voussoirlaw19_LexerKinds.Pure := by
  intro s a hs ha
  obtain ⟨K0, h0⟩ := alive
  have ha2 : 0 ≤ a ∧ a ≤ 65535 := by
    simp [Lit.wf, IntKind.min, IntKind.max, IntKind.bits, IntKind.signed] at ha
    omega
  obtain ⟨n, rfl⟩ := Int.eq_ofNat_of_zero_le ha2.1
  by_cases hl : 1000 < s.size
  · refine ⟨K0, ?_⟩
    unfold voussoirlaw19_LexerKinds.f
    rw [h0 _ (by omega), Option.bind_some, if_pos rfl, if_pos (by omega)]
  · obtain ⟨ts, e, h⟩ := lex_total s.size (bytesOf s) 0 (by rw [bytesOf_length]; omega)
    obtain ⟨K1, h1⟩ := tokens_ev s (by omega) h
    cases e with
    | some x =>
      obtain ⟨q, m⟩ := x
      obtain ⟨_, _, _, _, hn⟩ := lex_err h q m rfl
      refine ⟨max K0 K1, ?_⟩
      unfold voussoirlaw19_LexerKinds.f
      rw [h0 _ (by omega), Option.bind_some, if_pos rfl, if_neg (by omega), h1 _ (by omega), Option.bind_some, if_neg (show ¬ (out [] ts (some (q, m))).2.2 = 0 from hn)]
    | none =>
      have hnum := lex_num h
      rw [bytesOf_length] at hnum
      have hlen : ∀ x ∈ ts, x.t.length ≤ 1000 := by
        have : ∀ {p : Nat} {l : List Int} {ts : List Tk} {e : Option (Nat × Int)}, Lex p l ts e → ∀ x ∈ ts, x.t.length ≤ l.length := by
          intro p l ts e h
          induction h with
          | nil p => simp
          | blank h ih => intro x hx; have := ih x hx; rw [List.length_cons]; omega
          | err hc hb => simp
          | @tok p c r ts e hc hb h ih =>
            intro x hx
            rcases List.mem_cons.1 hx with rfl | hx
            · show (List.take _ _).length ≤ _
              rw [List.length_take]; omega
            · have := ih x hx
              rw [List.length_drop] at this
              omega
        intro x hx
        have := this h x hx
        rw [bytesOf_length] at this
        omega
      obtain ⟨K2, h2⟩ := kinds_loop n ts.length (by omega) ts [] (by simp) (fun x hx => ⟨lex_good h x hx, hlen x hx, lex_bytes h (bytes_all s) x hx⟩)
      refine ⟨max K0 (max K1 K2), ?_⟩
      unfold voussoirlaw19_LexerKinds.f
      rw [h0 _ (by omega), Option.bind_some, if_pos rfl, if_neg (by omega), h1 _ (by omega), Option.bind_some, if_pos (show (out [] ts none).2.2 = 0 from rfl)]
      rw [show (out [] ts none).1 = ts.map toS from List.nil_append _, List.length_map]
      exact h2 _ (by omega)
end Go.Proofs.Ytgdkgoeegipghaa.Pure
