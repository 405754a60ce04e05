/- LexerSpaces: the tokens, each with a blank behind it and some blanks ahead, are the same tokens at new offsets. No condition. -/
import Derived.Test.YtgdkgoeegipghaaLexC
import Derived.Test.YtgdkgoeegipghaaPx6
namespace Go.Proofs.Ytgdkgoeegipghaa.Pure
open Go.RowKit Go.Proofs.YtgdkgoeegipghaaW.PrintWords Go.Proofs.Ytgdkgoeegipghaa.P Go.Proofs.Ytgdkgoeegipghaa.LexA Go.Proofs.Ytgdkgoeegipghaa.LexB Go.Proofs.Ytgdkgoeegipghaa.LexC
theorem repeat_one (c : UInt8) : ∀ n, Lib.repeatL [c] n = List.replicate n c
  | 0 => rfl
  | n + 1 => by rw [Lib.repeatL, repeat_one c n, List.replicate_succ]; rfl
theorem repeat_f (c : UInt8) (n : Nat) (hn : n ≤ 1000) : X.strings_Repeat.f (⟨#[c]⟩ : ByteArray) (n : Int) = some ⟨(List.replicate n c).toArray⟩ := by
  unfold X.strings_Repeat.f
  rw [if_pos ⟨by omega, by omega, by rw [Int.toNat_natCast]; show 1 * n ≤ _; omega⟩, Int.toNat_natCast]
  show some (⟨(Lib.repeatL [c] n).toArray⟩ : ByteArray) = _
  rw [repeat_one]
theorem bytes_rep (c : UInt8) (n : Nat) : bytesOf (⟨(List.replicate n c).toArray⟩ : ByteArray) = List.replicate n (c.toNat : Int) := by
  unfold bytesOf
  rw [List.map_replicate]
theorem rdS_at (pre rest : List S) (x : S) : rdS (pre ++ x :: rest) (pre.length : Int) = x := by
  show (pre ++ x :: rest).getD (pre.length : Int).toNat _ = _
  rw [Int.toNat_natCast, List.getD_eq_getElem?_getD, List.getElem?_append_right (Nat.le_refl _), Nat.sub_self]
  rfl
theorem bytes_mkb (l : List Int) (h : ∀ c ∈ l, 0 ≤ c ∧ c ≤ 255) : bytesOf (mkb l) = l := by
  unfold bytesOf mkb
  rw [List.map_map]
  conv => rhs; rw [← List.map_id l]
  apply List.map_congr_left
  intro c hc
  obtain ⟨h0, h1⟩ := h c hc
  show (((c.toNat.toUInt8).toNat : Nat) : Int) = c
  rw [Nat.toUInt8_eq, UInt8.toNat_ofNat', Nat.mod_eq_of_lt (by omega)]
  omega
theorem bytes_all (s : ByteArray) : ∀ c ∈ bytesOf s, 0 ≤ c ∧ c ≤ 255 := by
  intro c hc
  unfold bytesOf at hc
  obtain ⟨b, _, rfl⟩ := List.mem_map.1 hc
  have := b.toNat_lt
  omega
theorem lex_bytes {p : Nat} {l : List Int} {ts : List Tk} {e : Option (Nat × Int)} (h : Lex p l ts e) (hl : ∀ c ∈ l, 0 ≤ c ∧ c ≤ 255) : ∀ x ∈ ts, ∀ c ∈ x.t, 0 ≤ c ∧ c ≤ 255 := by
  induction h with
  | nil p => simp
  | blank h ih => exact ih (fun c hc => hl c (by simp [hc]))
  | err hc hb => simp
  | @tok p c r ts e hc hb h ih =>
    intro x hx
    rcases List.mem_cons.1 hx with rfl | hx
    · intro c' hc'; exact hl c' (List.mem_of_mem_take hc')
    · exact ih (fun c' hc' => hl c' (List.mem_of_mem_drop hc')) x hx
theorem mkb_size (l : List Int) : (mkb l).size = l.length := by
  unfold mkb
  show (l.map fun x : Int => x.toNat.toUInt8).toArray.size = _
  rw [List.size_toArray, List.length_map]
theorem spaces_loop (R : Bool) (len : Nat) (hlen : len ≤ 100000) : ∀ (rest : List Tk) (pre : List S) (text : ByteArray) (acc : List S), pre.length + rest.length = len → acc.length + rest.length ≤ 100000 → text.size + (cat rest).length ≤ 100000 →
    (∃ K, ∀ k, K ≤ k → voussoirlaw19_LexerSpaces.l0 k (text ++ mkb (cat rest)) (acc ++ (put text.size rest).map toS) (pre ++ rest.map toS) (len : Int) (len : Int) = some R) →
    ∃ K, ∀ k, K ≤ k → voussoirlaw19_LexerSpaces.l0 k text acc (pre ++ rest.map toS) (len : Int) (pre.length : Int) = some R := by
  intro rest
  induction rest with
  | nil =>
    intro pre text acc hp ha ht h
    simp only [cat, put, List.map_nil, List.flatten_nil, List.append_nil] at h ⊢
    have e : text ++ mkb [] = text := by apply bytes_inj; rw [bytes_append]; exact List.append_nil _
    rw [e] at h
    rw [show pre.length = len by simpa using hp]
    exact h
  | cons x rest ih =>
    intro pre text acc hp ha ht h
    simp only [List.length_cons] at hp ha
    have hcat : cat (x :: rest) = x.t ++ [32] ++ cat rest := by simp [cat]
    rw [hcat] at ht h
    simp only [List.length_append, List.length_singleton] at ht
    have e1 : text ++ (mkb x.t ++ (⟨#[32]⟩ : ByteArray)) ++ mkb (cat rest) = text ++ mkb (x.t ++ [32] ++ cat rest) := by
      have a1 : ∀ a b : List Int, mkb (a ++ b) = mkb a ++ mkb b := by
        intro a b
        unfold mkb
        rw [List.map_append]
        apply bytes_inj
        rw [bytes_append]
        unfold bytesOf
        show List.map _ (List.map _ a ++ List.map _ b) = _
        rw [List.map_append]
      rw [a1, a1]
      exact ByteArray.append_assoc
    have sz : (mkb x.t ++ (⟨#[32]⟩ : ByteArray)).size = x.t.length + 1 := by rw [ByteArray.size_append, mkb_size]; rfl
    obtain ⟨K, hK⟩ := ih (pre ++ [toS x]) (text ++ (mkb x.t ++ (⟨#[32]⟩ : ByteArray))) (acc ++ [toS ⟨x.k, x.t, text.size⟩])
      (by rw [List.length_append, List.length_singleton]; omega) (by rw [List.length_append, List.length_singleton]; omega) (by rw [ByteArray.size_append, sz]; omega) (by
        have e5 : acc ++ [toS ⟨x.k, x.t, text.size⟩] ++ (put (text.size + (x.t.length + 1)) rest).map toS = acc ++ (put text.size (x :: rest)).map toS := by simp [put]
        have e6 : pre ++ [toS x] ++ rest.map toS = pre ++ (x :: rest).map toS := by simp
        rw [e1, ByteArray.size_append, sz, e5, e6]
        exact h)
    refine ⟨K + 1, fun k hk => ?_⟩
    obtain ⟨k, rfl⟩ : ∃ m, k = m + 1 := ⟨k - 1, by omega⟩
    have e : rd_T31 (pre ++ (x :: rest).map toS) (pre.length : Int) = toS x := rdS_at pre (rest.map toS) (toS x)
    have hl : (pre ++ (x :: rest).map toS).length = len := by rw [List.length_append, List.length_map, List.length_cons]; omega
    rw [voussoirlaw19_LexerSpaces.l0, if_pos (by omega), if_pos (by omega), hl, if_pos (by omega), if_pos (by omega), e, if_pos (by show (mkb x.t).size + 1 ≤ _; rw [mkb_size]; omega)]
    rw [if_pos (by show text.size + (mkb x.t ++ (⟨#[32]⟩ : ByteArray)).size ≤ _; rw [sz]; omega), w64 (by omega) (by omega)]
    have := hK k (by omega)
    rw [List.append_assoc, List.length_append, List.length_singleton] at this
    simp only [Int.natCast_add, Int.natCast_one] at this
    exact this
theorem LexerSpaces : voussoirlaw19_LexerSpaces.Pure := by
  intro s a hs ha
  obtain ⟨K0, h0⟩ := alive
  have ha2 : 0 ≤ a ∧ a ≤ 255 := by
    simp [Lit.wf, IntKind.min, IntKind.max, IntKind.bits, IntKind.signed] at ha
    omega
  obtain ⟨n, rfl⟩ := Int.eq_ofNat_of_zero_le ha2.1
  have j0t : ∀ k (l : List S), voussoirlaw19_LexerSpaces.j0 (k + 1) (n : Int) l true = some true := fun k l => by rw [voussoirlaw19_LexerSpaces.j0, if_pos rfl]
  by_cases hm : s.size ≤ 2000
  · obtain ⟨ts, e, h⟩ := lex_total s.size (bytesOf s) 0 (by rw [bytesOf_length]; omega)
    obtain ⟨K1, h1⟩ := tokens_ev s hm h
    cases e with
    | some x =>
      obtain ⟨q, m⟩ := x
      obtain ⟨_, _, _, _, hn⟩ := lex_err h q m rfl
      refine ⟨max K0 K1 + 1, ?_⟩
      unfold voussoirlaw19_LexerSpaces.f
      rw [h0 _ (by omega), Option.bind_some, if_pos rfl, h1 _ (by omega), Option.bind_some, if_neg (show ¬ (out [] ts (some (q, m))).2.2 = 0 from hn), j0t]
    | none =>
      by_cases h850 : 850 < s.size
      · refine ⟨max K0 K1 + 1, ?_⟩
        unfold voussoirlaw19_LexerSpaces.f
        rw [h0 _ (by omega), Option.bind_some, if_pos rfl, h1 _ (by omega), Option.bind_some, if_pos (show (out [] ts none).2.2 = 0 from rfl)]
        rw [w64 (i := 2 * (s.size : Int)) (by omega) (by omega), w64 (by omega) (by omega), show decide (2 * (s.size : Int) + 300 > 2000) = true by simp; omega, j0t]
      · have hz := lex_size h
        have hnum := lex_num h
        rw [bytesOf_length] at hz hnum
        have hcatlen : (cat ts).length = (ts.map fun x => x.t.length + 1).sum := by
          unfold cat
          rw [List.length_flatten, List.map_map]
          congr 1
          apply List.map_congr_left
          intro x _
          simp
        have hlen : (ts.map toS).length = ts.length := List.length_map _
        have hb : ∀ c ∈ List.replicate n (32 : Int) ++ cat ts, 0 ≤ c ∧ c ≤ 255 := by
          intro c hc
          rcases List.mem_append.1 hc with hc | hc
          · rw [List.eq_of_mem_replicate hc]; omega
          · unfold cat at hc
            obtain ⟨l, hl, hc⟩ := List.mem_flatten.1 hc
            obtain ⟨x, hx, rfl⟩ := List.mem_map.1 hl
            rcases List.mem_append.1 hc with hc | hc
            · exact lex_bytes h (bytes_all s) x hx c hc
            · rw [List.mem_singleton.1 hc]; omega
        have htext : bytesOf ((⟨(List.replicate n (32 : UInt8)).toArray⟩ : ByteArray) ++ mkb (cat ts)) = List.replicate n 32 ++ cat ts := by
          rw [bytes_append, bytes_rep, bytes_mkb _ (fun c hc => hb c (by simp [hc]))]
          rfl
        have hsp : (⟨(List.replicate n (32 : UInt8)).toArray⟩ : ByteArray).size = n := by
          show (List.replicate n (32 : UInt8)).toArray.size = n
          simp
        have hlex : Lex 0 (bytesOf ((⟨(List.replicate n (32 : UInt8)).toArray⟩ : ByteArray) ++ mkb (cat ts))) (put n ts) none := by
          rw [htext]
          exact lex_blanks n (by rw [Nat.zero_add]; exact lex_cat ts (lex_good h) n)
        obtain ⟨K2, h2⟩ := tokens_ev _ (by rw [ByteArray.size_append, hsp, mkb_size]; omega) hlex
        have hput : ∀ (q : Nat) (l : List Tk), (put q l).length = l.length := by
          intro q l
          induction l generalizing q with
          | nil => rfl
          | cons x l ih => simp [put, ih]
        obtain ⟨K3, h3⟩ := same_ev ((put n ts).map toS) (by rw [List.length_map, hput]; omega)
        have hfin : ∃ K, ∀ k, K ≤ k → voussoirlaw19_LexerSpaces.l0 k ((⟨(List.replicate n (32 : UInt8)).toArray⟩ : ByteArray) ++ mkb (cat ts)) ([] ++ (put (⟨(List.replicate n (32 : UInt8)).toArray⟩ : ByteArray).size ts).map toS) ([] ++ ts.map toS) (ts.length : Int) (ts.length : Int) = some true := by
          refine ⟨max K2 K3 + 1, fun k hk => ?_⟩
          obtain ⟨k, rfl⟩ : ∃ m, k = m + 1 := ⟨k - 1, by omega⟩
          rw [hsp, List.nil_append, voussoirlaw19_LexerSpaces.l0, if_neg (by omega), h2 _ (by omega), Option.bind_some]
          rw [show (out [] (put n ts) none).1 = (put n ts).map toS from List.nil_append _, h3 _ (by omega), Option.bind_some, if_pos rfl]
          rfl
        obtain ⟨K4, h4⟩ := spaces_loop true ts.length (by omega) ts [] (⟨(List.replicate n (32 : UInt8)).toArray⟩ : ByteArray) [] (by simp) (by simp; omega) (by rw [hsp]; omega) hfin
        have hj : ∃ K, ∀ k, K ≤ k → voussoirlaw19_LexerSpaces.j0 k (n : Int) (ts.map toS) false = some true := by
          refine ⟨K4 + 1, fun k hk => ?_⟩
          obtain ⟨k, rfl⟩ : ∃ m, k = m + 1 := ⟨k - 1, by omega⟩
          rw [voussoirlaw19_LexerSpaces.j0, if_neg (by decide), w64 (by omega) (by omega), repeat_f 32 n (by omega), Option.bind_some, hlen]
          exact h4 k (by omega)
        obtain ⟨K5, h5⟩ := hj
        refine ⟨max K0 (max K1 K5), ?_⟩
        unfold voussoirlaw19_LexerSpaces.f
        rw [h0 _ (by omega), Option.bind_some, if_pos rfl, h1 _ (by omega), Option.bind_some, if_pos (show (out [] ts none).2.2 = 0 from rfl)]
        rw [w64 (i := 2 * (s.size : Int)) (by omega) (by omega), w64 (by omega) (by omega), show decide (2 * (s.size : Int) + 300 > 2000) = false by simp; omega]
        rw [show (out [] ts none).1 = ts.map toS from List.nil_append _]
        exact h5 _ (by omega)
  · obtain ⟨K1, h1⟩ := tokens_long s (by omega)
    refine ⟨max K0 K1 + 1, ?_⟩
    unfold voussoirlaw19_LexerSpaces.f
    rw [h0 _ (by omega), Option.bind_some, if_pos rfl, h1 _ (by omega), Option.bind_some, if_neg (by decide), j0t]
end Go.Proofs.Ytgdkgoeegipghaa.Pure
