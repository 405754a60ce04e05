import Derived.Test.YtjefbecmeobegaaGreatDoorSpB
import Derived.Test.YtjefbecmeobegaaGreatDoorSpE
import Derived.Test.YtjefbecmeobegaaGreatDoorTr1
namespace Go.Proofs.YtjefbecmeobegaaGreatDoor.Sp
open Go Go.RowKit Go.Proofs.YtjefbecmeobegaaGreatDoor.Sx Go.Proofs.YtjefbecmeobegaaGreatDoor.NatA Go.Proofs.YtjefbecmeobegaaGreatDoor.NatB Go.Proofs.YtjefbecmeobegaaGreatDoor.NatC Go.Proofs.YtjefbecmeobegaaGreatDoor.NatD Go.Proofs.YtjefbecmeobegaaGreatDoor.NatI Go.Proofs.YtjefbecmeobegaaGreatDoor.NatJ Go.Proofs.YtjefbecmeobegaaGreatDoor.IntZ Go.Proofs.YtjefbecmeobegaaGreatDoor.RatZ Go.Proofs.YtjefbecmeobegaaGreatDoor.PtZ
theorem aD2 (x y : Int) (R : Bool) : ((I x).1 == (I y).1 && (aAO (.string (I x).2) (.string (I y).2) && R)) = (decide (x = y) && R) := by
 rw [← Bool.and_assoc]
 congr 1
 have := aNE x y
 have e : aAz [.bool (I x).1, .string (I x).2] [.bool (I y).1, .string (I y).2] = ((I x).1 == (I y).1 && (aAO (.string (I x).2) (.string (I y).2) && true)) := rfl
 rw [← this, e, Bool.and_true]
theorem aEM (x y : Rat) (R : Bool) : ((I x.num).1 == (I y.num).1 && (aAO (.string (I x.num).2) (.string (I y.num).2) && (aAO (.string (dnc x.den)) (.string (dnc y.den)) && R))) = (decide (x = y) && R) := by
 have := aND x y
 have e : aAz [.bool (I x.num).1, .string (I x.num).2, .string (dnc x.den)] [.bool (I y.num).1, .string (I y.num).2, .string (dnc y.den)] = ((I x.num).1 == (I y.num).1 && (aAO (.string (I x.num).2) (.string (I y.num).2) && (aAO (.string (dnc x.den)) (.string (dnc y.den)) && true))) := rfl
 rw [← this, e, Bool.and_true, Bool.and_assoc, Bool.and_assoc]
abbrev vz (z : Int) : List Value := [.bool (I z).1, .string (I z).2]
abbrev vq (q : Rat) : List Value := [.bool (I q.num).1, .string (I q.num).2, .string (dnc q.den)]
abbrev v4 (p : Z4) : List Value := vz p.1 ++ (vz p.2.1 ++ (vz p.2.2.1 ++ vz p.2.2.2))
abbrev v3 (v : V3) : List Value := vq v.1 ++ (vq v.2.1 ++ vq v.2.2)
theorem aKU (p q : Z4) : aAz (v4 p) (v4 q) = decide (p = q) := by
 obtain ⟨x, y, z, w⟩ := p
 obtain ⟨x', y', z', w'⟩ := q
 have e : aAz (v4 (x, y, z, w)) (v4 (x', y', z', w')) = ((I x).1 == (I x').1 && (aAO (.string (I x).2) (.string (I x').2) && ((I y).1 == (I y').1 && (aAO (.string (I y).2) (.string (I y').2) && ((I z).1 == (I z').1 && (aAO (.string (I z).2) (.string (I z').2) && ((I w).1 == (I w').1 && (aAO (.string (I w).2) (.string (I w').2) && true)))))))) := rfl
 rw [e, aD2, aD2, aD2, aD2, Bool.eq_iff_iff]
 simp only [Bool.and_true, Bool.and_eq_true, decide_eq_true_iff, Prod.mk.injEq]
theorem aPy (p q : V3) : aAz (v3 p) (v3 q) = decide (p = q) := by
 obtain ⟨x, y, z⟩ := p
 obtain ⟨x', y', z'⟩ := q
 have e : aAz (v3 (x, y, z)) (v3 (x', y', z')) = ((I x.num).1 == (I x'.num).1 && (aAO (.string (I x.num).2) (.string (I x'.num).2) && (aAO (.string (dnc x.den)) (.string (dnc x'.den)) && ((I y.num).1 == (I y'.num).1 && (aAO (.string (I y.num).2) (.string (I y'.num).2) && (aAO (.string (dnc y.den)) (.string (dnc y'.den)) && ((I z.num).1 == (I z'.num).1 && (aAO (.string (I z.num).2) (.string (I z'.num).2) && (aAO (.string (dnc z.den)) (.string (dnc z'.den)) && true))))))))) := rfl
 rw [e, aEM, aEM, aEM, Bool.eq_iff_iff]
 simp only [Bool.and_true, Bool.and_eq_true, decide_eq_true_iff, Prod.mk.injEq]
theorem eq_4 (k : Bool) (p q : Z4) : (Pu.bin .eql 25 k).run Tryz.prog [.agg (enc4 p), .agg (enc4 q)] = some (b_ (decide (p = q))) := by
 rw [← aKU]
 exact (aFa (P := Tryz.prog) (t := 25) k (ks := [.b, .s, .b, .s, .b, .s, .b, .s]) (by kernel_rfl) (by kernel_rfl) (xs := v4 p) (ys := v4 q) rfl rfl).1
theorem ne_4 (k : Bool) (p q : Z4) : (Pu.bin .neq 25 k).run Tryz.prog [.agg (enc4 p), .agg (enc4 q)] = some (b_ (!decide (p = q))) := by
 rw [← aKU]
 exact (aFa (P := Tryz.prog) (t := 25) k (ks := [.b, .s, .b, .s, .b, .s, .b, .s]) (by kernel_rfl) (by kernel_rfl) (xs := v4 p) (ys := v4 q) rfl rfl).2
theorem aMB (u v : V3) : decide (pt u = pt v) = decide (u = v) := by
 rw [Bool.eq_iff_iff, decide_eq_true_iff, decide_eq_true_iff]
 exact aQI
theorem aL7 (k : Bool) (u v : V3) : (Pu.bin .eql 25 k).run Tryz.prog [.agg (aAr u), .agg (aAr v)] = some (b_ (decide (u = v))) := by rw [← aMB]; exact eq_4 k _ _
theorem aJh (k : Bool) (u v : V3) : (Pu.bin .neq 25 k).run Tryz.prog [.agg (aAr u), .agg (aAr v)] = some (b_ (!decide (u = v))) := by rw [← aMB]; exact ne_4 k _ _
theorem aMC (k : Bool) (u v : V3) : (Pu.bin .eql 29 k).run Tryz.prog [.agg (aCj u), .agg (aCj v)] = some (b_ (decide (u = v))) := by
 rw [← aPy]
 exact (aFa (P := Tryz.prog) (t := 29) k (ks := [.b, .s, .s, .b, .s, .s, .b, .s, .s]) (by kernel_rfl) (by kernel_rfl) (xs := v3 u) (ys := v3 v) rfl rfl).1
def aAH : Fct
 | [.v (.bool _), .v (.string a), .v (.bool _), .v (.string b), .v (.bool _), .v (.string c), .v (.bool _), .v (.string d)] => some [i_ (if a.size ≤ 6 ∧ b.size ≤ 6 ∧ c.size ≤ 6 ∧ d.size ≤ 6 then 0 else 1)]
 | _ => none
def aBP : Fct
 | [.v (.bool _), .v (.string a), .v (.string b), .v (.bool _), .v (.string c), .v (.string d), .v (.bool _), .v (.string e), .v (.string f)] => some [i_ (if a.size ≤ 6 ∧ b.size ≤ 6 ∧ c.size ≤ 6 ∧ d.size ≤ 6 ∧ e.size ≤ 6 ∧ f.size ≤ 6 then 0 else 1)]
 | _ => none
theorem aBu : Tryz.prog.underlying 9 = some .string := by kernel_rfl
theorem aCk {n k : Nat} (h : decide ((n : Int) > (k : Int)) = false) : n ≤ k := by
 have := of_decide_eq_false h
 omega
theorem aCl {n k : Nat} (h : decide ((n : Int) > (k : Int)) = true) : ¬ n ≤ k := by
 have := of_decide_eq_true h
 omega
theorem g_great : Sx.Good Tryz.prog X.G 69 ⟨[.agg 8], .v1 .one⟩ aAH := aAj (tb := []) trivial (fun _ _ => X.G_below) 400 (by kernel_rfl) (by kernel_rfl : _ = some aEI) fun ds rs h => by
 unfold aAH at h
 split at h
 ·rename_i a _ b _ c _ d
  obtain rfl := Option.some.inj h
  refine ⟨0, ?_⟩
  refine aAd (by kernel_rfl) (aBD aBu a) (aAd (by kernel_rfl) (aBi _ _ .i64 (a.size : Int) 6) (aA2 (b := decide ((a.size : Int) > 6)) (by kernel_rfl) (fun h1 => ?_) (fun h1 => ?_)))
  ·rw [if_neg (fun hh => aCl (k := 6) h1 hh.1)]
   exact aAe (by kernel_rfl)
  refine aAd (by kernel_rfl) (aBD aBu b) (aAd (by kernel_rfl) (aBi _ _ .i64 (b.size : Int) 6) (aA2 (b := decide ((b.size : Int) > 6)) (by kernel_rfl) (fun h2 => ?_) (fun h2 => ?_)))
  ·rw [if_neg (fun hh => aCl (k := 6) h2 hh.2.1)]
   exact aAe (by kernel_rfl)
  refine aAd (by kernel_rfl) (aBD aBu c) (aAd (by kernel_rfl) (aBi _ _ .i64 (c.size : Int) 6) (aA2 (b := decide ((c.size : Int) > 6)) (by kernel_rfl) (fun h3 => ?_) (fun h3 => ?_)))
  ·rw [if_neg (fun hh => aCl (k := 6) h3 hh.2.2.1)]
   exact aAe (by kernel_rfl)
  refine aAd (by kernel_rfl) (aBD aBu d) (aAd (by kernel_rfl) (aBi _ _ .i64 (d.size : Int) 6) (aA2 (b := decide ((d.size : Int) > 6)) (by kernel_rfl) (fun h4 => ?_) (fun h4 => ?_)))
  ·rw [if_neg (fun hh => aCl (k := 6) h4 hh.2.2.2)]
   exact aAe (by kernel_rfl)
  ·rw [if_pos ⟨aCk (k := 6) h1, aCk (k := 6) h2, aCk (k := 6) h3, aCk (k := 6) h4⟩]
   exact aAe (by kernel_rfl)
 ·cases h
theorem g_wide : Sx.Good Tryz.prog X.G 18 ⟨[.agg 9], .v1 .one⟩ aBP := aAj (tb := []) trivial (fun _ _ => X.G_below) 400 (by kernel_rfl) (by kernel_rfl : _ = some aFr) fun ds rs h => by
 unfold aBP at h
 split at h
 ·rename_i a b _ c d _ e f
  obtain rfl := Option.some.inj h
  refine ⟨0, ?_⟩
  refine aAd (by kernel_rfl) (aBD aBu a) (aAd (by kernel_rfl) (aBi _ _ .i64 (a.size : Int) 6) (aA2 (b := decide ((a.size : Int) > 6)) (by kernel_rfl) (fun h1 => ?_) (fun h1 => ?_)))
  ·rw [if_neg (fun hh => aCl (k := 6) h1 hh.1)]
   exact aAe (by kernel_rfl)
  refine aAd (by kernel_rfl) (aBD aBu b) (aAd (by kernel_rfl) (aBi _ _ .i64 (b.size : Int) 6) (aA2 (b := decide ((b.size : Int) > 6)) (by kernel_rfl) (fun h2 => ?_) (fun h2 => ?_)))
  ·rw [if_neg (fun hh => aCl (k := 6) h2 hh.2.1)]
   exact aAe (by kernel_rfl)
  refine aAd (by kernel_rfl) (aBD aBu c) (aAd (by kernel_rfl) (aBi _ _ .i64 (c.size : Int) 6) (aA2 (b := decide ((c.size : Int) > 6)) (by kernel_rfl) (fun h3 => ?_) (fun h3 => ?_)))
  ·rw [if_neg (fun hh => aCl (k := 6) h3 hh.2.2.1)]
   exact aAe (by kernel_rfl)
  refine aAd (by kernel_rfl) (aBD aBu d) (aAd (by kernel_rfl) (aBi _ _ .i64 (d.size : Int) 6) (aA2 (b := decide ((d.size : Int) > 6)) (by kernel_rfl) (fun h4 => ?_) (fun h4 => ?_)))
  ·rw [if_neg (fun hh => aCl (k := 6) h4 hh.2.2.2.1)]
   exact aAe (by kernel_rfl)
  refine aAd (by kernel_rfl) (aBD aBu e) (aAd (by kernel_rfl) (aBi _ _ .i64 (e.size : Int) 6) (aA2 (b := decide ((e.size : Int) > 6)) (by kernel_rfl) (fun h5 => ?_) (fun h5 => ?_)))
  ·rw [if_neg (fun hh => aCl (k := 6) h5 hh.2.2.2.2.1)]
   exact aAe (by kernel_rfl)
  refine aAd (by kernel_rfl) (aBD aBu f) (aAd (by kernel_rfl) (aBi _ _ .i64 (f.size : Int) 6) (aA2 (b := decide ((f.size : Int) > 6)) (by kernel_rfl) (fun h6 => ?_) (fun h6 => ?_)))
  ·rw [if_neg (fun hh => aCl (k := 6) h6 hh.2.2.2.2.2)]
   exact aAe (by kernel_rfl)
  ·rw [if_pos ⟨aCk (k := 6) h1, aCk (k := 6) h2, aCk (k := 6) h3, aCk (k := 6) h4, aCk (k := 6) h5, aCk (k := 6) h6⟩]
   exact aAe (by kernel_rfl)
 ·cases h
theorem aCq (n1 : Bool) (a1 : ByteArray) (n2 : Bool) (a2 : ByteArray) (n3 : Bool) (a3 : ByteArray) (n4 : Bool) (a4 : ByteArray) : aAH [b_ n1, s_ a1, b_ n2, s_ a2, b_ n3, s_ a3, b_ n4, s_ a4] = some [i_ 1] ∨ aAH [b_ n1, s_ a1, b_ n2, s_ a2, b_ n3, s_ a3, b_ n4, s_ a4] = some [i_ 0] ∧ PI 6 (Z n1 a1, Z n2 a2, Z n3 a3, Z n4 a4) [b_ n1, s_ a1, b_ n2, s_ a2, b_ n3, s_ a3, b_ n4, s_ a4] := by
 unfold aAH
 dsimp only
 split
 ·rename_i h
  exact .inr ⟨rfl, PI.mk (.raw n1 h.1) (.raw n2 h.2.1) (.raw n3 h.2.2.1) (.raw n4 h.2.2.2)⟩
 ·exact .inl rfl
theorem aHC (n : Bool) (a b : ByteArray) (m : Bool) (c d : ByteArray) (l : Bool) (e f : ByteArray) : aBP [b_ n, s_ a, s_ b, b_ m, s_ c, s_ d, b_ l, s_ e, s_ f] = some [i_ 1] ∨ aBP [b_ n, s_ a, s_ b, b_ m, s_ c, s_ d, b_ l, s_ e, s_ f] = some [i_ 0] ∧ RI 6 (qv n a b) [b_ n, s_ a, s_ b] ∧ RI 6 (qv m c d) [b_ m, s_ c, s_ d] ∧ RI 6 (qv l e f) [b_ l, s_ e, s_ f] := by
 unfold aBP
 dsimp only
 split
 ·rename_i h
  exact .inr ⟨rfl, .raw n h.1 h.2.1, .raw m h.2.2.1 h.2.2.2.1, .raw l h.2.2.2.2.1 h.2.2.2.2.2⟩
 ·exact .inl rfl
def okD : List Kc → List D → Bool
 | [], [] => true
 | k :: ks, .v x :: ds => k.ok x && okD ks ds
 | _, _ => false
def F_true (ks : List Kc) : Fct := fun ds => if okD ks ds = true then some [b_ true] else none
theorem aKV : ∀ {ks : List Kc} {ds : List D}, okD ks ds = true → ∃ vs, oks ks vs = true ∧ ds = vs.map D.v
 | [], [], _ => ⟨[], rfl, rfl⟩
 | [], _ :: _, h => by cases h
 | _ :: _, [], h => by cases h
 | _ :: _, .l _ _ :: _, h => by cases h
 | k :: ks, .v x :: ds, h => by
  have h : (k.ok x && okD ks ds) = true := h
  rw [Bool.and_eq_true] at h
  obtain ⟨vs, h1, rfl⟩ := aKV h.2
  refine ⟨x :: vs, ?_, rfl⟩
  show (k.ok x && oks ks vs) = true
  rw [h.1, h1]
  rfl
theorem aJ2 : ∀ {ks : List Kc} {vs : List Value}, oks ks vs = true → okD ks (vs.map D.v) = true ∧ vs.all aAB = true
 | [], [], _ => ⟨rfl, rfl⟩
 | [], _ :: _, h => by cases h
 | _ :: _, [], h => by cases h
 | k :: ks, x :: vs, h => by
  have h : (k.ok x && oks ks vs) = true := h
  rw [Bool.and_eq_true] at h
  obtain ⟨h1, h2⟩ := aJ2 h.2
  refine ⟨?_, ?_⟩
  ·show (k.ok x && okD ks (vs.map D.v)) = true
   rw [h.1, h1]
   rfl
  ·rw [List.all_cons, h2, Bool.and_true]
   revert h
   cases k <;> cases x <;> simp [Kc.ok, aAB]
theorem F_true.inv {ks : List Kc} {ds rs : List D} (h : F_true ks ds = some rs) : ∃ vs, oks ks vs = true ∧ ds = vs.map D.v ∧ rs = [b_ true] := by
 unfold F_true at h
 split at h
 ·obtain ⟨vs, h1, h2⟩ := aKV ‹_›
  exact ⟨vs, h1, h2, (Option.some.inj h).symm⟩
 ·cases h
theorem F_true.eq {ks : List Kc} {vs : List Value} (h : oks ks vs = true) : F_true ks (vs.map D.v) = some [b_ true] := if_pos (aJ2 h).1
theorem calls_flat {P : Program} {G : World → Prop} {f : FuncId} {ps : List H1} {ks : List Kc} {cs : List Value} (hg : Sx.Good P G f ⟨ps, .v1 .one⟩ (F_true ks)) (hk : oks ks cs = true) (hl : ks.length = aCp ps) {w : World} (hw : G w) :
  Calls P f (blds ps cs).toArray w fun e w' => e = .returned (.bool true) ∧ Below w.heap.size w w' := aMz hg (F_true.eq hk) (aJ2 hk).2 ((aAP hk).symm.trans hl) hw
theorem aGZ {ks : List Kc} {vs : List Value} (h : oks (.b :: ks) vs = true) : ∃ b r, vs = .bool b :: r ∧ oks ks r = true := by
 cases vs with
 | nil => cases h
 | cons v r =>
  have h : (Kc.ok .b v && oks ks r) = true := h
  rw [Bool.and_eq_true] at h
  cases v <;> first | exact ⟨_, _, rfl, h.2⟩ | (exact absurd h.1 (by decide)) | (cases h.1; done)
theorem aGj {ks : List Kc} {vs : List Value} (h : oks (.s :: ks) vs = true) : ∃ b r, vs = .string b :: r ∧ oks ks r = true := by
 cases vs with
 | nil => cases h
 | cons v r =>
  have h : (Kc.ok .s v && oks ks r) = true := h
  rw [Bool.and_eq_true] at h
  cases v <;> first | exact ⟨_, _, rfl, h.2⟩ | (cases h.1; done)
theorem aHD {vs : List Value} (h : oks [] vs = true) : vs = [] := by
 cases vs with
 | nil => rfl
 | cons v r => cases h
abbrev kR : List Kc := [.b, .s, .s]
abbrev kP : List Kc := [.b, .s, .b, .s, .b, .s, .b, .s]
abbrev kV : List Kc := [.b, .s, .s, .b, .s, .s, .b, .s, .s]
theorem aEN {ks : List Kc} {vs : List Value} (h : oks (kP ++ ks) vs = true) : ∃ n1 a1 n2 a2 n3 a3 n4 a4 r, vs = [.bool n1, .string a1, .bool n2, .string a2, .bool n3, .string a3, .bool n4, .string a4] ++ r ∧ oks ks r = true := by
 obtain ⟨n1, _, rfl, h1⟩ := aGZ h
 obtain ⟨a1, _, rfl, h2⟩ := aGj h1
 obtain ⟨n2, _, rfl, h3⟩ := aGZ h2
 obtain ⟨a2, _, rfl, h4⟩ := aGj h3
 obtain ⟨n3, _, rfl, h5⟩ := aGZ h4
 obtain ⟨a3, _, rfl, h6⟩ := aGj h5
 obtain ⟨n4, _, rfl, h7⟩ := aGZ h6
 obtain ⟨a4, r, rfl, h8⟩ := aGj h7
 exact ⟨n1, a1, n2, a2, n3, a3, n4, a4, r, rfl, h8⟩
theorem aJi {ks : List Kc} {vs : List Value} (h : oks (kR ++ ks) vs = true) : ∃ n a b r, vs = [.bool n, .string a, .string b] ++ r ∧ oks ks r = true := by
 obtain ⟨n1, _, rfl, h1⟩ := aGZ h
 obtain ⟨a1, _, rfl, h2⟩ := aGj h1
 obtain ⟨a2, r, rfl, h3⟩ := aGj h2
 exact ⟨n1, a1, a2, r, rfl, h3⟩
theorem aOL {ks : List Kc} {vs : List Value} (h : oks (kV ++ ks) vs = true) : ∃ n a b m c d l e f r, vs = [.bool n, .string a, .string b, .bool m, .string c, .string d, .bool l, .string e, .string f] ++ r ∧ oks ks r = true := by
 obtain ⟨n, a, b, _, rfl, h1⟩ := aJi (ks := kR ++ (kR ++ ks)) h
 obtain ⟨m, c, d, _, rfl, h2⟩ := aJi h1
 obtain ⟨l, e, f, r, rfl, h3⟩ := aJi h2
 exact ⟨n, a, b, m, c, d, l, e, f, r, rfl, h3⟩
theorem aNH : pt (Rat.divInt 1 2, Rat.divInt 1 3, Rat.divInt 0 1) = (3, 2, 0, 6) := by
 have e1 : Rat.divInt 1 2 = Rat.divInt 3 6 := (Rat.divInt_eq_divInt_iff (by decide) (by decide)).2 (by decide)
 have e2 : Rat.divInt 1 3 = Rat.divInt 2 6 := (Rat.divInt_eq_divInt_iff (by decide) (by decide)).2 (by decide)
 have e3 : Rat.divInt 0 1 = Rat.divInt 0 6 := (Rat.divInt_eq_divInt_iff (by decide) (by decide)).2 (by decide)
 rw [e1, e2, e3]
 have := aNB (x := 3) (y := 2) (z := 0) (w := 6) (by decide)
 exact this.symm.trans (by decide)
theorem aMD : qv false (⟨#[]⟩ : ByteArray) (⟨#[]⟩ : ByteArray) = Rat.divInt 0 1 := by
 have h0 : V (⟨#[]⟩ : ByteArray) = 0 := by rw [← aDo, V_N]
 unfold qv dn
 rw [if_pos h0]
 congr 1
theorem aNI : aAv (Rat.divInt 1 2) = (⟨#[49, 47, 50]⟩ : ByteArray) := by
 have h1 : (Rat.divInt 1 2).num = 1 := by rw [Rat.num_divInt]; rfl
 have h2 : (Rat.divInt 1 2).den = 2 := by rw [Rat.den_divInt]; rfl
 unfold aAv
 rw [h1, h2, if_neg (by decide)]
 have t5 : aAR 1 = (⟨#[49]⟩ : ByteArray) := by
  unfold aAR text
  rw [if_neg (by decide), show Int.natAbs 1 = 1 from rfl, Lib.decDigits_one (by decide)]
  rfl
 have t6 : aAR ((2 : Nat) : Int) = (⟨#[50]⟩ : ByteArray) := by
  unfold aAR text
  rw [if_neg (by decide), show Int.natAbs ((2 : Nat) : Int) = 2 from rfl, Lib.decDigits_one (by decide)]
  rfl
 rw [t5, t6]
 rfl
theorem aNJ : aAv (Rat.divInt 1 1) = (⟨#[49]⟩ : ByteArray) := by
 have h1 : (Rat.divInt 1 1).num = 1 := by rw [Rat.num_divInt]; rfl
 have h2 : (Rat.divInt 1 1).den = 1 := by rw [Rat.den_divInt]; rfl
 unfold aAv
 rw [h1, h2, if_pos rfl]
 unfold aAR text
 rw [if_neg (by decide), show Int.natAbs 1 = 1 from rfl, Lib.decDigits_one (by decide)]
 rfl
theorem aNK : aAv (Rat.divInt 3 2) = (⟨#[51, 47, 50]⟩ : ByteArray) := by
 have h1 : (Rat.divInt 3 2).num = 3 := by rw [Rat.num_divInt]; rfl
 have h2 : (Rat.divInt 3 2).den = 2 := by rw [Rat.den_divInt]; rfl
 unfold aAv
 rw [h1, h2, if_neg (by decide)]
 have t5 : aAR 3 = (⟨#[51]⟩ : ByteArray) := by
  unfold aAR text
  rw [if_neg (by decide), show Int.natAbs 3 = 3 from rfl, Lib.decDigits_one (by decide)]
  rfl
 have t6 : aAR ((2 : Nat) : Int) = (⟨#[50]⟩ : ByteArray) := by
  unfold aAR text
  rw [if_neg (by decide), show Int.natAbs ((2 : Nat) : Int) = 2 from rfl, Lib.decDigits_one (by decide)]
  rfl
 rw [t5, t6]
 rfl
theorem aME : vmid (Rat.divInt 0 1, Rat.divInt 0 1, Rat.divInt 0 1) (Rat.divInt 1 1, Rat.divInt 2 1, Rat.divInt 3 1) (Rat.divInt 1 2) = (Rat.divInt 1 2, Rat.divInt 1 1, Rat.divInt 3 2) := by
 have e0 : Rat.divInt 0 1 = 0 := Rat.zero_divInt 1
 have e (q : Rat) : 0 + q * 1 = q := by grind
 unfold vmid
 dsimp only
 rw [e0]
 have z (q : Rat) : 0 + Rat.divInt 1 2 * (q - 0) = Rat.divInt 1 2 * q := by grind
 rw [z, z, z, Rat.divInt_mul_divInt, Rat.divInt_mul_divInt, Rat.divInt_mul_divInt]
 have e1 : Rat.divInt (1 * 1) (2 * 1) = Rat.divInt 1 2 := rfl
 have e2 : Rat.divInt (1 * 2) (2 * 1) = Rat.divInt 1 1 := (Rat.divInt_eq_divInt_iff (by decide) (by decide)).2 (by decide)
 have e3 : Rat.divInt (1 * 3) (2 * 1) = Rat.divInt 3 2 := rfl
 rw [e1, e2, e3]
theorem aL8 : aAY (Rat.divInt 1 2, Rat.divInt 1 1, Rat.divInt 3 2) = (⟨#[40, 49, 47, 50, 44, 32, 49, 44, 32, 51, 47, 50, 41]⟩ : ByteArray) := by
 unfold aAY
 dsimp only
 rw [aNI, aNJ, aNK]
 rfl
theorem aF3 {n : Nat} {a : ByteArray} (h1 : V a = n) (h2 : N (V a) = a) : enc (n : Int) = [b_ false, s_ a] := by
 show [b_ (I (n : Int)).1, s_ (I (n : Int)).2] = _
 rw [aJj, ← h1, h2]
theorem aPz : enc 0 = [b_ false, s_ (⟨#[]⟩ : ByteArray)] := by
 show [b_ (I (0 : Int)).1, s_ (I (0 : Int)).2] = _
 rw [show I (0 : Int) = (false, N 0) from aJj 0, aDo]
theorem aEO {x y : Nat} {a b : ByteArray} (ha : V a = x) (hb : V b = y) (hy : y ≠ 0) (sa : a.size ≤ 1) (sb : b.size ≤ 1) : RI 1 (Rat.divInt (x : Int) (y : Int)) [b_ false, s_ a, s_ b] := by
 refine ⟨false, _, _, rfl, sa, sb, ?_⟩
 unfold qv dn
 have e : Z false a = (x : Int) := by
  show (V a : Int) = _
  rw [ha]
 rw [e, hb, if_neg hy]
theorem aJ3 {x : Nat} {a : ByteArray} (ha : V a = x) (sa : a.size ≤ 1) : RI 1 (Rat.divInt (x : Int) 1) [b_ false, s_ a, s_ (⟨#[]⟩ : ByteArray)] := by
 refine ⟨false, _, _, rfl, sa, Nat.zero_le 1, ?_⟩
 unfold qv dn
 have e : Z false a = (x : Int) := by
  show (V a : Int) = _
  rw [ha]
 have h0 : V (⟨#[]⟩ : ByteArray) = 0 := by rw [← aDo, V_N]
 rw [e, if_pos h0]
def PA (s : Nat) (v : V3) (ds : List D) : Prop := ∃ z, PI s z ds ∧ v = pv4 z
theorem PA.raw {s : Nat} {z : Z4} {ds : List D} (h : PI s z ds) : PA s (pv4 z) ds := ⟨z, h, rfl⟩
theorem PA.can {s : Nat} {v : V3} (h : Sv s v) : PA (3 * s) v (aAr v) := ⟨pt v, PI.can (S4.pt h), (aQj v).symm⟩
theorem PA.sv {s : Nat} (hs : 1 ≤ s) {v : V3} {ds : List D} (h : PA s v ds) : Sv s v := by
 obtain ⟨z, h1, rfl⟩ := h
 exact Sv.pv4 hs h1.s4
theorem aCM {s : Nat} {v : V3} {ds : List D} (h : PA s v ds) (hs : s ≤ 2500) : aA9 ds = some (aAr v) := by
 obtain ⟨z, h1, rfl⟩ := h
 exact Fo.eq (aAK 2500) (h1.le hs)
theorem aD3 {s : Nat} {v : V3} {ds : List D} (h : PA s v ds) (hs : s ≤ 1500) : aAw ds = some (aCj v) := by
 obtain ⟨z, h1, rfl⟩ := h
 exact Fo.eq (aAK 1500) (h1.le hs)
theorem aHE {s : Nat} {v : V3} {ds : List D} (h : PA s v ds) (hs : s ≤ 600) : aCy ds = some [s_ (aAY v)] := by
 obtain ⟨z, h1, rfl⟩ := h
 exact Fo.eq (aAK 600) (h1.le hs)
theorem aEP {s : Nat} {v : V3} {ds : List D} (h : VI s v ds) (hs : s ≤ 600) : aBg ds = some (aAr v) := Fo.eq (aGn 600) (h.le hs)
theorem aB4 {s t : Nat} {u v : V3} {a b : List D} (h : PA s u a) (g : PA t v b) (hs : s ≤ 200) (ht : t ≤ 200) : aAA (a ++ b) = some [i_ (lex u v)] := by
 obtain ⟨y, h1, rfl⟩ := h
 obtain ⟨z, g1, rfl⟩ := g
 exact Fo.eq (v := (y, z)) (aJ6 200) (And2.mk' (h1.le hs) (g1.le ht))
theorem aGk {s t : Nat} {u v : V3} {a b : List D} (h : PA s u a) (g : VI t v b) (hs : s ≤ 200) (ht : t ≤ 200) : aB9 (a ++ b) = some (aAr (vadd u v)) := by
 obtain ⟨y, h1, rfl⟩ := h
 exact Fo.eq (v := (y, v)) (aGF 200) (And2.mk' (h1.le hs) (g.le ht))
theorem aBV {s t r : Nat} {u v : V3} {q : Rat} {a b c : List D} (h : PA s u a) (g : PA t v b) (k : RI r q c) (hs : s ≤ 66) (ht : t ≤ 66) (hr : r ≤ 66) : aAJ (a ++ (b ++ c)) = some (aAr (vmid u v q)) := by
 obtain ⟨y, h1, rfl⟩ := h
 obtain ⟨z, g1, rfl⟩ := g
 exact Fo.eq (v := (y, z, q)) (aI0 66) (And2.mk' (h1.le hs) (And2.mk' (g1.le ht) (k.le hr)))
theorem Sv.vadd {s t : Nat} {u v : V3} (h : Sv s u) (g : Sv t v) : Sv (s + t + 1) (vadd u v) := ⟨Sq.add h.1 g.1, Sq.add h.2.1 g.2.1, Sq.add h.2.2 g.2.2⟩
theorem Sv.vmid {s t r : Nat} {u v : V3} {q : Rat} (h : Sv s u) (g : Sv t v) (k : Sq r q) : Sv (s + (r + (t + s + 1)) + 1) (vmid u v q) := ⟨Sq.add h.1 (Sq.mul (by omega) k (aDW g.1 h.1)), Sq.add h.2.1 (Sq.mul (by omega) k (aDW g.2.1 h.2.1)), Sq.add h.2.2 (Sq.mul (by omega) k (aDW g.2.2 h.2.2))⟩
theorem aIy (z : Int) : -1 ≤ sgn z ∧ sgn z ≤ 1 := by
 unfold sgn
 split <;> (try split) <;> omega
theorem aMF (u v : V3) : -1 ≤ lex u v ∧ lex u v ≤ 1 := by
 unfold lex
 split
 ·split <;> exact aIy _
 ·exact aIy _
theorem aJ4 (u : V3) : lex u u = 0 := by
 unfold lex
 rw [if_pos rfl, if_pos rfl, aCb]
 grind
theorem aGE (a b : Rat) : sgn (a - b).num = -sgn (b - a).num := by
 rw [show a - b = -(b - a) from (by grind), show (-(b - a)).num = -(b - a).num from rfl, aKT]
theorem aNL (u v : V3) : lex u v = 0 - lex v u := by
 unfold lex
 by_cases h : u.1 = v.1
 ·rw [if_pos h, if_pos h.symm]
  by_cases h2 : u.2.1 = v.2.1
  ·rw [if_pos h2, if_pos h2.symm, aGE]
   omega
  ·rw [if_neg h2, if_neg (fun g => h2 g.symm), aGE]
   omega
 ·rw [if_neg h, if_neg (fun g => h g.symm), aGE]
  omega
theorem aP0 (u v w : V3) : lex (vadd u w) (vadd v w) = lex u v := by
 obtain ⟨a, b, c⟩ := u
 obtain ⟨a', b', c'⟩ := v
 obtain ⟨x, y, z⟩ := w
 unfold lex vadd
 dsimp only
 have e (p q r : Rat) : (p + r = q + r) = (p = q) := by
  apply propext
  constructor
  ·intro h
   grind
  ·intro h
   rw [h]
 have d (p q r : Rat) : p + r - (q + r) = p - q := by grind
 simp only [e, d]
theorem aG6 (q : Rat) : sgn q.num > 0 ↔ 0 < q := by
 rw [aQJ]
 have h := Rat.num_nonneg (q := -q)
 have e : (-q).num = -q.num := rfl
 rw [e] at h
 constructor
 ·intro g
  have : ¬ 0 ≤ -q := fun k => by have := h.2 k; omega
  grind
 ·intro g
  have : ¬ 0 ≤ -q.num := fun k => by have := h.1 k; grind
  omega
theorem aEQ (q : Rat) : sgn q.num ≤ 0 ↔ q ≤ 0 := by
 have := aG6 q
 constructor
 ·intro h
  have : ¬ 0 < q := fun g => by have := this.2 g; omega
  grind
 ·intro h
  have : ¬ sgn q.num > 0 := fun g => by have := this.1 g; grind
  omega
theorem aKG (q : Rat) : sgn q.num < 0 ↔ q < 0 := by
 rw [aK8]
 have := Rat.num_nonneg (q := q)
 constructor
 ·intro h
  have : ¬ 0 ≤ q := fun g => by have := this.2 g; omega
  grind
 ·intro h
  have : ¬ 0 ≤ q.num := fun g => by have := this.1 g; grind
  omega
theorem aEw (u v : V3) : lex u v ≤ 0 ↔ u.1 < v.1 ∨ (u.1 = v.1 ∧ (u.2.1 < v.2.1 ∨ (u.2.1 = v.2.1 ∧ u.2.2 ≤ v.2.2))) := by
 unfold lex
 by_cases h : u.1 = v.1
 ·rw [if_pos h]
  by_cases h2 : u.2.1 = v.2.1
  ·rw [if_pos h2, aEQ]
   constructor
   ·intro g
    exact .inr ⟨h, .inr ⟨h2, by grind⟩⟩
   ·rintro (g | ⟨e, g | ⟨e', g⟩⟩) <;> grind
  ·rw [if_neg h2, aEQ]
   constructor
   ·intro g
    exact .inr ⟨h, .inl (by grind)⟩
   ·rintro (g | ⟨e, g | ⟨e', g⟩⟩) <;> grind
 ·rw [if_neg h, aEQ]
  constructor
  ·intro g
   exact .inl (by grind)
  ·rintro (g | ⟨g, e⟩) <;> grind
theorem aMG (u v w : V3) (h1 : ¬ lex u v > 0) (h2 : ¬ lex v w > 0) : lex u w ≤ 0 := by
 have g1 := (aEw u v).1 (by omega)
 have g2 := (aEw v w).1 (by omega)
 rw [aEw]
 rcases g1 with g1 | ⟨e1, g1 | ⟨e2, g1⟩⟩ <;> rcases g2 with g2 | ⟨d1, g2 | ⟨d2, g2⟩⟩
 all_goals first | exact .inl (by grind) | exact .inr ⟨by grind, .inl (by grind)⟩ | exact .inr ⟨by grind, .inr ⟨by grind, by grind⟩⟩
theorem aNM (u v : V3) : lex u v = 0 ↔ u = v := by
 constructor
 ·intro h
  obtain ⟨a, b, c⟩ := u
  obtain ⟨a', b', c'⟩ := v
  unfold lex at h
  dsimp only at h
  by_cases h1 : a = a'
  ·rw [if_pos h1] at h
   by_cases h2 : b = b'
   ·rw [if_pos h2, aCb] at h
    have h3 : c = c' := by grind
    rw [h1, h2, h3]
   ·rw [if_neg h2, aCb] at h
    exact absurd (by grind) h2
  ·rw [if_neg h1, aCb] at h
   exact absurd (by grind) h1
 ·intro h
  rw [h, aJ4]
theorem aNN (u : V3) (x y z : Rat) : vadd (vadd u (x, y, z)) (-x, -y, -z) = u := by
 obtain ⟨a, b, c⟩ := u
 have e (p q : Rat) : p + q + -q = p := by grind
 unfold vadd
 dsimp only
 rw [e, e, e]
theorem aQi {s : Nat} (n d : Nat) (hn : n < 256) (hd : d < 256) (hs : 1 ≤ s := by decide) : Sq s (Rat.divInt (n : Int) (d : Int)) := Sq.divInt hs (Sz.le (aAF (s := 1) (by omega)) hs) (Sz.le (aAF (s := 1) (by omega)) hs)
theorem aMH (u v : V3) : vmid u v (Rat.divInt 0 1) = u := by
 obtain ⟨a, b, c⟩ := u
 obtain ⟨a', b', c'⟩ := v
 have e (p q : Rat) : p + 0 * (q - p) = p := by grind
 unfold vmid
 dsimp only
 rw [Rat.zero_divInt, e, e, e]
theorem aNO (u v : V3) : vmid u v (Rat.divInt 1 1) = v := by
 obtain ⟨a, b, c⟩ := u
 obtain ⟨a', b', c'⟩ := v
 have e (p q : Rat) : p + 1 * (q - p) = q := by grind
 unfold vmid
 dsimp only
 rw [show Rat.divInt 1 1 = 1 from rfl, e, e, e]
theorem aMI (u v : V3) (t : Rat) : vmid v u (Rat.divInt 1 1 - t) = vmid u v t := by
 obtain ⟨a, b, c⟩ := u
 obtain ⟨a', b', c'⟩ := v
 have e (p q : Rat) : q + (1 - t) * (p - q) = p + t * (q - p) := by grind
 unfold vmid
 dsimp only
 rw [show Rat.divInt 1 1 = 1 from rfl, e, e, e]
theorem aMJ (u v : V3) : vmid u (vmid u v (Rat.divInt 1 2)) (Rat.divInt 1 2) = vmid u v (Rat.divInt 1 4) := by
 obtain ⟨a, b, c⟩ := u
 obtain ⟨a', b', c'⟩ := v
 have h : Rat.divInt 1 4 = Rat.divInt 1 2 * Rat.divInt 1 2 := by rw [Rat.divInt_mul_divInt]; rfl
 rw [h]
 generalize Rat.divInt 1 2 = t
 have e (p q : Rat) : p + t * (p + t * (q - p) - p) = p + t * t * (q - p) := by grind
 unfold vmid
 dsimp only
 rw [e, e, e]
theorem aJ5 {u v : V3} {t : Rat} (h0 : ¬ sgn t.num < 0) (h1 : ¬ sgn (t - Rat.divInt 1 1).num > 0) (h : ¬ lex u v > 0) : lex u (vmid u v t) ≤ 0 ∧ lex (vmid u v t) v ≤ 0 := by
 rw [aKG] at h0
 rw [aG6, show Rat.divInt 1 1 = 1 from rfl] at h1
 have g := (aEw u v).1 (by omega)
 have t0 : 0 ≤ t := by grind
 have t1 : 0 ≤ 1 - t := by grind
 obtain ⟨a, b, c⟩ := u
 obtain ⟨a', b', c'⟩ := v
 have up (p q : Rat) (hpq : p ≤ q) : p ≤ p + t * (q - p) := by
  have := Rat.mul_nonneg t0 (show 0 ≤ q - p by grind)
  grind
 have down (p q : Rat) (hpq : p ≤ q) : p + t * (q - p) ≤ q := by
  have := Rat.mul_nonneg t1 (show 0 ≤ q - p by grind)
  grind
 have same (p : Rat) : p + t * (p - p) = p := by grind
 have tz (p q : Rat) (hpq : p < q) (e : p = p + t * (q - p)) : t = 0 := by
  have h2 : t * (q - p) = 0 := by grind
  rcases Rat.mul_eq_zero.1 h2 with h3 | h3
  ·exact h3
  ·grind
 have ot (p q : Rat) (hpq : p < q) (e : p + t * (q - p) = q) : t = 1 := by
  have h2 : (1 - t) * (q - p) = 0 := by grind
  rcases Rat.mul_eq_zero.1 h2 with h3 | h3
  ·grind
  ·grind
 rw [aEw, aEw]
 unfold vmid
 dsimp only at g ⊢
 rcases g with g | ⟨e1, g⟩
 ·have k1 := up a a' (by grind)
  have k2 := down a a' (by grind)
  refine ⟨?_, ?_⟩
  ·by_cases e : a = a + t * (a' - a)
   ·have ht := tz _ _ g e
    rw [ht]
    exact .inr ⟨by grind, .inr ⟨by grind, by grind⟩⟩
   ·exact .inl (by grind)
  ·by_cases e : a + t * (a' - a) = a'
   ·have ht := ot _ _ g e
    rw [ht]
    exact .inr ⟨by grind, .inr ⟨by grind, by grind⟩⟩
   ·exact .inl (by grind)
 ·subst e1
  rw [same]
  rcases g with g | ⟨e2, g⟩
  ·have k1 := up b b' (by grind)
   have k2 := down b b' (by grind)
   refine ⟨.inr ⟨rfl, ?_⟩, .inr ⟨rfl, ?_⟩⟩
   ·by_cases e : b = b + t * (b' - b)
    ·have ht := tz _ _ g e
     rw [ht]
     exact .inr ⟨by grind, by grind⟩
    ·exact .inl (by grind)
   ·by_cases e : b + t * (b' - b) = b'
    ·have ht := ot _ _ g e
     rw [ht]
     exact .inr ⟨by grind, by grind⟩
    ·exact .inl (by grind)
  ·subst e2
   rw [same]
   exact ⟨.inr ⟨rfl, .inr ⟨rfl, up _ _ g⟩⟩, .inr ⟨rfl, .inr ⟨rfl, down _ _ g⟩⟩⟩
def aCN : Fct
 | [] => some [b_ true]
 | _ => none
theorem awk : aCN [] = some [b_ true] := rfl
end Go.Proofs.YtjefbecmeobegaaGreatDoor.Sp
