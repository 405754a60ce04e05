import Derived.Test.YtjefbecmeobegaaGreatDoorSpB
import Derived.Test.YtjefbecmeobegaaGreatDoorSpE
import Derived.Test.YtjefbecmeobegaaGreatDoorTr1
namespace Go.Proofs.YtjefbecmeobegaaGreatDoor.Sp
open Go Go.RowKit Sx NatA NatB NatC NatD NatI NatJ IntZ RatZ PtZ
theorem aDx (x y : Int) (R : Bool) : ((I x).1 == (I y).1 && (aAL (.string (I x).2) (.string (I y).2) && R)) = (decide (x = y) && R) := by
 rw [← Bool.and_assoc]
 congr 1
 have := aNj x y
 have e : aAz [.bool (I x).1, .string (I x).2] [.bool (I y).1, .string (I y).2] = ((I x).1 == (I y).1 && (aAL (.string (I x).2) (.string (I y).2) && true)) := rfl
 rw [← this, e, Bool.and_true]
theorem aEB (x y : Rat) (R : Bool) : ((I x.num).1 == (I y.num).1 && (aAL (.string (I x.num).2) (.string (I y.num).2) && (aAL (.string (dnc x.den)) (.string (dnc y.den)) && R))) = (decide (x = y) && R) := by
 have := aNi x y
 have e : aAz [.bool (I x.num).1, .string (I x.num).2, .string (dnc x.den)] [.bool (I y.num).1, .string (I y.num).2, .string (dnc y.den)] = ((I x.num).1 == (I y.num).1 && (aAL (.string (I x.num).2) (.string (I y.num).2) && (aAL (.string (dnc x.den)) (.string (dnc y.den)) && true))) := rfl
 rw [← this, e, Bool.and_true, Bool.and_assoc, Bool.and_assoc]
abbrev vz (z : Int) : List Value := [.bool (I z).1, .string (I z).2]
abbrev vq (q : Rat) : List Value := [.bool (I q.num).1, .string (I q.num).2, .string (dnc q.den)]
abbrev v4 (p : Z4) : List Value := vz p.1 ++ (vz p.2.1 ++ (vz p.2.2.1 ++ vz p.2.2.2))
abbrev v3 (v : V3) : List Value := vq v.1 ++ (vq v.2.1 ++ vq v.2.2)
theorem aPh (p q : Z4) : aAz (v4 p) (v4 q) = decide (p = q) := by
 obtain ⟨x, y, z, w⟩ := p
 obtain ⟨x', y', z', w'⟩ := q
 have e : aAz (v4 (x, y, z, w)) (v4 (x', y', z', w')) = ((I x).1 == (I x').1 && (aAL (.string (I x).2) (.string (I x').2) && ((I y).1 == (I y').1 && (aAL (.string (I y).2) (.string (I y').2) && ((I z).1 == (I z').1 && (aAL (.string (I z).2) (.string (I z').2) && ((I w).1 == (I w').1 && (aAL (.string (I w).2) (.string (I w').2) && true)))))))) := rfl
 rw [e, aDx, aDx, aDx, aDx, Bool.eq_iff_iff]
 simp only [Bool.and_true, Bool.and_eq_true, decide_eq_true_iff, Prod.mk.injEq]
theorem aPi (p q : V3) : aAz (v3 p) (v3 q) = decide (p = q) := by
 obtain ⟨x, y, z⟩ := p
 obtain ⟨x', y', z'⟩ := q
 have e : aAz (v3 (x, y, z)) (v3 (x', y', z')) = ((I x.num).1 == (I x'.num).1 && (aAL (.string (I x.num).2) (.string (I x'.num).2) && (aAL (.string (dnc x.den)) (.string (dnc x'.den)) && ((I y.num).1 == (I y'.num).1 && (aAL (.string (I y.num).2) (.string (I y'.num).2) && (aAL (.string (dnc y.den)) (.string (dnc y'.den)) && ((I z.num).1 == (I z'.num).1 && (aAL (.string (I z.num).2) (.string (I z'.num).2) && (aAL (.string (dnc z.den)) (.string (dnc z'.den)) && true))))))))) := rfl
 rw [e, aEB, aEB, aEB, Bool.eq_iff_iff]
 simp only [Bool.and_true, Bool.and_eq_true, decide_eq_true_iff, Prod.mk.injEq]
theorem eq_4 (k : Bool) (p q : Z4) : (Pu.bin .eql 25 k).run Tryz.prog [.agg (enc4 p), .agg (enc4 q)] = some (b_ (decide (p = q))) := by
 rw [← aPh]
 exact (aGS (P := Tryz.prog) (t := 25) k (ks := [.b, .s, .b, .s, .b, .s, .b, .s]) (by kernel_rfl) (by kernel_rfl) (xs := v4 p) (ys := v4 q) rfl rfl).1
theorem aPZ (u v : V3) : decide (pt u = pt v) = decide (u = v) := by
 rw [Bool.eq_iff_iff, decide_eq_true_iff, decide_eq_true_iff]
 exact aQB
theorem aO1 (k : Bool) (u v : V3) : (Pu.bin .eql 25 k).run Tryz.prog [.agg (aAB u), .agg (aAB v)] = some (b_ (decide (u = v))) := by rw [← aPZ]; exact eq_4 k _ _
theorem aQa (k : Bool) (u v : V3) : (Pu.bin .eql 29 k).run Tryz.prog [.agg (aCH u), .agg (aCH v)] = some (b_ (decide (u = v))) := by
 rw [← aPi]
 exact (aGS (P := Tryz.prog) (t := 29) k (ks := [.b, .s, .s, .b, .s, .s, .b, .s, .s]) (by kernel_rfl) (by kernel_rfl) (xs := v3 u) (ys := v3 v) rfl rfl).1
def aCr : Fct
 | [.v (.bool _), .v (.string a), .v (.bool _), .v (.string b), .v (.bool _), .v (.string c), .v (.bool _), .v (.string d)] => some [i_ (if a.size ≤ 6 ∧ b.size ≤ 6 ∧ c.size ≤ 6 ∧ d.size ≤ 6 then 0 else 1)]
 | _ => none
def aJj : Fct
 | [.v (.bool _), .v (.string a), .v (.string b), .v (.bool _), .v (.string c), .v (.string d), .v (.bool _), .v (.string e), .v (.string f)] => some [i_ (if a.size ≤ 6 ∧ b.size ≤ 6 ∧ c.size ≤ 6 ∧ d.size ≤ 6 ∧ e.size ≤ 6 ∧ f.size ≤ 6 then 0 else 1)]
 | _ => none
theorem aBd : Tryz.prog.underlying 9 = some .string := by kernel_rfl
theorem aBX {n k : Nat} (h : decide ((n : Int) > (k : Int)) = false) : n ≤ k := by
 have := of_decide_eq_false h
 omega
theorem aCl {n k : Nat} (h : decide ((n : Int) > (k : Int)) = true) : ¬ n ≤ k := by
 have := of_decide_eq_true h
 omega
theorem g_great : Sx.Good Tryz.prog X.G 69 ⟨[.agg 8], .v1 .one⟩ aCr := aAg (tb := []) trivial (fun _ _ => X.G_below) 400 (by kernel_rfl) (by kernel_rfl : _ = some aE7) fun ds rs h => by
 unfold aCr at h
 split at h
 ·rename_i a _ b _ c _ d
  obtain rfl := Option.some.inj h
  refine ⟨0, ?_⟩
  refine gP (aA6 aBd a) (gP (aAT _ _ .i64 (a.size : Int) 6) (aA0 (b := decide ((a.size : Int) > 6)) (by kernel_rfl) (fun h1 => ?_) (fun h1 => ?_)))
  ·rw [if_neg (fun hh => aCl (k := 6) h1 hh.1)]
   exact aAd (by kernel_rfl)
  refine gP (aA6 aBd b) (gP (aAT _ _ .i64 (b.size : Int) 6) (aA0 (b := decide ((b.size : Int) > 6)) (by kernel_rfl) (fun h2 => ?_) (fun h2 => ?_)))
  ·rw [if_neg (fun hh => aCl (k := 6) h2 hh.2.1)]
   exact aAd (by kernel_rfl)
  refine gP (aA6 aBd c) (gP (aAT _ _ .i64 (c.size : Int) 6) (aA0 (b := decide ((c.size : Int) > 6)) (by kernel_rfl) (fun h3 => ?_) (fun h3 => ?_)))
  ·rw [if_neg (fun hh => aCl (k := 6) h3 hh.2.2.1)]
   exact aAd (by kernel_rfl)
  refine gP (aA6 aBd d) (gP (aAT _ _ .i64 (d.size : Int) 6) (aA0 (b := decide ((d.size : Int) > 6)) (by kernel_rfl) (fun h4 => ?_) (fun h4 => ?_)))
  ·rw [if_neg (fun hh => aCl (k := 6) h4 hh.2.2.2)]
   exact aAd (by kernel_rfl)
  ·rw [if_pos ⟨aBX (k := 6) h1, aBX (k := 6) h2, aBX (k := 6) h3, aBX (k := 6) h4⟩]
   exact aAd (by kernel_rfl)
 ·cases h
theorem g_wide : Sx.Good Tryz.prog X.G 18 ⟨[.agg 9], .v1 .one⟩ aJj := aAg (tb := []) trivial (fun _ _ => X.G_below) 400 (by kernel_rfl) (by kernel_rfl : _ = some aEZ) fun ds rs h => by
 unfold aJj at h
 split at h
 ·rename_i a b _ c d _ e f
  obtain rfl := Option.some.inj h
  refine ⟨0, ?_⟩
  refine gP (aA6 aBd a) (gP (aAT _ _ .i64 (a.size : Int) 6) (aA0 (b := decide ((a.size : Int) > 6)) (by kernel_rfl) (fun h1 => ?_) (fun h1 => ?_)))
  ·rw [if_neg (fun hh => aCl (k := 6) h1 hh.1)]
   exact aAd (by kernel_rfl)
  refine gP (aA6 aBd b) (gP (aAT _ _ .i64 (b.size : Int) 6) (aA0 (b := decide ((b.size : Int) > 6)) (by kernel_rfl) (fun h2 => ?_) (fun h2 => ?_)))
  ·rw [if_neg (fun hh => aCl (k := 6) h2 hh.2.1)]
   exact aAd (by kernel_rfl)
  refine gP (aA6 aBd c) (gP (aAT _ _ .i64 (c.size : Int) 6) (aA0 (b := decide ((c.size : Int) > 6)) (by kernel_rfl) (fun h3 => ?_) (fun h3 => ?_)))
  ·rw [if_neg (fun hh => aCl (k := 6) h3 hh.2.2.1)]
   exact aAd (by kernel_rfl)
  refine gP (aA6 aBd d) (gP (aAT _ _ .i64 (d.size : Int) 6) (aA0 (b := decide ((d.size : Int) > 6)) (by kernel_rfl) (fun h4 => ?_) (fun h4 => ?_)))
  ·rw [if_neg (fun hh => aCl (k := 6) h4 hh.2.2.2.1)]
   exact aAd (by kernel_rfl)
  refine gP (aA6 aBd e) (gP (aAT _ _ .i64 (e.size : Int) 6) (aA0 (b := decide ((e.size : Int) > 6)) (by kernel_rfl) (fun h5 => ?_) (fun h5 => ?_)))
  ·rw [if_neg (fun hh => aCl (k := 6) h5 hh.2.2.2.2.1)]
   exact aAd (by kernel_rfl)
  refine gP (aA6 aBd f) (gP (aAT _ _ .i64 (f.size : Int) 6) (aA0 (b := decide ((f.size : Int) > 6)) (by kernel_rfl) (fun h6 => ?_) (fun h6 => ?_)))
  ·rw [if_neg (fun hh => aCl (k := 6) h6 hh.2.2.2.2.2)]
   exact aAd (by kernel_rfl)
  ·rw [if_pos ⟨aBX (k := 6) h1, aBX (k := 6) h2, aBX (k := 6) h3, aBX (k := 6) h4, aBX (k := 6) h5, aBX (k := 6) h6⟩]
   exact aAd (by kernel_rfl)
 ·cases h
theorem aNp (n1 : Bool) (a1 : ByteArray) (n2 : Bool) (a2 : ByteArray) (n3 : Bool) (a3 : ByteArray) (n4 : Bool) (a4 : ByteArray) : aCr [b_ n1, s_ a1, b_ n2, s_ a2, b_ n3, s_ a3, b_ n4, s_ a4] = some [i_ 1] ∨ aCr [b_ n1, s_ a1, b_ n2, s_ a2, b_ n3, s_ a3, b_ n4, s_ a4] = some [i_ 0] ∧ PI 6 (Z n1 a1, Z n2 a2, Z n3 a3, Z n4 a4) [b_ n1, s_ a1, b_ n2, s_ a2, b_ n3, s_ a3, b_ n4, s_ a4] := by
 unfold aCr
 dsimp only
 split
 ·rename_i h
  exact .inr ⟨rfl, PI.mk (.raw n1 h.1) (.raw n2 h.2.1) (.raw n3 h.2.2.1) (.raw n4 h.2.2.2)⟩
 ·exact .inl rfl
def okD : List Kc → List D → Bool
 | [], [] => true
 | k :: ks, .v x :: ds => k.ok x && okD ks ds
 | _, _ => false
def F_true (ks : List Kc) : Fct := fun ds => if okD ks ds = true then some [b_ true] else none
theorem aKA : ∀ {ks : List Kc} {ds : List D}, okD ks ds = true → ∃ vs, oks ks vs = true ∧ ds = vs.map D.v
 | [], [], _ => ⟨[], rfl, rfl⟩
 | [], _ :: _, h => by cases h
 | _ :: _, [], h => by cases h
 | _ :: _, .l _ _ :: _, h => by cases h
 | k :: ks, .v x :: ds, h => by
  have h : (k.ok x && okD ks ds) = true := h
  rw [Bool.and_eq_true] at h
  obtain ⟨vs, h1, rfl⟩ := aKA h.2
  refine ⟨x :: vs, ?_, rfl⟩
  show (k.ok x && oks ks vs) = true
  rw [h.1, h1]
  rfl
theorem aJk : ∀ {ks : List Kc} {vs : List Value}, oks ks vs = true → okD ks (vs.map D.v) = true ∧ vs.all aA9 = true
 | [], [], _ => ⟨rfl, rfl⟩
 | [], _ :: _, h => by cases h
 | _ :: _, [], h => by cases h
 | k :: ks, x :: vs, h => by
  have h : (k.ok x && oks ks vs) = true := h
  rw [Bool.and_eq_true] at h
  obtain ⟨h1, h2⟩ := aJk h.2
  refine ⟨?_, ?_⟩
  ·show (k.ok x && okD ks (vs.map D.v)) = true
   rw [h.1, h1]
   rfl
  ·rw [List.all_cons, h2, Bool.and_true]
   revert h
   cases k <;> cases x <;> simp [Kc.ok, aA9]
theorem F_true.inv {ks : List Kc} {ds rs : List D} (h : F_true ks ds = some rs) : ∃ vs, oks ks vs = true ∧ ds = vs.map D.v ∧ rs = [b_ true] := by
 unfold F_true at h
 split at h
 ·obtain ⟨vs, h1, h2⟩ := aKA ‹_›
  exact ⟨vs, h1, h2, (Option.some.inj h).symm⟩
 ·cases h
theorem F_true.eq {ks : List Kc} {vs : List Value} (h : oks ks vs = true) : F_true ks (vs.map D.v) = some [b_ true] := if_pos (aJk h).1
theorem calls_flat {P : Program} {G : World → Prop} {f : FuncId} {ps : List H1} {ks : List Kc} {cs : List Value} (hg : Sx.Good P G f ⟨ps, .v1 .one⟩ (F_true ks)) (hk : oks ks cs = true) (hl : ks.length = aCn ps) {w : World} (hw : G w) :
  Calls P f (blds ps cs).toArray w fun e w' => e = .returned (.bool true) ∧ Below w.heap.size w w' := aMb hg (F_true.eq hk) (aJk hk).2 ((aAM hk).symm.trans hl) hw
theorem aGE {ks : List Kc} {vs : List Value} (h : oks (.b :: ks) vs = true) : ∃ b r, vs = .bool b :: r ∧ oks ks r = true := by
 cases vs with
 | nil => cases h
 | cons v r =>
  have h : (Kc.ok .b v && oks ks r) = true := h
  rw [Bool.and_eq_true] at h
  cases v <;> first | exact ⟨_, _, rfl, h.2⟩ | (exact absurd h.1 (by decide)) | (cases h.1; done)
theorem aGF {ks : List Kc} {vs : List Value} (h : oks (.s :: ks) vs = true) : ∃ b r, vs = .string b :: r ∧ oks ks r = true := by
 cases vs with
 | nil => cases h
 | cons v r =>
  have h : (Kc.ok .s v && oks ks r) = true := h
  rw [Bool.and_eq_true] at h
  cases v <;> first | exact ⟨_, _, rfl, h.2⟩ | (cases h.1; done)
theorem aPj {vs : List Value} (h : oks [] vs = true) : vs = [] := by
 cases vs with
 | nil => rfl
 | cons v r => cases h
abbrev kZ : List Kc := [.b, .s]
abbrev kP : List Kc := [.b, .s, .b, .s, .b, .s, .b, .s]
theorem aQM {ks : List Kc} {vs : List Value} (h : oks (kP ++ ks) vs = true) : ∃ n1 a1 n2 a2 n3 a3 n4 a4 r, vs = [.bool n1, .string a1, .bool n2, .string a2, .bool n3, .string a3, .bool n4, .string a4] ++ r ∧ oks ks r = true := by
 obtain ⟨n1, _, rfl, h1⟩ := aGE h
 obtain ⟨a1, _, rfl, h2⟩ := aGF h1
 obtain ⟨n2, _, rfl, h3⟩ := aGE h2
 obtain ⟨a2, _, rfl, h4⟩ := aGF h3
 obtain ⟨n3, _, rfl, h5⟩ := aGE h4
 obtain ⟨a3, _, rfl, h6⟩ := aGF h5
 obtain ⟨n4, _, rfl, h7⟩ := aGE h6
 obtain ⟨a4, r, rfl, h8⟩ := aGF h7
 exact ⟨n1, a1, n2, a2, n3, a3, n4, a4, r, rfl, h8⟩
theorem aQN {ks : List Kc} {vs : List Value} (h : oks (kZ ++ ks) vs = true) : ∃ n a r, vs = [.bool n, .string a] ++ r ∧ oks ks r = true := by
 obtain ⟨n1, _, rfl, h1⟩ := aGE h
 obtain ⟨a1, r, rfl, h2⟩ := aGF h1
 exact ⟨n1, a1, r, rfl, h2⟩
theorem aNq : pt (Rat.divInt 1 2, Rat.divInt 1 3, Rat.divInt 0 1) = (3, 2, 0, 6) := by
 have e1 : Rat.divInt 1 2 = Rat.divInt 3 6 := (Rat.divInt_eq_divInt_iff (by decide) (by decide)).2 (by decide)
 have e2 : Rat.divInt 1 3 = Rat.divInt 2 6 := (Rat.divInt_eq_divInt_iff (by decide) (by decide)).2 (by decide)
 have e3 : Rat.divInt 0 1 = Rat.divInt 0 6 := (Rat.divInt_eq_divInt_iff (by decide) (by decide)).2 (by decide)
 rw [e1, e2, e3]
 have := aNf (x := 3) (y := 2) (z := 0) (w := 6) (by decide)
 exact this.symm.trans (by decide)
theorem aQb : qv false (⟨#[]⟩ : ByteArray) (⟨#[]⟩ : ByteArray) = Rat.divInt 0 1 := by
 have h0 : V (⟨#[]⟩ : ByteArray) = 0 := by rw [← aDn, V_N]
 unfold qv dn
 rw [if_pos h0]
 congr 1
theorem aNr : aAY (Rat.divInt 1 2) = (⟨#[49, 47, 50]⟩ : ByteArray) := by
 have h1 : (Rat.divInt 1 2).num = 1 := by rw [Rat.num_divInt]; rfl
 have h2 : (Rat.divInt 1 2).den = 2 := by rw [Rat.den_divInt]; rfl
 unfold aAY
 rw [h1, h2, if_neg (by decide)]
 have t5 : aBC 1 = (⟨#[49]⟩ : ByteArray) := by
  unfold aBC text
  rw [if_neg (by decide), show Int.natAbs 1 = 1 from rfl, Lib.decDigits_one (by decide)]
  rfl
 have t6 : aBC ((2 : Nat) : Int) = (⟨#[50]⟩ : ByteArray) := by
  unfold aBC text
  rw [if_neg (by decide), show Int.natAbs ((2 : Nat) : Int) = 2 from rfl, Lib.decDigits_one (by decide)]
  rfl
 rw [t5, t6]
 rfl
theorem aNs : aAY (Rat.divInt 1 1) = (⟨#[49]⟩ : ByteArray) := by
 have h1 : (Rat.divInt 1 1).num = 1 := by rw [Rat.num_divInt]; rfl
 have h2 : (Rat.divInt 1 1).den = 1 := by rw [Rat.den_divInt]; rfl
 unfold aAY
 rw [h1, h2, if_pos rfl]
 unfold aBC text
 rw [if_neg (by decide), show Int.natAbs 1 = 1 from rfl, Lib.decDigits_one (by decide)]
 rfl
theorem aNt : aAY (Rat.divInt 3 2) = (⟨#[51, 47, 50]⟩ : ByteArray) := by
 have h1 : (Rat.divInt 3 2).num = 3 := by rw [Rat.num_divInt]; rfl
 have h2 : (Rat.divInt 3 2).den = 2 := by rw [Rat.den_divInt]; rfl
 unfold aAY
 rw [h1, h2, if_neg (by decide)]
 have t5 : aBC 3 = (⟨#[51]⟩ : ByteArray) := by
  unfold aBC text
  rw [if_neg (by decide), show Int.natAbs 3 = 3 from rfl, Lib.decDigits_one (by decide)]
  rfl
 have t6 : aBC ((2 : Nat) : Int) = (⟨#[50]⟩ : ByteArray) := by
  unfold aBC text
  rw [if_neg (by decide), show Int.natAbs ((2 : Nat) : Int) = 2 from rfl, Lib.decDigits_one (by decide)]
  rfl
 rw [t5, t6]
 rfl
theorem aMp : vmid (Rat.divInt 0 1, Rat.divInt 0 1, Rat.divInt 0 1) (Rat.divInt 1 1, Rat.divInt 2 1, Rat.divInt 3 1) (Rat.divInt 1 2) = (Rat.divInt 1 2, Rat.divInt 1 1, Rat.divInt 3 2) := by
 have e0 : Rat.divInt 0 1 = 0 := Rat.zero_divInt 1
 have e (q : Rat) : 0 + q * 1 = q := by grind
 unfold vmid
 dsimp only
 rw [e0]
 have z (q : Rat) : 0 + Rat.divInt 1 2 * (q - 0) = Rat.divInt 1 2 * q := by grind
 rw [z, z, z, Rat.divInt_mul_divInt, Rat.divInt_mul_divInt, Rat.divInt_mul_divInt]
 have e1 : Rat.divInt (1 * 1) (2 * 1) = Rat.divInt 1 2 := rfl
 have e2 : Rat.divInt (1 * 2) (2 * 1) = Rat.divInt 1 1 := (Rat.divInt_eq_divInt_iff (by decide) (by decide)).2 (by decide)
 have e3 : Rat.divInt (1 * 3) (2 * 1) = Rat.divInt 3 2 := rfl
 rw [e1, e2, e3]
theorem aLn : aDT (Rat.divInt 1 2, Rat.divInt 1 1, Rat.divInt 3 2) = (⟨#[40, 49, 47, 50, 44, 32, 49, 44, 32, 51, 47, 50, 41]⟩ : ByteArray) := by
 unfold aDT
 dsimp only
 rw [aNr, aNs, aNt]
 rfl
theorem aFk {n : Nat} {a : ByteArray} (h1 : V a = n) (h2 : N (V a) = a) : enc (n : Int) = [b_ false, s_ a] := by
 show [b_ (I (n : Int)).1, s_ (I (n : Int)).2] = _
 rw [aIS, ← h1, h2]
theorem aPk : enc 0 = [b_ false, s_ (⟨#[]⟩ : ByteArray)] := by
 show [b_ (I (0 : Int)).1, s_ (I (0 : Int)).2] = _
 rw [show I (0 : Int) = (false, N 0) from aIS 0, aDn]
theorem aJl {x y : Nat} {a b : ByteArray} (ha : V a = x) (hb : V b = y) (hy : y ≠ 0) (sa : a.size ≤ 1) (sb : b.size ≤ 1) : RI 1 (Rat.divInt (x : Int) (y : Int)) [b_ false, s_ a, s_ b] := by
 refine ⟨false, _, _, rfl, sa, sb, ?_⟩
 unfold qv dn
 have e : Z false a = (x : Int) := by
  show (V a : Int) = _
  rw [ha]
 rw [e, hb, if_neg hy]
theorem aJm {x : Nat} {a : ByteArray} (ha : V a = x) (sa : a.size ≤ 1) : RI 1 (Rat.divInt (x : Int) 1) [b_ false, s_ a, s_ (⟨#[]⟩ : ByteArray)] := by
 refine ⟨false, _, _, rfl, sa, Nat.zero_le 1, ?_⟩
 unfold qv dn
 have e : Z false a = (x : Int) := by
  show (V a : Int) = _
  rw [ha]
 have h0 : V (⟨#[]⟩ : ByteArray) = 0 := by rw [← aDn, V_N]
 rw [e, if_pos h0]
def PA (s : Nat) (v : V3) (ds : List D) : Prop := ∃ z, PI s z ds ∧ v = pv4 z
theorem PA.raw {s : Nat} {z : Z4} {ds : List D} (h : PI s z ds) : PA s (pv4 z) ds := ⟨z, h, rfl⟩
theorem PA.can {s : Nat} {v : V3} (h : Sv s v) : PA (3 * s) v (aAB v) := ⟨pt v, PI.can (S4.pt h), (aQc v).symm⟩
theorem PA.sv {s : Nat} (hs : 1 ≤ s) {v : V3} {ds : List D} (h : PA s v ds) : Sv s v := by
 obtain ⟨z, h1, rfl⟩ := h
 exact Sv.pv4 hs h1.s4
theorem aGq {s : Nat} {v : V3} {ds : List D} (h : PA s v ds) (hs : s ≤ 2500) : aAO ds = some (aAB v) := by
 obtain ⟨z, h1, rfl⟩ := h
 exact Fo.eq (aAF 2500) (h1.le hs)
theorem aGG {s : Nat} {v : V3} {ds : List D} (h : PA s v ds) (hs : s ≤ 1500) : aA4 ds = some (aCH v) := by
 obtain ⟨z, h1, rfl⟩ := h
 exact Fo.eq (aAF 1500) (h1.le hs)
theorem aPl {s : Nat} {v : V3} {ds : List D} (h : PA s v ds) (hs : s ≤ 600) : aFn ds = some [s_ (aDT v)] := by
 obtain ⟨z, h1, rfl⟩ := h
 exact Fo.eq (aAF 600) (h1.le hs)
theorem aGr {s : Nat} {v : V3} {ds : List D} (h : VI s v ds) (hs : s ≤ 600) : aBz ds = some (aAB v) := Fo.eq (aFO 600) (h.le hs)
theorem aPm {s t : Nat} {u v : V3} {a b : List D} (h : PA s u a) (g : PA t v b) (hs : s ≤ 200) (ht : t ≤ 200) : aFl (a ++ b) = some [i_ (lex u v)] := by
 obtain ⟨y, h1, rfl⟩ := h
 obtain ⟨z, g1, rfl⟩ := g
 exact Fo.eq (v := (y, z)) (aJn 200) (And2.mk' (h1.le hs) (g1.le ht))
theorem aNu {s t r : Nat} {u v : V3} {q : Rat} {a b c : List D} (h : PA s u a) (g : PA t v b) (k : RI r q c) (hs : s ≤ 66) (ht : t ≤ 66) (hr : r ≤ 66) : aEr (a ++ (b ++ c)) = some (aAB (vmid u v q)) := by
 obtain ⟨y, h1, rfl⟩ := h
 obtain ⟨z, g1, rfl⟩ := g
 exact Fo.eq (v := (y, z, q)) (aIh 66) (And2.mk' (h1.le hs) (And2.mk' (g1.le ht) (k.le hr)))
theorem Sv.vadd {s t : Nat} {u v : V3} (h : Sv s u) (g : Sv t v) : Sv (s + t + 1) (vadd u v) := ⟨Sq.add h.1 g.1, Sq.add h.2.1 g.2.1, Sq.add h.2.2 g.2.2⟩
theorem Sv.vmid {s t r : Nat} {u v : V3} {q : Rat} (h : Sv s u) (g : Sv t v) (k : Sq r q) : Sv (s + (r + (t + s + 1)) + 1) (vmid u v q) := ⟨Sq.add h.1 (Sq.mul (by omega) k (aE9 g.1 h.1)), Sq.add h.2.1 (Sq.mul (by omega) k (aE9 g.2.1 h.2.1)), Sq.add h.2.2 (Sq.mul (by omega) k (aE9 g.2.2 h.2.2))⟩
theorem aNv (u : V3) : lex u u = 0 := by
 unfold lex
 rw [if_pos rfl, if_pos rfl, aFK]
 grind
theorem aNw {n1 n2 n3 n4 m1 m2 m3 m4 : Bool} {a1 a2 a3 a4 c1 c2 c3 c4 : ByteArray} (h : [b_ n1, s_ a1, b_ n2, s_ a2, b_ n3, s_ a3, b_ n4, s_ a4] = [b_ m1, s_ c1, b_ m2, s_ c2, b_ m3, s_ c3, b_ m4, s_ c4]) : m1 = n1 ∧ c1 = a1 ∧ m2 = n2 ∧ c2 = a2 ∧ m3 = n3 ∧ c3 = a3 ∧ m4 = n4 ∧ c4 = a4 := by
 injection h with h1 h
 injection h with h2 h
 injection h with h3 h
 injection h with h4 h
 injection h with h5 h
 injection h with h6 h
 injection h with h7 h
 injection h with h8 h
 injection h1 with h1
 injection h1 with h1
 injection h2 with h2
 injection h2 with h2
 injection h3 with h3
 injection h3 with h3
 injection h4 with h4
 injection h4 with h4
 injection h5 with h5
 injection h5 with h5
 injection h6 with h6
 injection h6 with h6
 injection h7 with h7
 injection h7 with h7
 injection h8 with h8
 injection h8 with h8
 exact ⟨h1.symm, h2.symm, h3.symm, h4.symm, h5.symm, h6.symm, h7.symm, h8.symm⟩
theorem aNx {s : Nat} {p : Z4} {n1 n2 n3 n4 : Bool} {a1 a2 a3 a4 : ByteArray} (h : PI s p [b_ n1, s_ a1, b_ n2, s_ a2, b_ n3, s_ a3, b_ n4, s_ a4]) : a1.size ≤ s ∧ a2.size ≤ s ∧ a3.size ≤ s ∧ a4.size ≤ s := by
 obtain ⟨m1, c1, m2, c2, m3, c3, m4, c4, e, h1, h2, h3, h4, -⟩ := h.inv
 obtain ⟨-, rfl, -, rfl, -, rfl, -, rfl⟩ := aNw e
 exact ⟨h1, h2, h3, h4⟩
theorem aNy {x y z w k : Int} (hk : sgn k ≠ 0) (hw : sgn w ≠ 0) : pv4 (x * k, y * k, z * k, w * k) = pv4 (x, y, z, w) := by
 have hk : k ≠ 0 := fun h => hk (by rw [h]; rfl)
 have hw : w ≠ 0 := fun h => hw (by rw [h]; rfl)
 have hwk : w * k ≠ 0 := Int.mul_ne_zero hw hk
 unfold pv4 pv w1
 dsimp only
 rw [if_neg hw, if_neg hwk]
 have e (v : Int) : Rat.divInt (v * k) (w * k) = Rat.divInt v w := (Rat.divInt_eq_divInt_iff hwk hw).2 (by grind)
 unfold co
 dsimp only
 rw [e, e, e]
def aEp : Fct
 | [] => some [b_ true]
 | _ => none
theorem awk : aEp [] = some [b_ true] := rfl
end Go.Proofs.YtjefbecmeobegaaGreatDoor.Sp
