import Derived.Test.YtliabkapejhohaaGreatDoorSpG
import Derived.Test.YtliabkapejhohaaGreatDoorSpX
import Derived.Test.YtliabkapejhohaaGreatDoorSpS
import Derived.Test.YtliabkapejhohaaGreatDoorTrZ
namespace Go.Proofs.YtliabkapejhohaaGreatDoor.Sp
open Go Go.RowKit Go.Proofs.YtliabkapejhohaaGreatDoorW.PrintWords Go.Proofs.YtliabkapejhohaaGreatDoor.Sx Go.Proofs.YtliabkapejhohaaGreatDoor.NatA Go.Proofs.YtliabkapejhohaaGreatDoor.NatB Go.Proofs.YtliabkapejhohaaGreatDoor.NatC Go.Proofs.YtliabkapejhohaaGreatDoor.NatD Go.Proofs.YtliabkapejhohaaGreatDoor.NatI Go.Proofs.YtliabkapejhohaaGreatDoor.NatJ Go.Proofs.YtliabkapejhohaaGreatDoor.NatN Go.Proofs.YtliabkapejhohaaGreatDoor.NatR Go.Proofs.YtliabkapejhohaaGreatDoor.IntZ Go.Proofs.YtliabkapejhohaaGreatDoor.RatZ
def tbP : Tb := (56, F_parse) :: tb11
theorem okP : TbOk Tryz.prog X.G tbP := .cons (by kernel_rfl) g_parse ok11
def tbPX : Tb := tbRX ++ tbS8
theorem okPX : TbOk Tryz.prog X.G tbPX := okRX.app okS8
def P64 (z : Int) : Prop := -9223372036854775808 ≤ z ∧ z ≤ 9223372036854775807
instance (z : Int) : Decidable (P64 z) := inferInstanceAs (Decidable (_ ∧ _))
def i64R (z : Int) : List D := [i_ (if P64 z then z else 0), b_ (decide (P64 z))]
def F_i64 : Fct := I1 9000 i64R
theorem i64_yes {z : Int} (h : P64 z) : i64R z = [i_ z, b_ true] := by unfold i64R; rw [if_pos h, decide_eq_true h]
theorem i64_no {z : Int} (h : ¬ P64 z) : i64R z = [i_ 0, b_ false] := by unfold i64R; rw [if_neg h, decide_eq_false h]
theorem pu_gw (t : TypeId) (kk : Bool) (a b : Int) : (Pu.bin .leq t kk).run Tryz.prog [.one (w_ a), .one (w_ b)] = some (b_ (decide (a ≤ b))) := pu_le_i t kk .u64 a b
section
variable {C : Cf} {L : List T} {env : List D}
theorem conv_w {x : Int} (h : 0 ≤ x ∧ x ≤ 9223372036854775807) : (Pu.conv 68 2).run Tryz.prog [.one (w_ x)] = some (i_ x) := by
  rw [pu_conv (by kernel_rfl : Tryz.prog.underlying 2 = some (.int .i64)) .u64 x under_w, IntKind.wrap_i64]
  have : (x + 9223372036854775808) % 18446744073709551616 - 9223372036854775808 = x := by omega
  first | rw [this] | (congr 3; omega)
end
theorem neg_w {x : Nat} (h : 1 ≤ x) (h1 : x ≤ 9223372036854775808) : (Pu.bin .sub 68 true).run Tryz.prog [.one (w_ x), .one (w_ 1)] = some (w_ ((x : Int) - 1)) ∧ (Pu.un .neg).run Tryz.prog [.one (i_ ((x : Int) - 1))] = some (i_ (1 - (x : Int))) ∧ (Pu.bin .sub 2 true).run Tryz.prog [.one (i_ (1 - (x : Int))), .one (i_ 1)] = some (i_ (-(x : Int))) := by
  refine ⟨?_, ?_, ?_⟩
  · rw [pu_sub_i, wu (by omega) (by omega)]
  · rw [pu_neg_i, show 0 - ((x : Int) - 1) = 1 - (x : Int) by omega, IntKind.wrap_i64]
    congr 3
    omega
  · rw [pu_sub_i, show 1 - (x : Int) - 1 = -(x : Int) by omega, IntKind.wrap_i64]
    congr 3
    omega
theorem u64_of {x : Nat} (h : x < 18446744073709551616) {a : ByteArray} (ha : a.size ≤ 20000) (hx : V a = x) : F_u64 [s_ a] = some [w_ x, b_ true] := by
  have h1 : F_u64 [s_ a] = some [w_ (u64R (V a)).1, b_ (u64R (V a)).2] := S1.eq ha
  rw [hx] at h1
  unfold u64R at h1
  rw [if_pos h] at h1
  exact h1
theorem u64_big {x : Nat} (h : ¬ x < 18446744073709551616) {a : ByteArray} (ha : a.size ≤ 20000) (hx : V a = x) : F_u64 [s_ a] = some [w_ 0, b_ false] := by
  have h1 : F_u64 [s_ a] = some [w_ (u64R (V a)).1, b_ (u64R (V a)).2] := S1.eq ha
  rw [hx] at h1
  unfold u64R at h1
  rw [if_neg h] at h1
  exact h1
theorem enc_neg {z : Int} (h : z < 0) : enc z = [b_ true, s_ (N z.natAbs)] := by
  show [b_ (decide (z < 0)), s_ (N z.natAbs)] = _
  rw [decide_eq_true h]
theorem enc_pos {z : Int} (h : ¬ z < 0) : enc z = [b_ false, s_ (N z.natAbs)] := by
  show [b_ (decide (z < 0)), s_ (N z.natAbs)] = _
  rw [decide_eq_false h]
theorem g_i64 : Sx.Good Tryz.prog X.G 15 ⟨[.agg 2], .tup [.one, .one]⟩ F_i64 := good_tree okP (fun _ _ => X.G_below) 400 (by kernel_rfl) (by kernel_rfl : _ = some t_integer_Int64) fun ds rs h => by
  obtain ⟨n, a, rfl, ha, rfl⟩ := I1.inv h
  have c1 : F_inorm [b_ n, s_ a] = some (enc (Z n a)) := I1.eq (by omega)
  have s1 : (N (Z n a).natAbs).size ≤ 9000 := Sz.of ha
  generalize Z n a = z at *
  obtain ⟨x, hx⟩ : ∃ x, x = z.natAbs := ⟨_, rfl⟩
  by_cases hb : x < 18446744073709551616
  · have c2 : F_u64 [s_ (N z.natAbs)] = some [w_ x, b_ true] := u64_of hb (by omega) (by rw [V_N, hx])
    by_cases hz : z < 0
    · rw [enc_neg hz] at c1
      by_cases hl : (x : Int) ≤ 9223372036854775808
      · obtain ⟨p1, p2, p3⟩ := neg_w (x := x) (by omega) (by omega)
        rw [show -(x : Int) = z by omega] at p3
        rw [i64_yes (show P64 z from ⟨by omega, by omega⟩)]
        exact rc F_inorm c1 (rc F_u64 c2 (rp (pu_not true) (rn (ry (rT hl (pu_gw 68 true x 9223372036854775808) (rp p1 (rp (conv_w (x := (x : Int) - 1) (by omega)) (rp p2 (rp p3 rr)))))))))
      · rw [i64_no (fun h => by have := h.1; omega)]
        exact rc F_inorm c1 (rc F_u64 c2 (rp (pu_not true) (rn (ry (rF hl (pu_gw 68 true x 9223372036854775808) (rp (pu_not true) (rn rr)))))))
    · rw [enc_pos hz] at c1
      by_cases hl : (x : Int) ≤ 9223372036854775807
      · have p1 := conv_w (x := (x : Int)) (by omega)
        rw [show (x : Int) = z by omega] at p1
        rw [i64_yes (show P64 z from ⟨by omega, by omega⟩)]
        rw [show (x : Int) = z by omega] at c2 hl
        exact rc F_inorm c1 (rc F_u64 c2 (rp (pu_not true) (rn (rn (rp (pu_not false) (ry (rT hl (pu_gw 68 true z 9223372036854775807) (rp p1 rr))))))))
      · rw [i64_no (fun h => by have := h.2; omega)]
        exact rc F_inorm c1 (rc F_u64 c2 (rp (pu_not true) (rn (rn (rp (pu_not false) (ry (rF hl (pu_gw 68 true x 9223372036854775807) rr)))))))
  · have c2 : F_u64 [s_ (N z.natAbs)] = some [w_ 0, b_ false] := u64_big hb (by omega) (by rw [V_N, hx])
    rw [i64_no (fun h => by have := h.1; have := h.2; omega)]
    by_cases hz : z < 0
    · rw [enc_neg hz] at c1
      exact rc F_inorm c1 (rc F_u64 c2 (rp (pu_not false) (ry rr)))
    · rw [enc_pos hz] at c1
      exact rc F_inorm c1 (rc F_u64 c2 (rp (pu_not false) (ry rr)))
theorem r_small : Sx.Good Tryz.prog X.G 16 ⟨[.agg 2], .tup [.one, .one]⟩ F_i64 := good_tree okPX (fun _ _ => X.G_below) 400 (by kernel_rfl) (by kernel_rfl : _ = some t_voussoirref02_Small) fun ds rs h => by
  obtain ⟨n, a, rfl, ha, rfl⟩ := I1.inv h
  obtain ⟨x, hx⟩ : ∃ x, x = V a := ⟨_, rfl⟩
  have hZ : Z n a = sg n x := by rw [hx]; rfl
  rw [hZ]
  by_cases hb : x < 18446744073709551616
  · have c2 : F_u64 [s_ a] = some [w_ x, b_ true] := u64_of hb (by omega) hx.symm
    by_cases h1 : (x : Int) > 9223372036854775808
    · rw [i64_no (fun h => by cases n <;> (unfold sg P64 at h; simp at h; omega))]
      exact rc F_u64 c2 (rp (pu_not true) (rn (rT h1 (pu_gt_i 68 true .u64 x 9223372036854775808) rr)))
    · have z1 : sg true x = -(x : Int) := rfl
      have z0 : sg false x = (x : Int) := rfl
      by_cases h2 : (x : Int) = 9223372036854775808
      · cases n with
        | false =>
          rw [z0, i64_no (fun h => by have := h.2; omega)]
          exact rc F_u64 c2 (rp (pu_not true) (rn (rF h1 (pu_gt_i 68 true .u64 x 9223372036854775808) (rT h2 (pu_eq_i 68 true .u64 x 9223372036854775808) (rp (pu_not false) (ry rr))))))
        | true =>
          obtain ⟨p1, p2, p3⟩ := neg_w (x := x) (by omega) (by omega)
          rw [z1, i64_yes ⟨by omega, by omega⟩]
          exact rc F_u64 c2 (rp (pu_not true) (rn (rF h1 (pu_gt_i 68 true .u64 x 9223372036854775808) (rT h2 (pu_eq_i 68 true .u64 x 9223372036854775808) (rp (pu_not true) (rn (ry (rT (by omega) (pu_gt_i 68 true .u64 x 0) (rp p1 (rp (conv_w (x := (x : Int) - 1) (by omega)) (rp p2 (rp p3 rr))))))))))))
      · cases n with
        | false =>
          rw [z0, i64_yes ⟨by omega, by omega⟩]
          exact rc F_u64 c2 (rp (pu_not true) (rn (rF h1 (pu_gt_i 68 true .u64 x 9223372036854775808) (rF h2 (pu_eq_i 68 true .u64 x 9223372036854775808) (rn (rp (conv_w (x := (x : Int)) (by omega)) rr))))))
        | true =>
          by_cases h3 : (x : Int) > 0
          · obtain ⟨p1, p2, p3⟩ := neg_w (x := x) (by omega) (by omega)
            rw [z1, i64_yes ⟨by omega, by omega⟩]
            exact rc F_u64 c2 (rp (pu_not true) (rn (rF h1 (pu_gt_i 68 true .u64 x 9223372036854775808) (rF h2 (pu_eq_i 68 true .u64 x 9223372036854775808) (ry (rT h3 (pu_gt_i 68 true .u64 x 0) (rp p1 (rp (conv_w (x := (x : Int) - 1) (by omega)) (rp p2 (rp p3 rr))))))))))
          · obtain rfl : x = 0 := by omega
            have e : sg true 0 = 0 := rfl
            rw [e, i64_yes ⟨by decide, by decide⟩]
            exact rc F_u64 c2 (rp (pu_not true) (rn (rF h1 (pu_gt_i 68 true .u64 ((0 : Nat) : Int) 9223372036854775808) (rF h2 (pu_eq_i 68 true .u64 ((0 : Nat) : Int) 9223372036854775808) (ry (rF h3 (pu_gt_i 68 true .u64 ((0 : Nat) : Int) 0) (rp (conv_w (x := ((0 : Nat) : Int)) (by omega)) rr)))))))
  · have c2 : F_u64 [s_ a] = some [w_ 0, b_ false] := u64_big hb (by omega) hx.symm
    rw [i64_no (fun h => by cases n <;> (unfold sg P64 at h; simp at h; omega))]
    exact rc F_u64 c2 (rp (pu_not false) (ry rr))
def noI : List D := [b_ false, s_ (⟨#[]⟩ : ByteArray), b_ false]
def ipar (s : ByteArray) : List D :=
  if 0 < s.size ∧ rd (bytesOf s) ((0 : Nat) : Int) = 45 then (if (parseR (s.extract 1 s.size)).2 = true ∧ ¬ V (parseR (s.extract 1 s.size)).1 = 0 then enc (-(V (parseR (s.extract 1 s.size)).1 : Int)) ++ [b_ true] else noI)
  else if (parseR s).2 = true then enc (V (parseR s).1 : Int) ++ [b_ true] else noI
def F_iparse : Fct
  | [.v (.string a)] => if a.size ≤ 1000 then some (ipar a) else none
  | _ => none
theorem F_iparse.eq {a : ByteArray} (h : a.size ≤ 1000) : F_iparse [s_ a] = some (ipar a) := if_pos h
theorem F_iparse.inv {ds rs : List D} (h : F_iparse ds = some rs) : ∃ a : ByteArray, ds = [s_ a] ∧ a.size ≤ 1000 ∧ rs = ipar a := by
  unfold F_iparse at h
  split at h
  · split at h
    · exact ⟨_, rfl, ‹_›, (Option.some.inj h).symm⟩
    · cases h
  · cases h
theorem parse_cases (s : ByteArray) : (∃ x, parseR s = (N x, true) ∧ (N x).size ≤ s.size) ∨ parseR s = ((⟨#[]⟩ : ByteArray), false) := by
  unfold parseR
  cases h : num (L s) with
  | true =>
    rw [if_pos rfl]
    refine .inl ⟨_, rfl, ?_⟩
    rw [← L_length]
    refine N_dv_size _ ?_
    unfold num at h
    rw [Bool.and_eq_true, Bool.and_eq_true] at h
    exact h.1.2
  | false => exact .inr (if_neg (by decide))
theorem parse_yes {s : ByteArray} {x : Nat} (hs : s.size ≤ 1000) (h : parseR s = (N x, true)) : F_parse [s_ s] = some [s_ (N x), b_ true] := by
  rw [F_parse.eq hs, h]
theorem parse_no {s : ByteArray} (hs : s.size ≤ 1000) (h : parseR s = ((⟨#[]⟩ : ByteArray), false)) : F_parse [s_ s] = some [s_ (⟨#[]⟩ : ByteArray), b_ false] := by
  rw [F_parse.eq hs, h]
theorem g_iparse : Sx.Good Tryz.prog X.G 13 ⟨[.one], .tup [.agg 2, .one]⟩ F_iparse := good_tree okP (fun _ _ => X.G_below) 400 (by kernel_rfl) (by kernel_rfl : _ = some t_integer_Parse) fun ds rs h => by
  obtain ⟨s, rfl, hs, rfl⟩ := F_iparse.inv h
  have l1 := pu_len_s (P := Tryz.prog) under_s s
  unfold ipar
  by_cases h0 : 0 < s.size
  · have px := pu_ix (P := Tryz.prog) under_s s 0 h0 .i64
    by_cases h1 : rd (bytesOf s) ((0 : Nat) : Int) = 45
    · rw [if_pos ⟨h0, h1⟩]
      have ps := pu_slc_lo (P := Tryz.prog) under_s s .i64 1 h0
      have hz : (s.extract 1 s.size).size ≤ 1000 := by rw [ByteArray.size_extract]; omega
      generalize s.extract 1 s.size = t at *
      rcases parse_cases t with ⟨x, hp, hsz⟩ | hp
      · have c1 := parse_yes hz hp
        rw [hp]
        dsimp only
        rw [V_N]
        by_cases hx : x = 0
        · subst hx
          rw [if_neg (fun h => h.2 rfl)]
          exact rp l1 (rT (by omega) (pu_gt_i 3 true .i64 s.size 0) (rp px (rT h1 (pu_eq_i 5 true .u8 (rd (bytesOf s) ((0 : Nat) : Int)) 45) (rp ps (rc F_parse c1 (rp (pu_not true) (rn (rT (nil_N.2 rfl) (pu_eq_s 9 true (N 0) ⟨#[]⟩) rr))))))))
        · rw [if_pos ⟨rfl, hx⟩]
          exact rp l1 (rT (by omega) (pu_gt_i 3 true .i64 s.size 0) (rp px (rT h1 (pu_eq_i 5 true .u8 (rd (bytesOf s) ((0 : Nat) : Int)) 45) (rp ps (rc F_parse c1 (rp (pu_not true) (rn (rF (mt nil_N.1 hx) (pu_eq_s 9 true (N x) ⟨#[]⟩) (rc F_of (F_of.eq (n := true) (x := x)) rr)))))))))
      · rw [hp]
        dsimp only
        rw [if_neg (fun h => by cases h.1)]
        exact rp l1 (rT (by omega) (pu_gt_i 3 true .i64 s.size 0) (rp px (rT h1 (pu_eq_i 5 true .u8 (rd (bytesOf s) ((0 : Nat) : Int)) 45) (rp ps (rc F_parse (parse_no hz hp) (rp (pu_not false) (ry rr)))))))
    · rw [if_neg (fun h => h1 h.2)]
      rcases parse_cases s with ⟨x, hp, hsz⟩ | hp
      · rw [hp]
        dsimp only
        rw [V_N, if_pos rfl]
        exact rp l1 (rT (by omega) (pu_gt_i 3 true .i64 s.size 0) (rp px (rF h1 (pu_eq_i 5 true .u8 (rd (bytesOf s) ((0 : Nat) : Int)) 45) (rc F_parse (parse_yes hs hp) (rp (pu_not true) (rn (rc F_of (F_of.eq (n := false) (x := x)) rr)))))))
      · rw [hp]
        dsimp only
        rw [if_neg (by decide)]
        exact rp l1 (rT (by omega) (pu_gt_i 3 true .i64 s.size 0) (rp px (rF h1 (pu_eq_i 5 true .u8 (rd (bytesOf s) ((0 : Nat) : Int)) 45) (rc F_parse (parse_no hs hp) (rp (pu_not false) (ry rr))))))
  · rw [if_neg (fun h => h0 h.1)]
    rcases parse_cases s with ⟨x, hp, hsz⟩ | hp
    · rw [hp]
      dsimp only
      rw [V_N, if_pos rfl]
      exact rp l1 (rF (by omega) (pu_gt_i 3 true .i64 s.size 0) (rc F_parse (parse_yes hs hp) (rp (pu_not true) (rn (rc F_of (F_of.eq (n := false) (x := x)) rr)))))
    · rw [hp]
      dsimp only
      rw [if_neg (by decide)]
      exact rp l1 (rF (by omega) (pu_gt_i 3 true .i64 s.size 0) (rc F_parse (parse_no hs hp) (rp (pu_not false) (ry rr))))
theorem nrm {x s : Nat} (h : (N x).size ≤ s) (hs : s ≤ 1000) : F_norm [s_ (N x)] = some [s_ (N x)] := S1.eqN (by omega)
theorem inorm_of (n : Bool) {x s : Nat} (h : (N x).size ≤ s) (hs : s ≤ 1000) : F_inorm [b_ n, s_ (N x)] = some (enc (sg n x)) := by
  have h1 : F_inorm [b_ n, s_ (N x)] = some (enc (Z n (N x))) := I1.eq (by omega)
  unfold Z at h1
  rw [V_N] at h1
  exact h1
theorem r_iparse : Sx.Good Tryz.prog X.G 14 ⟨[.one], .tup [.agg 2, .one]⟩ F_iparse := good_tree okPX (fun _ _ => X.G_below) 400 (by kernel_rfl) (by kernel_rfl : _ = some t_voussoirref02_Parse) fun ds rs h => by
  obtain ⟨s, rfl, hs, rfl⟩ := F_iparse.inv h
  have l1 := pu_len_s (P := Tryz.prog) under_s s
  unfold ipar
  by_cases h0 : 0 < s.size
  · have px := pu_ix (P := Tryz.prog) under_s s 0 h0 .i64
    by_cases h1 : rd (bytesOf s) ((0 : Nat) : Int) = 45
    · rw [if_pos ⟨h0, h1⟩]
      have ps := pu_slc_lo (P := Tryz.prog) under_s s .i64 1 h0
      have hz : (s.extract 1 s.size).size ≤ 1000 := by rw [ByteArray.size_extract]; omega
      generalize s.extract 1 s.size = t at *
      rcases parse_cases t with ⟨x, hp, hsz⟩ | hp
      · have c1 := parse_yes hz hp
        rw [hp]
        dsimp only
        rw [V_N]
        by_cases hx : x = 0
        · subst hx
          rw [if_neg (fun h => h.2 rfl)]
          exact rp l1 (rT (by omega) (pu_gt_i 3 true .i64 s.size 0) (rp px (rT h1 (pu_eq_i 5 true .u8 (rd (bytesOf s) ((0 : Nat) : Int)) 45) (rp ps (rc F_parse c1 (rp (pu_not true) (rn (rc F_norm (nrm hsz hz) (rT (nil_N.2 rfl) (pu_eq_s 9 true (N 0) ⟨#[]⟩) rr)))))))))
        · rw [if_pos ⟨rfl, hx⟩]
          exact rp l1 (rT (by omega) (pu_gt_i 3 true .i64 s.size 0) (rp px (rT h1 (pu_eq_i 5 true .u8 (rd (bytesOf s) ((0 : Nat) : Int)) 45) (rp ps (rc F_parse c1 (rp (pu_not true) (rn (rc F_norm (nrm hsz hz) (rF (mt nil_N.1 hx) (pu_eq_s 9 true (N x) ⟨#[]⟩) (rc F_inorm (inorm_of true hsz hz) rr))))))))))
      · rw [hp]
        dsimp only
        rw [if_neg (fun h => by cases h.1)]
        exact rp l1 (rT (by omega) (pu_gt_i 3 true .i64 s.size 0) (rp px (rT h1 (pu_eq_i 5 true .u8 (rd (bytesOf s) ((0 : Nat) : Int)) 45) (rp ps (rc F_parse (parse_no hz hp) (rp (pu_not false) (ry rr)))))))
    · rw [if_neg (fun h => h1 h.2)]
      rcases parse_cases s with ⟨x, hp, hsz⟩ | hp
      · rw [hp]
        dsimp only
        rw [V_N, if_pos rfl]
        exact rp l1 (rT (by omega) (pu_gt_i 3 true .i64 s.size 0) (rp px (rF h1 (pu_eq_i 5 true .u8 (rd (bytesOf s) ((0 : Nat) : Int)) 45) (rc F_parse (parse_yes hs hp) (rp (pu_not true) (rn (rc F_inorm (inorm_of false hsz hs) rr)))))))
      · rw [hp]
        dsimp only
        rw [if_neg (by decide)]
        exact rp l1 (rT (by omega) (pu_gt_i 3 true .i64 s.size 0) (rp px (rF h1 (pu_eq_i 5 true .u8 (rd (bytesOf s) ((0 : Nat) : Int)) 45) (rc F_parse (parse_no hs hp) (rp (pu_not false) (ry rr))))))
  · rw [if_neg (fun h => h0 h.1)]
    rcases parse_cases s with ⟨x, hp, hsz⟩ | hp
    · rw [hp]
      dsimp only
      rw [V_N, if_pos rfl]
      exact rp l1 (rF (by omega) (pu_gt_i 3 true .i64 s.size 0) (rc F_parse (parse_yes hs hp) (rp (pu_not true) (rn (rc F_inorm (inorm_of false hsz hs) rr)))))
    · rw [hp]
      dsimp only
      rw [if_neg (by decide)]
      exact rp l1 (rF (by omega) (pu_gt_i 3 true .i64 s.size 0) (rc F_parse (parse_no hs hp) (rp (pu_not false) (ry rr))))
theorem r_itext : Sx.Good Tryz.prog X.G 18 ⟨[.agg 2], .v1 .one⟩ F_itext := good_tree okPX (fun _ _ => X.G_below) 400 (by kernel_rfl) (by kernel_rfl : _ = some t_voussoirref02_Text) fun ds rs h => by
  obtain ⟨n, a, rfl, ha, rfl⟩ := I1.inv h
  have s1 : Sz 9000 (Z n a) := .of ha
  have c1 : F_inorm [b_ n, s_ a] = some (enc (Z n a)) := I1.eq (by omega)
  generalize Z n a = z at *
  have hs : (N z.natAbs).size ≤ 10000 := Nat.le_trans s1 (by decide)
  have c2 : F_text [s_ (N z.natAbs)] = some [s_ (text z.natAbs)] := S1.eqN hs
  have hd := dec_len s1
  unfold itext
  by_cases hz : z < 0
  · rw [enc_neg hz] at c1
    rw [if_pos hz]
    have p1 := pu_add_s (P := Tryz.prog) 9 true (⟨#[45]⟩ : ByteArray) (text z.natAbs) (by
      have : (⟨#[45]⟩ : ByteArray).size = 1 := rfl
      rw [text_size]
      omega)
    exact rc F_inorm c1 (ry (rc F_text c2 (rp p1 rr)))
  · rw [enc_pos hz] at c1
    rw [if_neg hz]
    exact rc F_inorm c1 (rn (rc F_text c2 rr))
def F_fixed : Fct
  | [] => some [b_ true]
  | _ => none
theorem rI {t : TypeId} {C : Cf} {L : List T} {env r : List D} {xs : List (V1 S)} {n : Nat} {t1 e : T} {k : Bool} (z : Int) (h : Rn Tryz.prog C t1 L (env ++ [b_ true]) r) (ht : t = 23 := by rfl) (hv : vals (V1.val (S.val env)) xs = some [.agg (enc z), .agg (enc z)] := by kernel_rfl) (hn : (env ++ [b_ true])[n]? = some (b_ true) := by kernel_rfl) : Rn Tryz.prog C (.pure (.bin .eql t k) xs (.ite n t1 e)) L env r := by
  subst ht
  have hp := eq_int k z z
  exact h.imp fun _ h => go_T (q := z = z) rfl hv hp hn h
theorem div_of {x y q r : Int} (hx : Sz 9000 x) (hy : Sz 9000 y) (h0 : y ≠ 0) (h1 : x / y = q) (h2 : x % y = r) : F_idiv (enc x ++ enc y) = some (enc q ++ enc r ++ [b_ true]) := by
  have h3 : F_idiv (enc x ++ enc y) = some (gdiv x y) := I2.can hx hy
  rw [h3]
  unfold gdiv idivR
  rw [if_neg h0, h1, h2]
  rfl
theorem small_sz {z : Int} (h0 : -9223372036854775808 ≤ z) (h1 : z ≤ 9223372036854775807) : Sz 9000 z := (Sz.i64 h0 h1).le (by decide)
theorem itext_4 : itext (-4) = (⟨#[45, 52]⟩ : ByteArray) := by
  unfold itext
  rw [if_pos (by decide)]
  have : text (-4 : Int).natAbs = (⟨#[52]⟩ : ByteArray) := by
    show text 4 = _
    unfold text
    rw [Lib.decDigits_one (by decide)]
    rfl
  rw [this]
  rfl
theorem g_fixed : Sx.Good Tryz.prog X.G 12 ⟨[], .v1 .one⟩ F_fixed := good_tree okP (fun _ _ => X.G_below) 400 (by kernel_rfl) (by kernel_rfl : _ = some t_voussoirlaw02_fixed) fun ds rs h => by
  unfold F_fixed at h
  split at h
  · obtain rfl := Option.some.inj h
    have e : ∀ z : Int, -9223372036854775808 ≤ z → z ≤ 9223372036854775807 → F_ifrom [i_ z] = some (enc z) := fun z h0 h1 => F_ifrom.eq h0 h1
    have d1 := div_of (x := 7) (y := -2) (q := -3) (r := 1) (small_sz (by decide) (by decide)) (small_sz (by decide) (by decide)) (by decide) (by decide) (by decide)
    have d2 := div_of (x := -7) (y := 2) (q := -4) (r := 1) (small_sz (by decide) (by decide)) (small_sz (by decide) (by decide)) (by decide) (by decide) (by decide)
    have f1 : F_itext (enc (-4)) = some [s_ (⟨#[45, 52]⟩ : ByteArray)] := by
      have h3 : F_itext (enc (-4)) = some [s_ (itext (-4))] := I1.can (small_sz (by decide) (by decide))
      rw [itext_4] at h3
      exact h3
    have p1 := pu_eq_s (P := Tryz.prog) 9 true (⟨#[45, 52]⟩ : ByteArray) ⟨#[45, 52]⟩
    exact rc F_ifrom (e 7 (by decide) (by decide)) (rc F_ifrom (e (-2) (by decide) (by decide)) (rc F_idiv d1 (rc F_ifrom (e (-7) (by decide) (by decide)) (rc F_ifrom (e 2 (by decide) (by decide)) (rc F_idiv d2 (ry (ry (rc F_ifrom (e (-3) (by decide) (by decide)) (rI (-3) (rc F_ifrom (e 1 (by decide) (by decide)) (rI 1 (rc F_ifrom (e (-4) (by decide) (by decide)) (rI (-4) (rc F_ifrom (e 1 (by decide) (by decide)) (rI 1 (rc F_itext f1 (rp p1 rr)))))))))))))))))
  · cases h
end Go.Proofs.YtliabkapejhohaaGreatDoor.Sp
