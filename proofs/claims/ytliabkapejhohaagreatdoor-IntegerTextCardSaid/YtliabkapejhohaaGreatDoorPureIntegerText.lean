import Derived.Test.YtliabkapejhohaaGreatDoorSpZ
namespace Go.Proofs.YtliabkapejhohaaGreatDoor.Sp
open Go Go.RowKit Go.Proofs.YtliabkapejhohaaGreatDoorW.PrintWords Go.Proofs.YtliabkapejhohaaGreatDoor.Sx Go.Proofs.YtliabkapejhohaaGreatDoor.NatA Go.Proofs.YtliabkapejhohaaGreatDoor.NatB Go.Proofs.YtliabkapejhohaaGreatDoor.NatC Go.Proofs.YtliabkapejhohaaGreatDoor.NatD Go.Proofs.YtliabkapejhohaaGreatDoor.NatI Go.Proofs.YtliabkapejhohaaGreatDoor.NatJ Go.Proofs.YtliabkapejhohaaGreatDoor.NatN Go.Proofs.YtliabkapejhohaaGreatDoor.NatR Go.Proofs.YtliabkapejhohaaGreatDoor.IntZ Go.Proofs.YtliabkapejhohaaGreatDoor.RatZ
def F_zzs : Fct
  | [.v (.bool _), .v (.string _), .v (.bool _), .v (.string _), .v (.string _)] => some [b_ true]
  | _ => none
theorem F_zzs.inv {ds rs : List D} (h : F_zzs ds = some rs) : ∃ n a m b s, ds = [b_ n, s_ a, b_ m, s_ b, s_ s] ∧ rs = [b_ true] := by
  unfold F_zzs at h
  split at h
  · exact ⟨_, _, _, _, _, rfl, (Option.some.inj h).symm⟩
  · cases h
theorem enc_zero : enc 0 = [b_ false, s_ (⟨#[]⟩ : ByteArray)] := by
  show [b_ (decide ((0 : Int) < 0)), s_ (N 0)] = _
  rw [N_zero]
  rfl
theorem ipar_form (s : ByteArray) : ∃ z ok, ipar s = enc z ++ [b_ ok] := by
  have no : noI = enc 0 ++ [b_ false] := by rw [enc_zero]; rfl
  unfold ipar
  split
  · split
    · exact ⟨_, _, rfl⟩
    · exact ⟨0, false, no⟩
  · split
    · exact ⟨_, _, rfl⟩
    · exact ⟨0, false, no⟩
theorem pu_eqb_self (k : Bool) (x : Bool) : (Pu.bin .eql 4 k).run Tryz.prog [.one (b_ x), .one (b_ x)] = some (b_ true) := by
  rw [pu_eq_b _ _ _ _ under_bool]
  cases x <;> rfl
def tbL : Tb := [(12, F_fixed), (13, F_iparse), (15, F_i64), (14, F_iparse), (16, F_i64), (18, F_itext)] ++ (tbPX ++ tbP)
theorem okL : TbOk Tryz.prog X.G tbL := .cons (by kernel_rfl) g_fixed (.cons (by kernel_rfl) g_iparse (.cons (by kernel_rfl) g_i64 (.cons (by kernel_rfl) r_iparse (.cons (by kernel_rfl) r_small (.cons (by kernel_rfl) r_itext (okPX.app okP))))))
theorem fx : F_fixed [] = some [b_ true] := rfl
theorem g_IntegerText : Sx.Good Tryz.prog X.G 3 ⟨[.agg 2, .agg 2, .one], .v1 .one⟩ F_zzs := good_tree okL (fun _ _ => X.G_below) 400 (by kernel_rfl) (by kernel_rfl : _ = some t_voussoirlaw02_IntegerText) fun ds rs h => by
  obtain ⟨n, a, m, b, s, rfl, rfl⟩ := F_zzs.inv h
  by_cases ha : (a.size : Int) > 40
  · exact rp (pu_len_s under_s a) (rT ha (pu_gt_i 3 true .i64 a.size 40) (rc F_fixed fx rr))
  by_cases hb : (b.size : Int) > 40
  · exact rp (pu_len_s under_s a) (rF ha (pu_gt_i 3 true .i64 a.size 40) (rp (pu_len_s under_s b) (rT hb (pu_gt_i 3 true .i64 b.size 40) (rc F_fixed fx rr))))
  by_cases hs : (s.size : Int) > 100
  · exact rp (pu_len_s under_s a) (rF ha (pu_gt_i 3 true .i64 a.size 40) (rp (pu_len_s under_s b) (rF hb (pu_gt_i 3 true .i64 b.size 40) (rp (pu_len_s under_s s) (rT hs (pu_gt_i 3 true .i64 s.size 100) (rc F_fixed fx rr))))))
  refine rp (pu_len_s under_s a) (rF ha (pu_gt_i 3 true .i64 a.size 40) (rp (pu_len_s under_s b) (rF hb (pu_gt_i 3 true .i64 b.size 40) (rp (pu_len_s under_s s) (rF hs (pu_gt_i 3 true .i64 s.size 100) ?_)))))
  have c1 : F_iparse [s_ s] = some (ipar s) := F_iparse.eq (by omega)
  obtain ⟨p, ok, hp⟩ := ipar_form s
  rw [hp] at c1
  have c2 : F_i64 [b_ n, s_ a] = some [i_ (if P64 (Z n a) then Z n a else 0), b_ (decide (P64 (Z n a)))] := I1.eq (by omega)
  obtain ⟨u, hu⟩ : ∃ u, u = (if P64 (Z n a) then Z n a else 0) := ⟨_, rfl⟩
  obtain ⟨w, hw⟩ : ∃ w, w = decide (P64 (Z n a)) := ⟨_, rfl⟩
  rw [← hu, ← hw] at c2
  have c3 : F_itext [b_ n, s_ a] = some [s_ (itext (Z n a))] := I1.eq (by omega)
  obtain ⟨x, hx⟩ : ∃ x, x = itext (Z n a) := ⟨_, rfl⟩
  rw [← hx] at c3
  have g1 : F_gcd [s_ (⟨#[]⟩ : ByteArray), s_ a] = some [s_ (N (V a))] := by
    have h1 : F_gcd [s_ (⟨#[]⟩ : ByteArray), s_ a] = some [s_ (N (Nat.gcd (V (⟨#[]⟩ : ByteArray)) (V a)))] := S2.eq (by decide) (by omega)
    rw [V_nil, Nat.gcd_zero_left] at h1
    exact h1
  have sa : (N (V a)).size ≤ 40 := N_small (by omega)
  have g2 : F_gcd [s_ (N (V a)), s_ b] = some [s_ (N (Nat.gcd (V a) (V b)))] := by
    have h1 : F_gcd [s_ (N (V a)), s_ b] = some [s_ (N (Nat.gcd (V (N (V a))) (V b)))] := S2.eq (by omega) (by omega)
    rw [V_N] at h1
    exact h1
  have sg' : (N (Nat.gcd (V a) (V b))).size ≤ 40 := by
    by_cases h0 : V a = 0
    · rw [h0, Nat.gcd_zero_left]
      exact N_small (by omega)
    · exact Nat.le_trans (size_gcd a (V b) (Nat.le_refl _) h0) (by omega)
  obtain ⟨q, hq⟩ : ∃ q, q = Nat.gcd (V a) (V b) := ⟨_, rfl⟩
  rw [← hq] at g2 sg'
  have g3 : F_of [b_ false, s_ (N q)] = some (enc (sg false q)) := F_of.eq
  have g4 := inorm_of false sg' (by decide)
  obtain ⟨z, hz⟩ : ∃ z, z = sg false q := ⟨_, rfl⟩
  rw [← hz] at g3 g4
  have g5 : F_of [b_ false, s_ (⟨#[]⟩ : ByteArray)] = some [b_ false, s_ (⟨#[]⟩ : ByteArray)] := by
    have h1 : F_of [b_ false, s_ (N 0)] = some (enc (sg false 0)) := F_of.eq
    rw [N_zero, show sg false 0 = 0 from rfl, enc_zero] at h1
    exact h1
  have g6 := eq_int false 0 0
  rw [enc_zero] at g6
  clear hp hu hw hx hq hz ha hb hs sa sg'
  have e1 := pu_eq_s (P := Tryz.prog) 9 false x x
  have e2 := pu_eqb_self false ok
  have e3 := pu_eq_i (P := Tryz.prog) 2 false .i64 u u
  have e4 := pu_eqb_self false w
  exact rc F_iparse c1 (rc F_iparse c1 (rc F_i64 c2 (rc F_i64 c2 (rc F_fixed fx (ry (rc F_itext c3 (rc F_itext c3 (rT (q := x = x) rfl e1 (rI p (rp e2 (ry (rT (q := u = u) rfl e3 (rp e4 (ry (rc F_gcd g1 (rc F_gcd g2 (rc F_of g3 (rc F_gcd g1 (rc F_gcd g2 (rc F_inorm g4 (rI z (rc F_of g5 (rp g6 rr)))))))))))))))))))))))
end Go.Proofs.YtliabkapejhohaaGreatDoor.Sp
