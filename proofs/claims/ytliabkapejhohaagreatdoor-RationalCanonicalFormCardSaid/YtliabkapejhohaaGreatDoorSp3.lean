/- MERGED by merge.py: SpQ SpE SpT SpV -/
import Derived.Test.YtliabkapejhohaaGreatDoorSpI
import Derived.Test.YtliabkapejhohaaGreatDoorTr1
import Derived.Test.YtliabkapejhohaaGreatDoorNatR
import Derived.Test.YtliabkapejhohaaGreatDoorPxNatParse
namespace Go.Proofs.YtliabkapejhohaaGreatDoor.Sp
open Go Go.RowKit Go.Proofs.YtliabkapejhohaaGreatDoor.Sx Go.Proofs.YtliabkapejhohaaGreatDoor.NatA Go.Proofs.YtliabkapejhohaaGreatDoor.NatB Go.Proofs.YtliabkapejhohaaGreatDoor.NatC Go.Proofs.YtliabkapejhohaaGreatDoor.NatD Go.Proofs.YtliabkapejhohaaGreatDoor.NatI Go.Proofs.YtliabkapejhohaaGreatDoor.NatJ Go.Proofs.YtliabkapejhohaaGreatDoor.IntZ Go.Proofs.YtliabkapejhohaaGreatDoor.RatZ
abbrev encR (q : Rat) : List D := [.v (.bool (I q.num).1), .v (.string (I q.num).2), .v (.string (dnc q.den))]
def Rc (lim : Nat) (g : Int → Int → List D) : Fct
 | [.v (.bool n), .v (.string a), .v (.string b)] => if a.size ≤ lim ∧ b.size ≤ lim then some (g (Z n a) (dn b)) else none
 | _ => none
def R1 (lim : Nat) (g : Rat → List D) : Fct := Rc lim fun x y => g (Rat.divInt x y)
def R2 (g : Rat → Rat → List D) : Fct
 | [.v (.bool n), .v (.string a), .v (.string b), .v (.bool m), .v (.string c), .v (.string d)] => if (a.size ≤ 2000 ∧ b.size ≤ 2000) ∧ c.size ≤ 2000 ∧ d.size ≤ 2000 then some (g (qv n a b) (qv m c d)) else none
 | _ => none
theorem Rc.eq {lim : Nat} {g : Int → Int → List D} {n : Bool} {a b : ByteArray} (ha : a.size ≤ lim) (hb : b.size ≤ lim) : Rc lim g [b_ n, s_ a, s_ b] = some (g (Z n a) (dn b)) := if_pos ⟨ha, hb⟩
theorem Rc.can {lim : Nat} {g : Int → Int → List D} {q : Rat} (h : Sq lim q) : Rc lim g (encR q) = some (g q.num q.den) := by
 have := Rc.eq (g := g) (n := (I q.num).1) h.1 h.dnc
 rw [Z_I, dn_dnc q.den_nz] at this
 exact this
theorem Rc.inv {lim : Nat} {g : Int → Int → List D} {ds rs : List D} (h : Rc lim g ds = some rs) : ∃ n a b, ds = [b_ n, s_ a, s_ b] ∧ a.size ≤ lim ∧ b.size ≤ lim ∧ rs = g (Z n a) (dn b) := by
 unfold Rc at h
 split at h
 ·split at h
  ·rename_i hc
   exact ⟨_, _, _, rfl, hc.1, hc.2, (Option.some.inj h).symm⟩
  ·cases h
 ·cases h
theorem R1.eq {lim : Nat} {g : Rat → List D} {n : Bool} {a b : ByteArray} (ha : a.size ≤ lim) (hb : b.size ≤ lim) : R1 lim g [b_ n, s_ a, s_ b] = some (g (qv n a b)) := Rc.eq ha hb
theorem R1.can {lim : Nat} {g : Rat → List D} {q : Rat} (h : Sq lim q) : R1 lim g (encR q) = some (g q) := by
 have : R1 lim g (encR q) = some (g (Rat.divInt q.num q.den)) := Rc.can h
 rw [Rat.num_divInt_den] at this
 exact this
theorem R1.inv {lim : Nat} {g : Rat → List D} {ds rs : List D} (h : R1 lim g ds = some rs) : ∃ n a b, ds = [b_ n, s_ a, s_ b] ∧ a.size ≤ lim ∧ b.size ≤ lim ∧ rs = g (qv n a b) := Rc.inv h
theorem R2.eq {g : Rat → Rat → List D} {n m : Bool} {a b c d : ByteArray} (ha : a.size ≤ 2000) (hb : b.size ≤ 2000) (hc : c.size ≤ 2000) (hd : d.size ≤ 2000) : R2 g [b_ n, s_ a, s_ b, b_ m, s_ c, s_ d] = some (g (qv n a b) (qv m c d)) := if_pos ⟨⟨ha, hb⟩, hc, hd⟩
theorem R2.can {g : Rat → Rat → List D} {x y : Rat} (hx : Sq 2000 x) (hy : Sq 2000 y) : R2 g (encR x ++ encR y) = some (g x y) := by
 have := R2.eq (g := g) (n := (I x.num).1) (m := (I y.num).1) hx.1 hx.dnc hy.1 hy.dnc
 rw [qv_enc, qv_enc] at this
 exact this
theorem R2.left {g : Rat → Rat → List D} {n : Bool} {a b : ByteArray} {y : Rat} (ha : a.size ≤ 2000) (hb : b.size ≤ 2000) (hy : Sq 2000 y) : R2 g ([b_ n, s_ a, s_ b] ++ encR y) = some (g (qv n a b) y) := by
 have := R2.eq (g := g) (n := n) (m := (I y.num).1) ha hb hy.1 hy.dnc
 rw [qv_enc] at this
 exact this
theorem R2.right {g : Rat → Rat → List D} {n : Bool} {a b : ByteArray} {y : Rat} (ha : a.size ≤ 2000) (hb : b.size ≤ 2000) (hy : Sq 2000 y) : R2 g (encR y ++ [b_ n, s_ a, s_ b]) = some (g y (qv n a b)) := by
 have := R2.eq (g := g) (n := (I y.num).1) (m := n) hy.1 hy.dnc ha hb
 rw [qv_enc] at this
 exact this
theorem R2.inv {g : Rat → Rat → List D} {ds rs : List D} (h : R2 g ds = some rs) : ∃ n a b m c d, ds = [b_ n, s_ a, s_ b, b_ m, s_ c, s_ d] ∧ a.size ≤ 2000 ∧ b.size ≤ 2000 ∧ c.size ≤ 2000 ∧ d.size ≤ 2000 ∧ rs = g (qv n a b) (qv m c d) := by
 unfold R2 at h
 split at h
 ·split at h
  ·rename_i hc
   exact ⟨_, _, _, _, _, _, rfl, hc.1.1, hc.1.2, hc.2.1, hc.2.2, (Option.some.inj h).symm⟩
  ·cases h
 ·cases h
theorem I_nat (x : Nat) : I (x : Int) = (false, N x) := by
 unfold I
 rw [decide_eq_false (by omega), Int.natAbs_natCast]
theorem I_sg (c : Bool) {k : Nat} (h : k ≠ 0) : I (sg c k) = (c, N k) := by
 unfold I
 rw [natAbs_sg]
 congr 1
 cases c
 ·exact decide_eq_false (by unfold sg; rw [if_neg (by decide)]; omega)
 ·exact decide_eq_true (by unfold sg; rw [if_pos rfl]; omega)
theorem N_one : N 1 = (⟨#[1]⟩ : ByteArray) := N_V (a := (⟨#[1]⟩ : ByteArray)) (.inr (by decide))
theorem N_one_iff {k : Nat} : N k = (⟨#[1]⟩ : ByteArray) ↔ k = 1 := by rw [← N_one, N_inj]
theorem encR_zero : encR 0 = [b_ false, s_ (⟨#[]⟩ : ByteArray), s_ (⟨#[]⟩ : ByteArray)] := by
 show [b_ (I (0 : Int)).1, s_ (I (0 : Int)).2, s_ (dnc 1)] = _
 rw [show I (0 : Int) = (false, N 0) from I_nat 0, N_zero]
 rfl
theorem encR_div (n m : Bool) {p q : Nat} (hp : p ≠ 0) (hq : q ≠ 0) : encR (Rat.divInt (sg n p) (sg m q)) = [b_ (!(n == m)), s_ (N (p / Nat.gcd p q)), s_ (dnc (q / Nat.gcd p q))] := by
 have h : p / Nat.gcd p q ≠ 0 := by
  have h1 : Nat.gcd p q ≤ p := Nat.le_of_dvd (by omega) (Nat.gcd_dvd_left p q)
  have h2 : 0 < Nat.gcd p q := Nat.gcd_pos_of_pos_left _ (by omega)
  have := Nat.div_pos h1 h2
  omega
 have e1 := div_num n m (p := p) hq
 have e2 := div_den n m (p := p) hq
 show [b_ (I (Rat.divInt (sg n p) (sg m q)).num).1, s_ (I (Rat.divInt (sg n p) (sg m q)).num).2, s_ (dnc (Rat.divInt (sg n p) (sg m q)).den)] = _
 rw [e1, e2, I_sg _ h]
 cases n <;> cases m <;> rfl
theorem Z_zero {n : Bool} {a : ByteArray} : Z n a = 0 ↔ V a = 0 := by
 have := natAbs_Z n a
 omega
theorem sgn_zero {z : Int} : (sgn z == 0) = decide (z = 0) := by
 rw [Bool.eq_iff_iff, beq_iff_eq, decide_eq_true_iff]
 unfold sgn
 split
 ·omega
 ·split <;> omega
def F_parts : Fct := Rc 9000 fun x y => enc x ++ enc y
def F_make : Fct := I2 fun x y => encR (Rat.divInt x y) ++ [b_ (!decide (y = 0))]
def F_made : Fct := I2 fun x y => encR (Rat.divInt x y)
def F_rnorm : Fct := R1 9000 encR
def F_rfrom : Fct
 | [.v (.int .i64 n)] => if -9223372036854775808 ≤ n ∧ n ≤ 9223372036854775807 then some (encR (Rat.divInt n 1)) else none
 | _ => none
theorem F_rfrom.eq {n : Int} (h0 : -9223372036854775808 ≤ n) (h1 : n ≤ 9223372036854775807) : F_rfrom [i_ n] = some (encR (Rat.divInt n 1)) := by
 unfold F_rfrom
 dsimp only
 rw [if_pos ⟨h0, h1⟩]
theorem F_rfrom.inv {ds rs : List D} (h : F_rfrom ds = some rs) : ∃ n, ds = [i_ n] ∧ -9223372036854775808 ≤ n ∧ n ≤ 9223372036854775807 ∧ rs = encR (Rat.divInt n 1) := by
 unfold F_rfrom at h
 split at h
 ·split at h
  ·rename_i hc
   exact ⟨_, rfl, hc.1, hc.2, (Option.some.inj h).symm⟩
  ·cases h
 ·cases h
def F_numden : Fct := R1 9000 fun q => enc q.num ++ enc q.den
def F_rcmp : Fct := R2 fun x y => [i_ (sgn (x - y).num)]
def F_rsign : Fct := R1 9000 fun q => [i_ (sgn q.num)]
def F_rneg : Fct := R1 9000 fun q => encR (-q)
def F_radd : Fct := R2 fun x y => encR (x + y)
def F_rsub : Fct := R2 fun x y => encR (x - y)
def F_rmul : Fct := R2 fun x y => encR (x * y)
def F_rdiv : Fct := R2 fun x y => encR (x / y) ++ [b_ (!decide (y = 0))]
def F_floor : Fct := R1 9000 fun q => enc q.floor
theorem qv_zero {n : Bool} {a b : ByteArray} : qv n a b = 0 ↔ Z n a = 0 := by
 have hd := dn_pos b
 have : qv n a b = 0 ↔ Rat.divInt (Z n a) (dn b) = Rat.divInt 0 1 := by rw [Rat.zero_divInt]; rfl
 rw [this, Rat.divInt_eq_divInt_iff (by omega) (by omega)]
 omega
theorem g_parts : Sx.Good Tryz.prog X.G 73 ⟨[.agg 3], .tup [.agg 2, .agg 2]⟩ F_parts := good_tree ok11 (fun _ _ => X.G_below) 400 (by kernel_rfl) (by kernel_rfl : _ = some t_rational_parts) fun ds rs h => by
 obtain ⟨n, a, b, rfl, ha, hb, rfl⟩ := Rc.inv h
 refine ⟨0, go_call F_norm rfl rfl (S1.eq (by omega)) rfl (go_pure rfl (pu_eq_s _ _ _ _) (go_ite rfl (fun e => ?_) (fun e => ?_)))⟩
 ·have hz := N_nil.1 (of_decide_eq_true e)
  refine go_call F_ifrom rfl rfl (F_ifrom.eq (n := 1) (by decide) (by decide)) rfl (go_call F_inorm rfl rfl (I1.eq (by omega)) rfl (go_ret ?_))
  have hd : dn b = 1 := if_pos hz
  rw [hd]
  rfl
 ·have hz : ¬ V b = 0 := fun h => of_decide_eq_false e (N_nil.2 h)
  refine go_call F_inorm rfl rfl (I1.eq (by omega)) rfl (go_ret ?_)
  have hd : dn b = (V b : Int) := if_neg hz
  rw [hd]
  show some (enc (Z n a) ++ [b_ false, s_ (N (V b))]) = some (enc (Z n a) ++ [b_ (I (V b : Int)).1, s_ (I (V b : Int)).2])
  rw [I_nat]
def tbQ0 : Tb := (73, F_parts) :: tb11
theorem okQ0 : TbOk Tryz.prog X.G tbQ0 := .cons (by kernel_rfl) g_parts ok11
theorem g_make : Sx.Good Tryz.prog X.G 23 ⟨[.agg 2, .agg 2], .tup [.agg 3, .one]⟩ F_make := good_tree okQ0 (fun _ _ => X.G_below) 400 (by kernel_rfl) (by kernel_rfl : _ = some t_rational_Make) fun ds rs h => by
 obtain ⟨n, a, m, b, rfl, ha, hb, rfl⟩ := I2.inv h
 refine ⟨0, go_call F_isign rfl rfl (I1.eq (by omega)) rfl (go_pure rfl (pu_eq_i _ _ _ _ _) ?_)⟩
 rw [sgn_zero]
 by_cases hz : Z m b = 0
 ·refine go_true (congrArg (fun x => some (b_ x)) (decide_eq_true hz)) (go_ret ?_)
  rw [hz, Rat.divInt_zero, encR_zero]
  rfl
 refine go_false (congrArg (fun x => some (b_ x)) (decide_eq_false hz)) (go_call F_isign rfl rfl (I1.eq (by omega)) rfl (go_pure rfl (pu_eq_i _ _ _ _ _) ?_))
 rw [sgn_zero]
 by_cases hx : Z n a = 0
 ·refine go_true (congrArg (fun x => some (b_ x)) (decide_eq_true hx)) (go_ret ?_)
  rw [hx, Rat.zero_divInt, encR_zero, decide_eq_false hz]
  rfl
 refine go_false (congrArg (fun x => some (b_ x)) (decide_eq_false hx)) ?_
 have hb0 : V b ≠ 0 := fun h => hz (Z_zero.2 h)
 have ha0 : V a ≠ 0 := fun h => hx (Z_zero.2 h)
 have hg : Nat.gcd (V a) (V b) ≠ 0 := fun h => hb0 (Nat.gcd_eq_zero_iff.1 h).2
 have hgs : (N (Nat.gcd (V a) (V b))).size ≤ 9000 := Nat.le_trans ((N_size _ b.size).2 (Nat.lt_of_le_of_lt (gcd_le_right hb0) (V_lt b))) hb
 refine go_call F_gcd rfl rfl (S2.eq (by omega) (by omega)) rfl (go_pure rfl (pu_ne_b _ _ _ _ under_bool) (go_call F_div rfl rfl (S2.eq (by omega) (by omega)) rfl ?_))
 rw [V_N]
 unfold divR
 rw [if_neg hg]
 refine go_call F_div rfl rfl (S2.eq (by omega) (by omega)) rfl ?_
 rw [V_N]
 unfold divR
 rw [if_neg hg]
 have e := encR_div n m ha0 hb0
 have e : encR (Rat.divInt (Z n a) (Z m b)) = _ := e
 rw [e, decide_eq_false hz]
 unfold dnc
 refine go_pure rfl (pu_eq_s _ _ _ _) (go_ite rfl (fun h1 => ?_) (fun h1 => ?_))
 ·rw [if_pos (N_one_iff.1 (of_decide_eq_true h1))]
  exact go_ret rfl
 ·rw [if_neg (fun h => of_decide_eq_false h1 (N_one_iff.2 h))]
  exact go_ret rfl
def tbQ1 : Tb := (23, F_make) :: tbQ0
theorem okQ1 : TbOk Tryz.prog X.G tbQ1 := .cons (by kernel_rfl) g_make okQ0
theorem g_made : Sx.Good Tryz.prog X.G 78 ⟨[.agg 2, .agg 2], .v1 (.agg 3)⟩ F_made := good_tree okQ1 (fun _ _ => X.G_below) 400 (by kernel_rfl) (by kernel_rfl : _ = some t_rational_made) fun ds rs h => by
 obtain ⟨n, a, m, b, rfl, ha, hb, rfl⟩ := I2.inv h
 exact ⟨0, go_call F_make rfl rfl (I2.eq ha hb) rfl (go_ret rfl)⟩
def tbQ2 : Tb := (78, F_made) :: tbQ1
theorem okQ2 : TbOk Tryz.prog X.G tbQ2 := .cons (by kernel_rfl) g_made okQ1
theorem g_rnorm : Sx.Good Tryz.prog X.G 29 ⟨[.agg 3], .v1 (.agg 3)⟩ F_rnorm := good_tree okQ2 (fun _ _ => X.G_below) 400 (by kernel_rfl) (by kernel_rfl : _ = some t_rational_Normalize) fun ds rs h => by
 obtain ⟨n, a, b, rfl, ha, hb, rfl⟩ := R1.inv h
 have s1 : Sz 9000 (Z n a) := .of ha
 have s2 : Sz 9000 (dn b) := .dn hb (by decide)
 exact ⟨0, go_call F_parts rfl rfl (Rc.eq ha hb) rfl (go_call F_made rfl rfl (I2.can s1 s2) rfl (go_ret rfl))⟩
def tbQ3 : Tb := (29, F_rnorm) :: tbQ2
theorem okQ3 : TbOk Tryz.prog X.G tbQ3 := .cons (by kernel_rfl) g_rnorm okQ2
theorem g_rfrom : Sx.Good Tryz.prog X.G 44 ⟨[.one], .v1 (.agg 3)⟩ F_rfrom := good_tree okQ3 (fun _ _ => X.G_below) 400 (by kernel_rfl) (by kernel_rfl : _ = some t_rational_FromInt64) fun ds rs h => by
 obtain ⟨n, rfl, h0, h1, rfl⟩ := F_rfrom.inv h
 exact ⟨0, go_call F_ifrom rfl rfl (F_ifrom.eq h0 h1) rfl (go_call F_ifrom rfl rfl (F_ifrom.eq (n := 1) (by decide) (by decide)) rfl (go_call F_made rfl rfl (I2.can ((Sz.i64 h0 h1).le (by decide)) (Sz.one.le (by decide))) rfl (go_ret rfl)))⟩
def tbQ4 : Tb := (44, F_rfrom) :: tbQ3
theorem okQ4 : TbOk Tryz.prog X.G tbQ4 := .cons (by kernel_rfl) g_rfrom okQ3
theorem g_numden : Sx.Good Tryz.prog X.G 26 ⟨[.agg 3], .tup [.agg 2, .agg 2]⟩ F_numden := good_tree okQ4 (fun _ _ => X.G_below) 400 (by kernel_rfl) (by kernel_rfl : _ = some t_rational_NumDenom) fun ds rs h => by
 obtain ⟨n, a, b, rfl, ha, hb, rfl⟩ := R1.inv h
 have hq : Sq 9000 (qv n a b) := .qv (by decide) ha hb
 exact ⟨0, go_call F_rnorm rfl rfl (R1.eq ha hb) rfl (go_call F_parts rfl rfl (Rc.can hq) rfl (go_ret rfl))⟩
def tbQ5 : Tb := (26, F_numden) :: tbQ4
theorem okQ5 : TbOk Tryz.prog X.G tbQ5 := .cons (by kernel_rfl) g_numden okQ4
theorem g_rcmp : Sx.Good Tryz.prog X.G 43 ⟨[.agg 3, .agg 3], .v1 .one⟩ F_rcmp := good_tree okQ5 (fun _ _ => X.G_below) 400 (by kernel_rfl) (by kernel_rfl : _ = some t_rational_Cmp) fun ds rs h => by
 obtain ⟨n, a, b, m, c, d, rfl, ha, hb, hc, hd, rfl⟩ := R2.inv h
 have s1 : Sz 2000 (Z n a) := .of ha
 have s2 : Sz 2000 (dn b) := .dn hb (by decide)
 have s3 : Sz 2000 (Z m c) := .of hc
 have s4 : Sz 2000 (dn d) := .dn hd (by decide)
 refine ⟨0, go_call F_parts rfl rfl (Rc.eq (by omega) (by omega)) rfl (go_call F_parts rfl rfl (Rc.eq (by omega) (by omega)) rfl (go_call F_imul rfl rfl (I2.can (s1.le (by decide)) (s4.le (by decide))) rfl (go_call F_imul rfl rfl (I2.can (s3.le (by decide)) (s2.le (by decide))) rfl (go_call F_icmp rfl rfl (I2.can ((s1.mul s4).le (by decide)) ((s3.mul s2).le (by decide))) rfl (go_ret ?_)))))⟩
 rw [← qv_sub]
 rfl
def tbQ6 : Tb := (43, F_rcmp) :: tbQ5
theorem okQ6 : TbOk Tryz.prog X.G tbQ6 := .cons (by kernel_rfl) g_rcmp okQ5
theorem g_rsign : Sx.Good Tryz.prog X.G 31 ⟨[.agg 3], .v1 .one⟩ F_rsign := good_tree okQ6 (fun _ _ => X.G_below) 400 (by kernel_rfl) (by kernel_rfl : _ = some t_rational_Sign) fun ds rs h => by
 obtain ⟨n, a, b, rfl, ha, hb, rfl⟩ := R1.inv h
 have s1 : Sz 9000 (Z n a) := .of ha
 refine ⟨0, go_call F_parts rfl rfl (Rc.eq ha hb) rfl (go_call F_isign rfl rfl (I1.can (s1.le (by decide))) rfl (go_ret ?_))⟩
 unfold qv
 rw [sgn_num (dn_pos b)]
 rfl
def tbQ7 : Tb := (31, F_rsign) :: tbQ6
theorem okQ7 : TbOk Tryz.prog X.G tbQ7 := .cons (by kernel_rfl) g_rsign okQ6
theorem g_rneg : Sx.Good Tryz.prog X.G 52 ⟨[.agg 3], .v1 (.agg 3)⟩ F_rneg := good_tree okQ7 (fun _ _ => X.G_below) 400 (by kernel_rfl) (by kernel_rfl : _ = some t_rational_Neg) fun ds rs h => by
 obtain ⟨n, a, b, rfl, ha, hb, rfl⟩ := R1.inv h
 have s1 : Sz 9000 (Z n a) := .of ha
 have s2 : Sz 9000 (dn b) := .dn hb (by decide)
 refine ⟨0, go_call F_parts rfl rfl (Rc.eq ha hb) rfl (go_call F_ineg rfl rfl (I1.can (s1.le (by decide))) rfl (go_call F_made rfl rfl (I2.can s1.neg s2) rfl (go_ret ?_)))⟩
 unfold qv
 rw [Rat.neg_divInt]
 rfl
def tbQ8 : Tb := (52, F_rneg) :: tbQ7
theorem okQ8 : TbOk Tryz.prog X.G tbQ8 := .cons (by kernel_rfl) g_rneg okQ7
theorem g_radd : Sx.Good Tryz.prog X.G 45 ⟨[.agg 3, .agg 3], .v1 (.agg 3)⟩ F_radd := good_tree okQ8 (fun _ _ => X.G_below) 400 (by kernel_rfl) (by kernel_rfl : _ = some t_rational_Add) fun ds rs h => by
 obtain ⟨n, a, b, m, c, d, rfl, ha, hb, hc, hd, rfl⟩ := R2.inv h
 have s1 : Sz 2000 (Z n a) := .of ha
 have s2 : Sz 2000 (dn b) := .dn hb (by decide)
 have s3 : Sz 2000 (Z m c) := .of hc
 have s4 : Sz 2000 (dn d) := .dn hd (by decide)
 refine ⟨0, go_call F_parts rfl rfl (Rc.eq (by omega) (by omega)) rfl (go_call F_parts rfl rfl (Rc.eq (by omega) (by omega)) rfl (go_call F_imul rfl rfl (I2.can (s1.le (by decide)) (s4.le (by decide))) rfl (go_call F_imul rfl rfl (I2.can (s3.le (by decide)) (s2.le (by decide))) rfl (go_call F_iadd rfl rfl (I2.can ((s1.mul s4).le (by decide)) ((s3.mul s2).le (by decide))) rfl (go_call F_imul rfl rfl (I2.can (s2.le (by decide)) (s4.le (by decide))) rfl (go_call F_made rfl rfl (I2.can (((s1.mul s4).add (s3.mul s2)).le (by decide)) ((s2.mul s4).le (by decide))) rfl (go_ret ?_)))))))⟩
 have h1 := dn_pos b
 have h2 := dn_pos d
 unfold qv
 rw [Rat.divInt_add_divInt _ _ (by omega) (by omega)]
 rfl
def tbQ9 : Tb := (45, F_radd) :: tbQ8
theorem okQ9 : TbOk Tryz.prog X.G tbQ9 := .cons (by kernel_rfl) g_radd okQ8
theorem g_rsub : Sx.Good Tryz.prog X.G 41 ⟨[.agg 3, .agg 3], .v1 (.agg 3)⟩ F_rsub := good_tree okQ9 (fun _ _ => X.G_below) 400 (by kernel_rfl) (by kernel_rfl : _ = some t_rational_Sub) fun ds rs h => by
 obtain ⟨n, a, b, m, c, d, rfl, ha, hb, hc, hd, rfl⟩ := R2.inv h
 have hq : Sq 2000 (qv m c d) := .qv (by decide) hc hd
 refine ⟨0, go_call F_rneg rfl rfl (R1.eq (by omega) (by omega)) rfl (go_call F_radd rfl rfl (R2.left ha hb hq.neg) rfl (go_ret ?_))⟩
 rw [Rat.sub_eq_add_neg]
 rfl
def tbQ10 : Tb := (41, F_rsub) :: tbQ9
theorem okQ10 : TbOk Tryz.prog X.G tbQ10 := .cons (by kernel_rfl) g_rsub okQ9
theorem g_rmul : Sx.Good Tryz.prog X.G 46 ⟨[.agg 3, .agg 3], .v1 (.agg 3)⟩ F_rmul := good_tree okQ10 (fun _ _ => X.G_below) 400 (by kernel_rfl) (by kernel_rfl : _ = some t_rational_Mul) fun ds rs h => by
 obtain ⟨n, a, b, m, c, d, rfl, ha, hb, hc, hd, rfl⟩ := R2.inv h
 have s1 : Sz 2000 (Z n a) := .of ha
 have s2 : Sz 2000 (dn b) := .dn hb (by decide)
 have s3 : Sz 2000 (Z m c) := .of hc
 have s4 : Sz 2000 (dn d) := .dn hd (by decide)
 refine ⟨0, go_call F_parts rfl rfl (Rc.eq (by omega) (by omega)) rfl (go_call F_parts rfl rfl (Rc.eq (by omega) (by omega)) rfl (go_call F_imul rfl rfl (I2.can (s1.le (by decide)) (s3.le (by decide))) rfl (go_call F_imul rfl rfl (I2.can (s2.le (by decide)) (s4.le (by decide))) rfl (go_call F_made rfl rfl (I2.can ((s1.mul s3).le (by decide)) ((s2.mul s4).le (by decide))) rfl (go_ret ?_)))))⟩
 unfold qv
 rw [Rat.divInt_mul_divInt]
 rfl
def tbQ11 : Tb := (46, F_rmul) :: tbQ10
theorem okQ11 : TbOk Tryz.prog X.G tbQ11 := .cons (by kernel_rfl) g_rmul okQ10
theorem g_rdiv : Sx.Good Tryz.prog X.G 47 ⟨[.agg 3, .agg 3], .tup [.agg 3, .one]⟩ F_rdiv := good_tree okQ11 (fun _ _ => X.G_below) 400 (by kernel_rfl) (by kernel_rfl : _ = some t_rational_Div) fun ds rs h => by
 obtain ⟨n, a, b, m, c, d, rfl, ha, hb, hc, hd, rfl⟩ := R2.inv h
 have s1 : Sz 2000 (Z n a) := .of ha
 have s2 : Sz 2000 (dn b) := .dn hb (by decide)
 have s3 : Sz 2000 (Z m c) := .of hc
 have s4 : Sz 2000 (dn d) := .dn hd (by decide)
 refine ⟨0, go_call F_parts rfl rfl (Rc.eq (by omega) (by omega)) rfl (go_call F_parts rfl rfl (Rc.eq (by omega) (by omega)) rfl (go_call F_imul rfl rfl (I2.can (s1.le (by decide)) (s4.le (by decide))) rfl (go_call F_imul rfl rfl (I2.can (s2.le (by decide)) (s3.le (by decide))) rfl (go_call F_make rfl rfl (I2.can ((s1.mul s4).le (by decide)) ((s2.mul s3).le (by decide))) rfl (go_ret ?_)))))⟩
 have e : decide (dn b * Z m c = 0) = decide (qv m c d = 0) := by
  have := dn_pos b
  rw [Bool.eq_iff_iff, decide_eq_true_iff, decide_eq_true_iff, qv_zero, Int.mul_eq_zero]
  omega
 unfold qv at *
 rw [divInt_div, ← e]
 rfl
def tbQ12 : Tb := (47, F_rdiv) :: tbQ11
theorem okQ12 : TbOk Tryz.prog X.G tbQ12 := .cons (by kernel_rfl) g_rdiv okQ11
theorem g_floor : Sx.Good Tryz.prog X.G 39 ⟨[.agg 3], .v1 (.agg 2)⟩ F_floor := good_tree okQ12 (fun _ _ => X.G_below) 400 (by kernel_rfl) (by kernel_rfl : _ = some t_rational_Floor) fun ds rs h => by
 obtain ⟨n, a, b, rfl, ha, hb, rfl⟩ := R1.inv h
 have s1 : Sz 9000 (Z n a) := .of ha
 have s2 : Sz 9000 (dn b) := .dn hb (by decide)
 have hd := dn_pos b
 refine ⟨0, go_call F_parts rfl rfl (Rc.eq ha hb) rfl ?_⟩
 have e : F_idiv (enc (Z n a) ++ enc (dn b)) = some (enc (Z n a / dn b) ++ enc (Z n a % dn b) ++ [b_ true]) := by
  rw [F_idiv, I2.can s1 s2]
  unfold gdiv idivR
  rw [if_neg (by omega)]
  rfl
 refine go_call F_idiv rfl rfl e rfl (go_ret ?_)
 unfold qv
 rw [floor_div hd]
 rfl
def tbQ13 : Tb := (39, F_floor) :: tbQ12
theorem okQ13 : TbOk Tryz.prog X.G tbQ13 := .cons (by kernel_rfl) g_floor okQ12
end Go.Proofs.YtliabkapejhohaaGreatDoor.Sp
namespace Go.Proofs.YtliabkapejhohaaGreatDoor.Sp
open Go Go.RowKit Go.Proofs.YtliabkapejhohaaGreatDoor.Sx Go.Proofs.YtliabkapejhohaaGreatDoor.NatA Go.Proofs.YtliabkapejhohaaGreatDoor.NatB Go.Proofs.YtliabkapejhohaaGreatDoor.NatC Go.Proofs.YtliabkapejhohaaGreatDoor.NatD Go.Proofs.YtliabkapejhohaaGreatDoor.NatI Go.Proofs.YtliabkapejhohaaGreatDoor.NatJ Go.Proofs.YtliabkapejhohaaGreatDoor.IntZ Go.Proofs.YtliabkapejhohaaGreatDoor.RatZ
theorem cells_int (x y : Int) : cellsE [.bool (I x).1, .string (I x).2] [.bool (I y).1, .string (I y).2] = decide (x = y) := by
 have e : cellsE [.bool (I x).1, .string (I x).2] [.bool (I y).1, .string (I y).2] = ((I x).1 == (I y).1 && (cellE (.string (I x).2) (.string (I y).2) && true)) := rfl
 rw [e, cellE_s, Bool.eq_iff_iff, Bool.and_true, Bool.and_eq_true, beq_iff_eq, decide_eq_true_iff, decide_eq_true_iff, ← I_inj]
 exact ⟨fun h => Prod.ext h.1 h.2, fun h => by rw [h]; exact ⟨rfl, rfl⟩⟩
theorem dnc_inj {a b : Nat} (ha : a ≠ 0) (hb : b ≠ 0) (h : dnc a = dnc b) : a = b := by
 have h1 := dn_dnc ha
 rw [h, dn_dnc hb] at h1
 omega
theorem cells_rat (x y : Rat) : cellsE [.bool (I x.num).1, .string (I x.num).2, .string (dnc x.den)] [.bool (I y.num).1, .string (I y.num).2, .string (dnc y.den)] = decide (x = y) := by
 have e : cellsE [.bool (I x.num).1, .string (I x.num).2, .string (dnc x.den)] [.bool (I y.num).1, .string (I y.num).2, .string (dnc y.den)] = ((I x.num).1 == (I y.num).1 && (cellE (.string (I x.num).2) (.string (I y.num).2) && (cellE (.string (dnc x.den)) (.string (dnc y.den)) && true))) := rfl
 rw [e, cellE_s, cellE_s, Bool.eq_iff_iff, Bool.and_true, Bool.and_eq_true, Bool.and_eq_true, beq_iff_eq, decide_eq_true_iff, decide_eq_true_iff, decide_eq_true_iff]
 constructor
 ·rintro ⟨h1, h2, h3⟩
  exact Rat.ext (I_inj.1 (Prod.ext h1 h2)) (dnc_inj x.den_nz y.den_nz h3)
 ·rintro rfl
  exact ⟨rfl, rfl, rfl⟩
theorem eq_int (k : Bool) (x y : Int) : (Pu.bin .eql 23 k).run Tryz.prog [.agg (enc x), .agg (enc y)] = some (b_ (decide (x = y))) := by
 rw [← cells_int]
 exact (pu_eq_agg' (P := Tryz.prog) (t := 23) k (ks := [.b, .s]) (by kernel_rfl) (by kernel_rfl) (xs := [.bool (I x).1, .string (I x).2]) (ys := [.bool (I y).1, .string (I y).2]) rfl rfl).1
theorem eq_rat (k : Bool) (x y : Rat) : (Pu.bin .eql 37 k).run Tryz.prog [.agg (encR x), .agg (encR y)] = some (b_ (decide (x = y))) := by
 rw [← cells_rat]
 exact (pu_eq_agg' (P := Tryz.prog) (t := 37) k (ks := [.b, .s, .s]) (by kernel_rfl) (by kernel_rfl) (xs := [.bool (I x.num).1, .string (I x.num).2, .string (dnc x.den)]) (ys := [.bool (I y.num).1, .string (I y.num).2, .string (dnc y.den)]) rfl rfl).1
end Go.Proofs.YtliabkapejhohaaGreatDoor.Sp
namespace Go.Proofs.YtliabkapejhohaaGreatDoor.Sp
open Go Go.RowKit Go.Proofs.YtliabkapejhohaaGreatDoorW.PrintWords Go.Proofs.YtliabkapejhohaaGreatDoor.P Go.Proofs.YtliabkapejhohaaGreatDoor.Sx Go.Proofs.YtliabkapejhohaaGreatDoor.NatA Go.Proofs.YtliabkapejhohaaGreatDoor.NatB Go.Proofs.YtliabkapejhohaaGreatDoor.NatC Go.Proofs.YtliabkapejhohaaGreatDoor.NatD Go.Proofs.YtliabkapejhohaaGreatDoor.NatI Go.Proofs.YtliabkapejhohaaGreatDoor.NatJ Go.Proofs.YtliabkapejhohaaGreatDoor.NatN Go.Proofs.YtliabkapejhohaaGreatDoor.NatR Go.Proofs.YtliabkapejhohaaGreatDoor.IntZ Go.Proofs.YtliabkapejhohaaGreatDoor.RatZ
def F_parse : Fct
 | [.v (.string a)] => if a.size ≤ 1000 then some [s_ (parseR a).1, b_ (parseR a).2] else none
 | _ => none
theorem F_parse.eq {a : ByteArray} (h : a.size ≤ 1000) : F_parse [s_ a] = some [s_ (parseR a).1, b_ (parseR a).2] := if_pos h
theorem g_parse : Sx.Good Tryz.prog X.G 56 ⟨[.one], .tup [.one, .one]⟩ F_parse := good_walk fun ds rs h => by
 unfold F_parse at h
 split at h
 ·rename_i a
  split at h
  ·rename_i ha
   obtain rfl := (Option.some.inj h).symm
   obtain ⟨k, hk⟩ := (ev_parse a ha).rounds
   exact ⟨[.string a], [.string (parseR a).1, .bool (parseR a).2], rfl, rfl, rfl, rfl, fun w _ => (nat_Parse.calls k a _ _ w hk).mono fun e w' ⟨h1, h2⟩ => ⟨h1, h2⟩⟩
  ·cases h
 ·cases h
def F_repeat : Fct
 | [.v (.string a), .v (.int .i64 n)] => if a.size ≤ 1 ∧ 0 ≤ n ∧ n ≤ 1000 then some [s_ ⟨(Lib.repeatL a.data.toList n.toNat).toArray⟩] else none
 | _ => none
theorem g_repeat : Sx.Good Tryz.prog X.G 82 ⟨[.one, .one], .v1 .one⟩ F_repeat := good_walk fun ds rs h => by
 unfold F_repeat at h
 split at h
 ·rename_i a n
  split at h
  ·rename_i hc
   obtain rfl := (Option.some.inj h).symm
   refine ⟨[.string a, .int .i64 n], [.string ⟨(Lib.repeatL a.data.toList n.toNat).toArray⟩], rfl, rfl, rfl, rfl, fun w _ => (X.strings_Repeat.calls a n _ w ?_).mono fun e w' ⟨h1, h2⟩ => ⟨h1, h2⟩⟩
   unfold X.strings_Repeat.f
   refine if_pos ⟨hc.2.1, by omega, ?_⟩
   have h1 : n.toNat ≤ 1000 := by omega
   have := Nat.mul_le_mul hc.1 h1
   omega
  ·cases h
 ·cases h
def F_ibyte : Fct
 | [.v (.string a), .v (.int .u8 c)] => some [i_ (Lib.indexByte a.data.toList c.toNat.toUInt8)]
 | _ => none
theorem g_ibyte : Sx.Good Tryz.prog X.G 154 ⟨[.one, .one], .v1 .one⟩ F_ibyte := good_walk fun ds rs h => by
 unfold F_ibyte at h
 split at h
 ·rename_i a c
  obtain rfl := (Option.some.inj h).symm
  exact ⟨[.string a, .int .u8 c], [.int .i64 (Lib.indexByte a.data.toList c.toNat.toUInt8)], rfl, rfl, rfl, rfl, fun w _ => (Go.Proofs.Tryz.stringslite_IndexByte a c w).mono fun e w' ⟨h1, h2⟩ => ⟨h1, h2 ▸ Below.refl _ _⟩⟩
 ·cases h
def tbT : Tb := [(56, F_parse), (82, F_repeat), (154, F_ibyte)] ++ tbQ13
theorem okT : TbOk Tryz.prog X.G tbT := TbOk.cons (by kernel_rfl) g_parse (TbOk.cons (by kernel_rfl) g_repeat (TbOk.cons (by kernel_rfl) g_ibyte okQ13))
def short (l : List UInt8) : List UInt8 := l.dropWhile (· == 48)
def shortV (l : List UInt8) : List D := if short l = [] then [b_ false, s_ (⟨#[]⟩ : ByteArray), b_ true] else [b_ false, s_ (parseR ⟨(short l).toArray⟩).1, b_ (parseR ⟨(short l).toArray⟩).2]
def F_digits : Fct
 | [.v (.string a)] => if a.size ≤ 1000 then some (if a = (⟨#[]⟩ : ByteArray) then [b_ false, s_ (⟨#[]⟩ : ByteArray), b_ false] else shortV (L a)) else none
 | _ => none
theorem under_str : Tryz.prog.underlying 9 = some .string := by kernel_rfl
def dBody : T := .pure (.blt .len 9) [.one (.var 3)] (.pure (.bin .gtr 3 .true) [.one (.var 4), .one (.const (.int .i64 0))] (.ite 5 (.pure (.idx 9) [.one (.var 3), .one (.const (.int .i64 0))] (.pure (.bin .eql 5 .false) [.one (.var 6), .one (.const (.int .u8 48))] (.ite 7 (.pure (.slc 9 .true .false) [.one (.var 3), .one (.const (.int .i64 1))] (.again 0 3 [.var 8])) (.pure (.bin .eql 9 .true) [.one (.var 3), .one (.const (.string ⟨#[]⟩))] (.ite 8 (.ret [.const (.bool .false), .const (.string ⟨#[]⟩), .const (.bool .true)]) (.call 56 [.var 3] 2 (.ret [.const (.bool .false), .var 9, .var 10]))))))) (.pure (.bin .eql 9 .true) [.one (.var 3), .one (.const (.string ⟨#[]⟩))] (.ite 6 (.ret [.const (.bool .false), .const (.string ⟨#[]⟩), .const (.bool .true)]) (.call 56 [.var 3] 2 (.ret [.const (.bool .false), .var 7, .var 8]))))))
theorem digits_loop (s : ByteArray) (e1 e2 : D) : ∀ (n : Nat) (t : ByteArray), t.size = n → t.size ≤ 1000 → ∃ m, dBody.run Tryz.prog (cfOf tbT) m [dBody] [s_ s, e1, e2, s_ t] = some (shortV (L t)) := by
 intro n
 induction n with
 | zero =>
  intro t ht _
  have hn : L t = [] := (L_nil t).2 ht
  obtain rfl : t = ⟨#[]⟩ := by
   apply ByteArray.ext
   apply Array.ext'
   exact hn
  exact ⟨0, go_pure rfl (pu_len_s under_str _) (go_pure rfl (pu_gt_i _ _ _ _ _) (go_false rfl (go_pure rfl (pu_eq_s _ _ _ _) (go_true rfl (go_ret rfl)))))⟩
 | succ n ih =>
  intro t ht hs
  have h0 : 0 < t.size := by omega
  obtain ⟨c, l, hl⟩ : ∃ c l, L t = c :: l := by
   cases hc : L t with
   | nil => exact absurd ((L_nil t).1 hc) (by omega)
   | cons c l => exact ⟨c, l, rfl⟩
  have hget : t[0].toNat = c.toNat := by
   have : (L t)[0]? = some c := by rw [hl]; rfl
   unfold L at this
   rw [Array.getElem?_toList] at this
   obtain ⟨_, h⟩ := Array.getElem?_eq_some_iff.1 this
   exact congrArg UInt8.toNat h
  by_cases hc : c = 48
  ·have hx : L (t.extract 1 t.size) = l := by
    unfold L at hl ⊢
    rw [ByteArray.data_extract, Array.toList_extract, hl]
    simp [List.extract]
    have := congrArg List.length hl
    simp at this
    rw [List.take_of_length_le (by rw [ByteArray.size] at *; omega)]
   have hz : (t.extract 1 t.size).size = n := by
    rw [← L_length, hx]
    have := L_length t
    rw [hl, List.length_cons] at this
    omega
   obtain ⟨m, hm⟩ := ih _ hz (by omega)
   have e : shortV (L t) = shortV l := by
    unfold shortV short
    rw [hl, hc]
    rfl
   rw [e]
   rw [hx] at hm
   refine ⟨m + 1, go_pure rfl (pu_len_s under_str _) (go_pure rfl (pu_gt_i _ _ _ _ _) (go_true (congrArg (fun x => some (b_ x)) (decide_eq_true (by omega))) (go_pure rfl (pu_idx_s under_str _ 0 h0 _) (go_pure rfl (pu_eq_i _ _ _ _ _) (go_true (congrArg (fun x => some (b_ x)) (by rw [hget, hc]; rfl)) (go_pure rfl (pu_slc_lo under_str _ _ 1 (by omega)) (go_again rfl rfl hm)))))))⟩
  ·have hne : ¬ (c.toNat : Int) = 48 := fun h => hc (by
    apply UInt8.toNat_inj.1
    show c.toNat = 48
    omega)
   have e : short (L t) = L t := by
    unfold short
    rw [hl, List.dropWhile_cons, if_neg (by simpa using hc)]
   have et : (⟨(L t).toArray⟩ : ByteArray) = t := rfl
   unfold shortV
   rw [e, et, if_neg (by rw [hl]; simp)]
   have hn : ¬ t = (⟨#[]⟩ : ByteArray) := fun h => by
    rw [h] at h0
    exact absurd h0 (by decide)
   exact ⟨0, go_pure rfl (pu_len_s under_str _) (go_pure rfl (pu_gt_i _ _ _ _ _) (go_true (congrArg (fun x => some (b_ x)) (decide_eq_true (by omega))) (go_pure rfl (pu_idx_s under_str _ 0 h0 _) (go_pure rfl (pu_eq_i _ _ _ _ _) (go_false (congrArg (fun x => some (b_ x)) (by rw [hget]; exact beq_eq_false_iff_ne.2 hne)) (go_pure rfl (pu_eq_s _ _ _ _) (go_false (congrArg (fun x => some (b_ x)) (decide_eq_false hn)) (go_call F_parse rfl rfl (F_parse.eq hs) rfl (go_ret rfl)))))))))⟩
theorem g_digits : Sx.Good Tryz.prog X.G 83 ⟨[.one], .tup [.agg 2, .one]⟩ F_digits := good_tree okT (fun _ _ => X.G_below) 400 (by kernel_rfl) (by kernel_rfl : _ = some t_rational_digits) fun ds rs h => by
 unfold F_digits at h
 split at h
 ·rename_i a
  split at h
  ·rename_i ha
   obtain rfl := Option.some.inj h
   by_cases h0 : a = (⟨#[]⟩ : ByteArray)
   ·rw [if_pos h0]
    exact ⟨0, go_pure rfl (pu_eq_s _ _ _ _) (go_true (congrArg (fun x => some (b_ x)) (decide_eq_true h0)) (go_ret rfl))⟩
   ·rw [if_neg h0]
    have hf := congrArg (fun x => some (b_ x)) (decide_eq_false h0)
    obtain ⟨m, hm⟩ := digits_loop a (b_ (decide (a = (⟨#[]⟩ : ByteArray)))) (b_ (decide (a = (⟨#[]⟩ : ByteArray)))) _ a rfl ha
    exact ⟨m, go_pure rfl (pu_eq_s _ _ _ _) (go_false hf (go_pure rfl (pu_eq_s _ _ _ _) (go_false hf (go_loop rfl hm))))⟩
  ·cases h
 ·cases h
def tbT1 : Tb := (83, F_digits) :: tbT
theorem okT1 : TbOk Tryz.prog X.G tbT1 := .cons (by kernel_rfl) g_digits okT
end Go.Proofs.YtliabkapejhohaaGreatDoor.Sp
namespace Go.Proofs.YtliabkapejhohaaGreatDoor.Sp
open Go Go.RowKit Go.Proofs.YtliabkapejhohaaGreatDoor.Sx Go.Proofs.YtliabkapejhohaaGreatDoor.NatA Go.Proofs.YtliabkapejhohaaGreatDoor.NatB Go.Proofs.YtliabkapejhohaaGreatDoor.NatC Go.Proofs.YtliabkapejhohaaGreatDoor.NatD Go.Proofs.YtliabkapejhohaaGreatDoor.NatI Go.Proofs.YtliabkapejhohaaGreatDoor.NatJ Go.Proofs.YtliabkapejhohaaGreatDoor.NatN Go.Proofs.YtliabkapejhohaaGreatDoor.NatR Go.Proofs.YtliabkapejhohaaGreatDoor.IntZ Go.Proofs.YtliabkapejhohaaGreatDoor.RatZ
abbrev s1250 : ByteArray := ⟨#[49, 50, 46, 53, 48]⟩
def F_rparse : Fct
 | [.v (.string a)] => if a = s1250 then some (encR (Rat.divInt 25 2) ++ [b_ true]) else none
 | _ => none
theorem F_rparse_at : F_rparse [s_ s1250] = some (encR (Rat.divInt 25 2) ++ [b_ true]) := by
 unfold F_rparse
 dsimp only
 rw [if_pos rfl]
theorem dig_at (a : ByteArray) (n : Nat) (h : F_digits [s_ a] = some [b_ false, s_ (N n), b_ true]) : F_digits [s_ a] = some (enc (n : Int) ++ [b_ true]) := by
 rw [h]
 show _ = some ([b_ (I (n : Int)).1, s_ (I (n : Int)).2] ++ [b_ true])
 rw [I_nat]
 rfl
theorem dig_1250 : F_digits [s_ (⟨#[49, 50, 53, 48]⟩ : ByteArray)] = some (enc 1250 ++ [b_ true]) := dig_at _ 1250 rfl
theorem dig_100 : F_digits [s_ (⟨#[49, 48, 48]⟩ : ByteArray)] = some (enc 100 ++ [b_ true]) := dig_at _ 100 rfl
theorem sz_small {z : Int} (h0 : -9223372036854775808 ≤ z) (h1 : z ≤ 9223372036854775807) {s : Nat} (hs : 8 ≤ s) : Sz s z := (Sz.i64 h0 h1).le hs
theorem make_1250 : F_make (enc 1250 ++ enc 100) = some (encR (Rat.divInt 25 2) ++ [b_ true]) := by
 rw [F_make, I2.can (sz_small (by decide) (by decide) (by decide)) (sz_small (by decide) (by decide) (by decide))]
 have : Rat.divInt 1250 100 = Rat.divInt 25 2 := (Rat.divInt_eq_divInt_iff (by decide) (by decide)).2 (by decide)
 rw [this]
 rfl
theorem g_rparse : Sx.Good Tryz.prog X.G 34 ⟨[.one], .tup [.agg 3, .one]⟩ F_rparse := good_tree okT1 (fun _ _ => X.G_below) 400 (by kernel_rfl) (by kernel_rfl : _ = some t_rational_Parse) fun ds rs h => by
 unfold F_rparse at h
 split at h
 ·rename_i a
  split at h
  ·rename_i ha
   subst ha
   obtain rfl := Option.some.inj h
   refine ⟨0, ?_⟩
   refine go_pure (d := i_ 5) rfl (by kernel_rfl) (go_pure (d := b_ true) rfl (by kernel_rfl) (go_true rfl ?_))
   refine go_pure (d := s_ ⟨#[49]⟩) rfl (by kernel_rfl) (go_pure (d := b_ false) rfl (by kernel_rfl) (go_pure (d := b_ true) rfl (by kernel_rfl) (go_true rfl ?_)))
   refine go_pure (d := b_ false) rfl (by kernel_rfl) (go_false rfl (go_call F_ibyte rfl rfl (rs := [i_ (-1)]) (by kernel_rfl) rfl (go_pure (d := b_ false) rfl (by kernel_rfl) (go_false rfl ?_))))
   refine go_pure (d := b_ false) rfl (by kernel_rfl) (go_false rfl (go_call F_ibyte rfl rfl (rs := [i_ 2]) (by kernel_rfl) rfl (go_pure (d := b_ true) rfl (by kernel_rfl) (go_true rfl ?_))))
   refine go_pure (d := s_ ⟨#[49, 50]⟩) rfl (by kernel_rfl) (go_pure (d := i_ 3) rfl (by kernel_rfl) (go_pure (d := s_ ⟨#[53, 48]⟩) rfl (by kernel_rfl) ?_))
   refine go_pure (d := b_ false) rfl (by kernel_rfl) (go_false rfl (go_pure (d := b_ false) rfl (by kernel_rfl) (go_false rfl ?_)))
   refine go_pure (d := s_ ⟨#[49, 50, 53, 48]⟩) rfl (by kernel_rfl) (go_pure (d := i_ 2) rfl (by kernel_rfl) (go_call F_repeat rfl rfl (rs := [s_ ⟨#[48, 48]⟩]) (by kernel_rfl) rfl (go_pure (d := s_ ⟨#[49, 48, 48]⟩) rfl (by kernel_rfl) ?_)))
   refine go_call F_digits rfl rfl dig_1250 rfl (go_call F_digits rfl rfl dig_100 rfl ?_)
   refine go_pure (d := b_ false) rfl (by kernel_rfl) (go_false rfl (go_pure (d := b_ false) rfl (by kernel_rfl) (go_false rfl ?_)))
   exact go_call F_make rfl rfl make_1250 rfl (go_ret rfl)
  ·cases h
 ·cases h
def rtext (q : Rat) : ByteArray := if q.den = 1 then itext q.num else itext q.num ++ (⟨#[47]⟩ : ByteArray) ++ itext (q.den : Int)
def F_rfmt : Fct := R1 3000 fun q => [s_ (rtext q)]
theorem itext_size {s : Nat} {z : Int} (h : Sz s z) : (itext z).size ≤ 3 * s + 2 := by
 have hd := dec_len h
 unfold itext
 split
 ·rw [ByteArray.size_append, text_size]
  have : (⟨#[45]⟩ : ByteArray).size = 1 := rfl
  omega
 ·rw [text_size]
  omega
theorem dnc_nil {d : Nat} (h : d ≠ 0) : dnc d = (⟨#[]⟩ : ByteArray) ↔ d = 1 := by
 unfold dnc
 split
 ·exact ⟨fun _ => ‹_›, fun _ => rfl⟩
 ·rw [N_nil]
  omega
theorem g_rfmt : Sx.Good Tryz.prog X.G 33 ⟨[.agg 3], .v1 .one⟩ F_rfmt := good_tree okT1 (fun _ _ => X.G_below) 400 (by kernel_rfl) (by kernel_rfl : _ = some t_rational_Format) fun ds rs h => by
 obtain ⟨n, a, b, rfl, ha, hb, rfl⟩ := R1.inv h
 have hq : Sq 3000 (qv n a b) := .qv (by decide) ha hb
 refine ⟨0, go_call F_numden rfl rfl (R1.eq (by omega) (by omega)) rfl (go_call F_rnorm rfl rfl (R1.eq (by omega) (by omega)) rfl (go_pure rfl (pu_eq_s _ _ _ _) ?_))⟩
 generalize qv n a b = q at *
 have z1 := itext_size hq.1
 have z2 := itext_size hq.2
 unfold rtext
 refine go_ite rfl (fun e => ?_) (fun e => ?_)
 ·rw [if_pos ((dnc_nil q.den_nz).1 (of_decide_eq_true e))]
  exact go_call F_itext rfl rfl (I1.can (hq.1.le (by decide))) rfl (go_ret rfl)
 ·rw [if_neg fun h => of_decide_eq_false e ((dnc_nil q.den_nz).2 h)]
  refine go_call F_itext rfl rfl (I1.can (hq.1.le (by decide))) rfl (go_pure rfl (pu_add_s _ _ _ _ ?_) (go_call F_itext rfl rfl (I1.can (hq.2.le (by decide))) rfl (go_pure rfl (pu_add_s _ _ _ _ ?_) (go_ret rfl))))
  ·have : (⟨#[47]⟩ : ByteArray).size = 1 := rfl
   omega
  ·have : (⟨#[47]⟩ : ByteArray).size = 1 := rfl
   rw [ByteArray.size_append]
   omega
def tbT2 : Tb := (33, F_rfmt) :: (34, F_rparse) :: tbT1
theorem okT2 : TbOk Tryz.prog X.G tbT2 := .cons (by kernel_rfl) g_rfmt (.cons (by kernel_rfl) g_rparse okT1)
def F_awake : Fct
 | [] => some [b_ true]
 | _ => none
theorem from_ok {n : Int} (h0 : -9223372036854775808 ≤ n) (h1 : n ≤ 9223372036854775807) : F_ifrom [i_ n] = some (enc n) := F_ifrom.eq h0 h1
theorem make_i64 {n d : Int} (h0 : -9223372036854775808 ≤ n) (h1 : n ≤ 9223372036854775807) (h2 : -9223372036854775808 ≤ d) (h3 : d ≤ 9223372036854775807) : F_make (enc n ++ enc d) = some (encR (Rat.divInt n d) ++ [b_ (!decide (d = 0))]) := I2.can (sz_small h0 h1 (by decide)) (sz_small h2 h3 (by decide))
theorem sq_i64 {n d : Int} (h0 : -9223372036854775808 ≤ n) (h1 : n ≤ 9223372036854775807) (h2 : -9223372036854775808 ≤ d) (h3 : d ≤ 9223372036854775807) {s : Nat} (hs : 8 ≤ s) : Sq s (Rat.divInt n d) := Sq.divInt (by omega) (sz_small h0 h1 hs) (sz_small h2 h3 hs)
theorem rtext_56 : rtext (Rat.divInt 1 2 + Rat.divInt (-2) (-6)) = (⟨#[53, 47, 54]⟩ : ByteArray) := by
 have e : Rat.divInt 1 2 + Rat.divInt (-2) (-6) = Rat.divInt 5 6 := by
  rw [Rat.divInt_add_divInt _ _ (by decide) (by decide)]
  exact (Rat.divInt_eq_divInt_iff (by decide) (by decide)).2 (by decide)
 have h1 : (Rat.divInt 5 6).num = 5 := by rw [Rat.num_divInt]; rfl
 have h2 : (Rat.divInt 5 6).den = 6 := by rw [Rat.den_divInt]; rfl
 rw [e]
 unfold rtext
 rw [h1, h2, if_neg (by decide)]
 have t5 : itext 5 = (⟨#[53]⟩ : ByteArray) := by
  unfold itext text
  rw [if_neg (by decide), show Int.natAbs 5 = 5 from rfl, Lib.decDigits_one (by decide)]
  rfl
 have t6 : itext ((6 : Nat) : Int) = (⟨#[54]⟩ : ByteArray) := by
  unfold itext text
  rw [if_neg (by decide), show Int.natAbs ((6 : Nat) : Int) = 6 from rfl, Lib.decDigits_one (by decide)]
  rfl
 rw [t5, t6]
 rfl
theorem rtext_252 : rtext (Rat.divInt 25 2) = (⟨#[50, 53, 47, 50]⟩ : ByteArray) := by
 have h1 : (Rat.divInt 25 2).num = 25 := by rw [Rat.num_divInt]; rfl
 have h2 : (Rat.divInt 25 2).den = 2 := by rw [Rat.den_divInt]; rfl
 unfold rtext
 rw [h1, h2, if_neg (by decide)]
 have t5 : itext 25 = (⟨#[50, 53]⟩ : ByteArray) := by
  unfold itext text
  rw [if_neg (by decide), show Int.natAbs 25 = 25 from rfl, Lib.decDigits_two (by decide) (by decide)]
  rfl
 have t6 : itext ((2 : Nat) : Int) = (⟨#[50]⟩ : ByteArray) := by
  unfold itext text
  rw [if_neg (by decide), show Int.natAbs ((2 : Nat) : Int) = 2 from rfl, Lib.decDigits_one (by decide)]
  rfl
 rw [t5, t6]
 rfl
theorem floor_12 : (-Rat.divInt 1 2).floor = -1 := by
 rw [Rat.neg_divInt, floor_div (by decide)]
 rfl
theorem g_awake : Sx.Good Tryz.prog X.G 22 ⟨[], .v1 .one⟩ F_awake := good_tree okT2 (fun _ _ => X.G_below) 400 (by kernel_rfl) (by kernel_rfl : _ = some t_voussoirlaw03_awake) fun ds rs h => by
 unfold F_awake at h
 split at h
 ·obtain rfl := Option.some.inj h
  have q1 : Sq 2000 (Rat.divInt 1 2) := sq_i64 (by decide) (by decide) (by decide) (by decide) (by decide)
  have q2 : Sq 2000 (Rat.divInt (-2) (-6)) := sq_i64 (by decide) (by decide) (by decide) (by decide) (by decide)
  have q3 : Sq 3000 (Rat.divInt 25 2) := sq_i64 (by decide) (by decide) (by decide) (by decide) (by decide)
  have q4 : Sq 8 (Rat.divInt 1 2) := sq_i64 (by decide) (by decide) (by decide) (by decide) (by decide)
  have q5 : Sq 8 (Rat.divInt (-2) (-6)) := sq_i64 (by decide) (by decide) (by decide) (by decide) (by decide)
  refine ⟨0, ?_⟩
  refine go_call F_ifrom rfl rfl (from_ok (n := 1) (by decide) (by decide)) rfl (go_call F_ifrom rfl rfl (from_ok (n := 2) (by decide) (by decide)) rfl (go_call F_make rfl rfl (make_i64 (by decide) (by decide) (by decide) (by decide)) rfl ?_))
  refine go_call F_ifrom rfl rfl (from_ok (n := -2) (by decide) (by decide)) rfl (go_call F_ifrom rfl rfl (from_ok (n := -6) (by decide) (by decide)) rfl (go_call F_make rfl rfl (make_i64 (by decide) (by decide) (by decide) (by decide)) rfl ?_))
  refine go_call F_rparse rfl rfl F_rparse_at rfl (go_true rfl (go_true rfl (go_true rfl ?_)))
  refine go_call F_radd rfl rfl (R2.can q1 q2) rfl (go_call F_rfmt rfl rfl (R1.can ((q4.add q5).le (by decide))) rfl (go_pure rfl (pu_eq_s _ _ _ _) (go_true (congrArg (fun x => some (b_ x)) (decide_eq_true rtext_56)) ?_)))
  refine go_call F_rneg rfl rfl (R1.can (q1.le (by decide))) rfl (go_call F_floor rfl rfl (R1.can (q1.neg.le (by decide))) rfl (go_call F_ifrom rfl rfl (from_ok (n := -1) (by decide) (by decide)) rfl (go_pure rfl (eq_int _ _ _) (go_true (congrArg (fun x => some (b_ x)) (decide_eq_true floor_12)) ?_))))
  refine go_call F_rfmt rfl rfl (R1.can q3) rfl (go_pure rfl (pu_eq_s _ _ _ _) (go_ret ?_))
  exact congrArg (fun x => some [b_ x]) (decide_eq_true rtext_252)
 ·cases h
def tbT3 : Tb := (22, F_awake) :: tbT2
theorem okT3 : TbOk Tryz.prog X.G tbT3 := .cons (by kernel_rfl) g_awake okT2
theorem calls_true {P : Program} {G : World → Prop} {f : FuncId} {ps : List H1} {F : Fct} {cs : List Value} (hg : Sx.Good P G f ⟨ps, .v1 .one⟩ F) (hF : F (cs.map D.v) = some [b_ true]) (hc : cs.all cellB = true) (hl : cs.length = sizes ps) {w : World} (hw : G w) :
  Calls P f (blds ps cs).toArray w fun e w' => e = .returned (.bool true) ∧ Below w.heap.size w w' := by
 refine (hg _ _ hF (fun _ _ => none) w _ hw (fun _ _ _ h => by cases h) (blds_ats hc hl)).mono ?_
 rintro e w' ⟨v, h', rfl, hb, _, _, d, hd, hat⟩
 obtain rfl : b_ true = d := (List.cons.inj hd).1
 exact ⟨congrArg Ending.returned (D.at_v.1 hat).1, hb⟩
def F_z3 : Fct
 | [.v (.bool _), .v (.string _), .v (.bool _), .v (.string _), .v (.bool _), .v (.string _)] => some [b_ true]
 | _ => none
theorem F_z3.inv {ds rs : List D} (h : F_z3 ds = some rs) : ∃ n a m b l c, ds = [b_ n, s_ a, b_ m, s_ b, b_ l, s_ c] ∧ rs = [b_ true] := by
 unfold F_z3 at h
 split at h
 ·exact ⟨_, _, _, _, _, _, rfl, (Option.some.inj h).symm⟩
 ·cases h
def F_r1 : Fct
 | [.v (.bool _), .v (.string _), .v (.string _)] => some [b_ true]
 | _ => none
theorem F_r1.inv {ds rs : List D} (h : F_r1 ds = some rs) : ∃ n a b, ds = [b_ n, s_ a, s_ b] ∧ rs = [b_ true] := by
 unfold F_r1 at h
 split at h
 ·exact ⟨_, _, _, rfl, (Option.some.inj h).symm⟩
 ·cases h
def F_r2 : Fct
 | [.v (.bool _), .v (.string _), .v (.string _), .v (.bool _), .v (.string _), .v (.string _)] => some [b_ true]
 | _ => none
theorem F_r2.inv {ds rs : List D} (h : F_r2 ds = some rs) : ∃ n a b m c d, ds = [b_ n, s_ a, s_ b, b_ m, s_ c, s_ d] ∧ rs = [b_ true] := by
 unfold F_r2 at h
 split at h
 ·exact ⟨_, _, _, _, _, _, rfl, (Option.some.inj h).symm⟩
 ·cases h
def F_r3 : Fct
 | [.v (.bool _), .v (.string _), .v (.string _), .v (.bool _), .v (.string _), .v (.string _), .v (.bool _), .v (.string _), .v (.string _)] => some [b_ true]
 | _ => none
theorem F_r3.inv {ds rs : List D} (h : F_r3 ds = some rs) : ∃ n a b m c d l e f, ds = [b_ n, s_ a, s_ b, b_ m, s_ c, s_ d, b_ l, s_ e, s_ f] ∧ rs = [b_ true] := by
 unfold F_r3 at h
 split at h
 ·exact ⟨_, _, _, _, _, _, _, _, _, rfl, (Option.some.inj h).symm⟩
 ·cases h
def F_rzz : Fct
 | [.v (.bool _), .v (.string _), .v (.string _), .v (.bool _), .v (.string _), .v (.bool _), .v (.string _)] => some [b_ true]
 | _ => none
theorem F_rzz.inv {ds rs : List D} (h : F_rzz ds = some rs) : ∃ n a b m c l d, ds = [b_ n, s_ a, s_ b, b_ m, s_ c, b_ l, s_ d] ∧ rs = [b_ true] := by
 unfold F_rzz at h
 split at h
 ·exact ⟨_, _, _, _, _, _, _, rfl, (Option.some.inj h).symm⟩
 ·cases h
theorem len_le {n k : Nat} (h : decide ((n : Int) > (k : Int)) = false) : n ≤ k := by
 have := of_decide_eq_false h
 omega
theorem go_yes {P : Program} {C : Cf} {m : Nat} {L : List T} {env r : List D} {i : Nat} {t e : T} {b : Bool} (hb : env[i]? = some (b_ b)) (hx : b = true) (h : t.run P C m L env = some r) : (T.ite i t e).run P C m L env = some r := go_true (hx ▸ hb) h
theorem awk : F_awake [] = some [b_ true] := rfl
end Go.Proofs.YtliabkapejhohaaGreatDoor.Sp
