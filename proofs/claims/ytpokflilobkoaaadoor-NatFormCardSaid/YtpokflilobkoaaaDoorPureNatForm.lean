/- For every input of two strings and a byte the Go function NatForm answers true: trailing zero bytes do not affect any result, and equal numbers have the same canonical form and the same decimal string. -/
import Derived.Test.YtpokflilobkoaaaDoorNatM
import Derived.Test.YtpokflilobkoaaaDoorPx13LNatForm
namespace Go.Proofs.YtpokflilobkoaaaDoor.Pure
open Go.RowKit Go.Proofs.YtpokflilobkoaaaDoor.P Go.Proofs.YtpokflilobkoaaaDoorW.PrintWords Go.Proofs.YtpokflilobkoaaaDoorW.PrintLast Go.Proofs.YtpokflilobkoaaaDoor.NatA Go.Proofs.YtpokflilobkoaaaDoor.NatC Go.Proofs.YtpokflilobkoaaaDoor.NatD Go.Proofs.YtpokflilobkoaaaDoor.NatI Go.Proofs.YtpokflilobkoaaaDoor.NatJ Go.Proofs.YtpokflilobkoaaaDoor.NatK Go.Proofs.YtpokflilobkoaaaDoor.NatL Go.Proofs.YtpokflilobkoaaaDoor.NatM

theorem V_zeros (a : ByteArray) (n : Nat) : V (a ++ ⟨(List.replicate n (0 : UInt8)).toArray⟩) = V a := by
  have h1 := V_int (a ++ ⟨(List.replicate n (0 : UInt8)).toArray⟩)
  have e : bytesOf (⟨(List.replicate n (0 : UInt8)).toArray⟩ : ByteArray) = List.replicate n 0 := by
    unfold bytesOf
    simp
  rw [bytes_append, e, val_append, val_replicate, Int.mul_zero, Int.add_zero, ← V_int] at h1
  omega
theorem dec_inj (n : Nat) : ∀ u v, u = n → Lib.decDigits u = Lib.decDigits v → u = v := by
  induction n using Nat.strongRecOn with
  | _ n ih =>
    intro u v hu h
    have hl : Lib.nDigits u = Lib.nDigits v := by rw [← Lib.decDigits_length, h, Lib.decDigits_length]
    by_cases h1 : u < 10
    · rw [Lib.nDigits_small h1] at hl
      by_cases h2 : v < 10
      · rw [Lib.decDigits_one h1, Lib.decDigits_one h2] at h
        have h3 : UInt8.ofNat (48 + u) = UInt8.ofNat (48 + v) := by simpa using h
        have h4 := congrArg UInt8.toNat h3
        rw [UInt8.toNat_ofNat', UInt8.toNat_ofNat'] at h4
        omega
      · rw [Lib.nDigits_big h2] at hl
        have := Lib.nDigits_pos (v / 10)
        omega
    · by_cases h2 : v < 10
      · rw [Lib.nDigits_big h1, Lib.nDigits_small h2] at hl
        have := Lib.nDigits_pos (u / 10)
        omega
      · have e : ∀ x, ¬ x < 10 → Lib.decDigits x = Lib.decDigits (x / 10) ++ [UInt8.ofNat (48 + x % 10)] := fun x hx => by rw [Lib.decDigits, dif_neg hx]
        rw [e u h1, e v h2] at h
        have h3 := List.append_inj' h rfl
        have h4 := ih (u / 10) (by omega) (u / 10) (v / 10) rfl h3.1
        have h5 : UInt8.ofNat (48 + u % 10) = UInt8.ofNat (48 + v % 10) := by simpa using h3.2
        have h6 := congrArg UInt8.toNat h5
        rw [UInt8.toNat_ofNat', UInt8.toNat_ofNat'] at h6
        omega
theorem text_inj {u v : Nat} : (text u).toList = (text v).toList ↔ u = v := by
  rw [list_inj]
  constructor
  · intro h
    unfold text at h
    have h2 := congrArg (fun x : ByteArray => x.data.toList) h
    exact dec_inj u u v rfl (by simpa using h2)
  · intro h
    rw [h]
theorem NatForm : voussoirlaw01_NatForm.Pure := by
  intro a b n _ _ hn
  refine Ev.rounds (g := fun k => voussoirlaw01_NatForm.f k a b n) ?_
  have hn' : 0 ≤ n ∧ n ≤ 255 := by simpa [Lit.wf, IntKind.min, IntKind.max, IntKind.signed, IntKind.bits] using hn
  refine Ev.bind ev_alive (Ev.congr (fun k => if_pos rfl) ?_)
  obtain ⟨w, h1, h2⟩ := wide [a, b] (by simp)
  refine Ev.bind h1 ?_
  cases w with
  | true => exact Ev.congr (fun k => if_pos rfl) (Ev.now _)
  | false =>
    have ha : a.size ≤ 40 := h2 rfl 0 (by simp)
    have hb : b.size ≤ 40 := h2 rfl 1 (by simp)
    obtain ⟨m, hm⟩ : ∃ m : Nat, n % 9 = m := ⟨(n % 9).toNat, by omega⟩
    have hm9 : m < 9 := by omega
    have hrep : X.strings_Repeat.f (⟨#[0]⟩ : ByteArray) (wrap64 (Int.tmod n 9)) = some ⟨(List.replicate m 0).toArray⟩ := by
      rw [NatB.tmod_nat hn'.1, hm, w64 (by omega) (by omega)]
      unfold X.strings_Repeat.f
      rw [if_pos ⟨by omega, by omega, by rw [show (⟨#[0]⟩ : ByteArray).size = 1 from rfl]; omega⟩, Int.toNat_natCast]
      have := Lib.repeatL_replicate 0 1 m
      rw [Nat.mul_one] at this
      rw [← this]
      rfl
    obtain ⟨c, hc⟩ : ∃ c, c = a ++ (⟨(List.replicate m (0 : UInt8)).toArray⟩ : ByteArray) := ⟨_, rfl⟩
    have hzs : (⟨(List.replicate m (0 : UInt8)).toArray⟩ : ByteArray).size = m := by rw [ba_size, List.length_replicate]
    have hcs : c.size ≤ 48 := by rw [hc, ByteArray.size_append, hzs]; omega
    have hcv : V c = V a := by rw [hc]; exact V_zeros a m
    refine Ev.congr (fun k => by rw [if_neg (by decide), hrep, Option.bind_some, if_pos (by rw [hzs]; omega), ← hc]) ?_
    have g6 := fun x (hx : x.size ≤ 67108864) => ev_gcd x (⟨#[6]⟩ : ByteArray) hx (by decide)
    have dc := ev_sub c b (by omega) (by omega)
    have vc := ev_div c b (by omega) (by omega)
    have nc := ev_normalize c (by omega)
    have ac := ev_add c b (by omega) (by omega)
    have mc := ev_mul c b (by omega) (by omega)
    have gc := g6 c (by omega)
    have fc := ev_format c (by omega)
    rw [hcv] at dc vc nc ac mc gc fc
    refine Ev.bind dc (Ev.bind (ev_sub a b (by omega) (by omega)) (Ev.bind vc (Ev.bind (ev_div a b (by omega) (by omega)) ?_)))
    refine Ev.bind nc (Ev.bind (ev_normalize a (by omega)) (Ev.congr (fun k => if_pos rfl) ?_))
    refine Ev.bind ac (Ev.bind (ev_add a b (by omega) (by omega)) (Ev.congr (fun k => by rw [if_pos rfl, if_pos rfl, if_neg (by simp)]) ?_))
    refine Ev.bind mc (Ev.bind (ev_mul a b (by omega) (by omega)) (Ev.congr (fun k => by rw [if_pos rfl, if_pos rfl, if_pos rfl, if_neg (by simp)]) ?_))
    refine Ev.bind gc (Ev.bind (g6 a (by omega)) (Ev.congr (fun k => if_pos rfl) ?_))
    refine Ev.bind fc (Ev.bind (ev_format a (by omega)) ?_)
    rw [bne_self_eq_false]
    refine Ev.step (fun k => by rw [voussoirlaw01_NatForm.j0, if_neg (by decide)]) ?_
    have na := ev_normalize a (by omega)
    have nb' := ev_normalize b (by omega)
    have k1 := ev_cmp a b (by omega) (by omega)
    have k2 := ev_cmp b a (by omega) (by omega)
    have e1 : ((N (V a)).toList == (N (V b)).toList) = decide (V a = V b) := by rw [Bool.eq_iff_iff, beq_iff_eq, N_toList, decide_eq_true_iff]
    have e2 : ((text (V a)).toList == (text (V b)).toList) = decide (V a = V b) := by rw [Bool.eq_iff_iff, beq_iff_eq, text_inj, decide_eq_true_iff]
    have e3 : (cmpI (V a) (V b) == 0) = decide (V a = V b) := by
      rw [Bool.eq_iff_iff, beq_iff_eq, decide_eq_true_iff]
      unfold cmpI
      split
      · omega
      · split <;> omega
    have e4 : wrap64 (-cmpI (V b) (V a)) = cmpI (V a) (V b) := by
      have hb1 : cmpI (V a) (V b) = -cmpI (V b) (V a) ∧ -1 ≤ cmpI (V b) (V a) ∧ cmpI (V b) (V a) ≤ 1 := by
        unfold cmpI
        rcases Nat.lt_trichotomy (V a) (V b) with h | h | h
        · rw [if_pos h, if_neg (by omega), if_neg (by omega)]
          decide
        · rw [if_neg (by omega), if_pos h, if_neg (by omega), if_pos h.symm]
          decide
        · rw [if_neg (by omega), if_neg (by omega), if_pos h]
          decide
      rw [w64 (by omega) (by omega), hb1.1]
    refine Ev.bind k1 (Ev.bind na (Ev.bind nb' (Ev.congr (fun k => if_pos (by rw [e3, e1, beq_self_eq_true])) ?_)))
    refine Ev.bind (ev_format a (by omega)) (Ev.bind (ev_format b (by omega)) (Ev.bind na (Ev.bind nb' (Ev.congr (fun k => if_pos (by rw [e2, e1, beq_self_eq_true])) ?_))))
    refine Ev.bind k1 (Ev.bind k2 ?_)
    rw [e4, beq_self_eq_true]
    exact Ev.now _
end Go.Proofs.YtpokflilobkoaaaDoor.Pure
