/- Out of what mp.py printed for this seat (squeeze.py, repack.py). Not trusted: Lean checks it. -/
import Derived.Test.YtpokflilobkoaaaDoorPx0
import Derived.Test.YtpokflilobkoaaaDoorPxIA
import Derived.Test.YtpokflilobkoaaaDoorPxNatGcd
import Derived.Test.YtpokflilobkoaaaDoorXQ
-- squeezed twice
namespace Go.Proofs.YtpokflilobkoaaaDoor.P
open Go.RowKit Go.Proofs.YtpokflilobkoaaaDoorW.PrintWords Go.Proofs.YtpokflilobkoaaaDoorW.PrintLast Go.Proofs.YtpokflilobkoaaaDoorW.PrintMore
attribute [local go_sem] max2_int min2_int max_two min_two max_three min_three max_four min_four   -- for this text's walks alone
attribute [local go_sem] XW.cell_twice   -- for this text's walks alone
set_option linter.unusedVariables false
set_option linter.unusedSimpArgs false

/-! ### integer_Gcd: function 55 -/
def integer_Gcd.l0 : Nat → ByteArray → List (S36) → Int → Int → Option (Bool × ByteArray)
 | 0, _, _, _, _ => none
 | k + 1, x3, x6, x7, x8 => if x8 < x7 then (if 0 ≤ x8 then (if x8 < (x6.length : Int) then ((nat_Gcd.f k x3 ((rd_T36 x6 x8).f1)).bind fun t786 => (integer_Gcd.l0 k t786 x6 x7 (wrap64 (x8 + 1)))) else (none)) else (none)) else ((integer_of.f false x3).bind fun bt787 => (some (bt787.1, bt787.2)))
def integer_Gcd.f (k : Nat) (l0 : List (S36)) : Option (Bool × ByteArray) := integer_Gcd.l0 k (⟨#[]⟩ : ByteArray) l0 (l0.length : Int) 0
theorem integer_Gcd.mono_l : ∀ k, (∀ y0 y1 y2 y3, LeO (integer_Gcd.l0 k y0 y1 y2 y3) (integer_Gcd.l0 (k + 1) y0 y1 y2 y3))
 | 0 => fun _ _ _ _ r h => by simp [integer_Gcd.l0] at h
 | k + 1 => by
  have ih0 := integer_Gcd.mono_l k
  ·intro y0 y1 y2 y3
   unfold integer_Gcd.l0
   repeat' first
   | (with_reducible exact ih0 _ _ _ _)
   | (with_reducible exact nat_Gcd.mono _ _ _)
   | (with_reducible exact LeO.refl _)
   | (with_reducible exact LeO.none _)
   | (with_reducible refine LeO.ite ?_ ?_)
   | (with_reducible refine LeO.bind ?_ (fun _ => ?_))
   | exact ih0 _ _ _ _
   | exact nat_Gcd.mono _ _ _
   | exact LeO.none _
   | refine LeO.ite ?_ ?_
   | refine LeO.bind ?_ (fun _ => ?_)
theorem integer_Gcd.mono : ∀ a0 k, LeO (integer_Gcd.f k a0) (integer_Gcd.f (k + 1) a0) := by
 intro a0 k
 have ih0 := integer_Gcd.mono_l k
 unfold integer_Gcd.f
 repeat' first
   | (with_reducible exact ih0 _ _ _ _)
   | (with_reducible exact nat_Gcd.mono _ _ _)
   | (with_reducible exact LeO.refl _)
   | (with_reducible exact LeO.none _)
   | (with_reducible refine LeO.ite ?_ ?_)
   | (with_reducible refine LeO.bind ?_ (fun _ => ?_))
   | exact ih0 _ _ _ _
   | exact nat_Gcd.mono _ _ _
   | exact LeO.none _
   | refine LeO.ite ?_ ?_
   | refine LeO.bind ?_ (fun _ => ?_)
set_option maxHeartbeats 8000000 in
set_option maxRecDepth 100000 in
theorem integer_Gcd.calls (k : Nat) (A0 : Option Addr) (c0 : Nat) (l0 : List (S36)) (r1 : Bool) (r2 : ByteArray) (w : World) (hr0 : Kd.C k36 w A0 l0.length l0) (hc0 : l0.length ≤ c0) (h : integer_Gcd.f k l0 = some (r1, r2)) :
  Calls Tryd.prog 55 #[.slice A0 l0.length c0] w fun e w' => e = .returned (.agg #[.bool r1, .string r2]) ∧ Below w.heap.size w w' := by
 have hu36 := Tryd.underlying36
 have HR0 := Q.a hr0
 have HC0 := Q.a hc0
 clear hr0 hc0
 have HB := Q.a (Below.refl w.heap.size w)
 have H : (integer_Gcd.l0 k (⟨#[]⟩ : ByteArray) l0 (l0.length : Int) 0) = some (r1, r2) := h
 clear h
 have H' := Q.a H
 clear H
 go_enter Tryd.func55, Tryd.ntmps55
 go_wp2_with (first | ((with_reducible refine gate_dst (N := 2) rfl ?_); refine Q.bx 2 #[.bool false, .string (⟨#[]⟩ : ByteArray)] 36 rfl rfl ?_; intro gb783 hg w2 hbox hb; replace BK783 := Q.a (hbox); replace GW783 := Q.a (Q.gs hg (below_size (Q.bw HB))); replace GE783 := GW783; replace HB := Q.a (below_step (Q.bw HB) hb); clear hb hbox hg))
 go_loopg [3, 8] k (fun kq v3 v8 w' => ∃ (x3_1 : ByteArray) (x8_1 : Int), v3 = .string x3_1 ∧ v8 = .int .i64 x8_1 ∧ Aside0 (integer_Gcd.l0 kq x3_1 l0 (l0.length : Int) x8_1 = some (r1, r2)) ∧ Aside0 (kq ≤ k) ∧ Aside0 (w'.heap[gb783]? = some (.cells #[.bool false, .string (⟨#[]⟩ : ByteArray)] 36 (0, 0))) ∧ Aside0 (Below w.heap.size w w'))
 case atStart => exact ⟨((⟨#[]⟩ : ByteArray)), (0), Q.rs, Q.rs, H', ⟨Nat.le_refl _⟩, ⟨Q.kb BK783⟩, ⟨Q.bw1 HB GE783⟩⟩
 case round =>
  clear H'
  try clear p2
  obtain ⟨x3_1, x8_1, rfl, rfl, HA, HK1, BK783, HB⟩ := hrel
  cases gk with
  | zero => exact absurd HA.out (by simp [integer_Gcd.l0])
  | succ k1 =>
   have H := HA.out
   clear HA
   simp only [integer_Gcd.l0] at H
   by_cases c3 : x8_1 < (l0.length : Int)
   ·rw [if_pos c3] at H
    have c3b0 : decide (x8_1 < (l0.length : Int)) = true := decide_eq_true c3
    clear c3
    by_cases c4 : 0 ≤ x8_1
    ·rw [if_pos c4] at H
     have c4b0 : decide (0 ≤ x8_1) = true := decide_eq_true c4
     clear c4
     by_cases c5 : x8_1 < (l0.length : Int)
     ·rw [if_pos c5] at H
      have c5b0 : decide (x8_1 < (l0.length : Int)) = true := decide_eq_true c5
      clear c5
      replace H := Option.bind_eq_some_iff.mp H
      obtain ⟨t786, A60, H⟩ := H
      try dsimp only at H
      have A6 := Q.a A60
      clear A60
      have H' := Q.a H
      clear H
      have p784 : 0 ≤ (x8_1 : Int) := of_decide_eq_true (by first | (with_reducible assumption) | assumption)
      have q784 : x8_1 < (l0.length : Int) := of_decide_eq_true (by first | (with_reducible assumption) | assumption)
      obtain ⟨ad784, e784, hx784_0, hx784_1⟩ := at_T36 HR0.out x8_1 p784 q784
      cases e784
      replace hx784_0 := (HB.out.cell (World.block_lt_of_cell? w _ hx784_0)).trans hx784_0
      replace hx784_1 := (HB.out.cell (World.block_lt_of_cell? w _ hx784_1)).trans hx784_1
      replace p784 := eq_true p784
      replace q784 := eq_true q784
      go_wp2_with (first | ((with_reducible refine gate_dst (N := 5) rfl ?_); refine Q.bx 5 #[.bool false, .string (⟨#[]⟩ : ByteArray)] 36 rfl rfl ?_; intro gb785 hg w7 hbox hb; replace BK785 := Q.a (hbox); replace GW785 := Q.a (Q.gs hg (below_size (Q.bw1 HB GE783))); replace GE785 := GW785; replace HB := Q.a (below_step (Q.bw1 HB GE783) hb); replace NB783_785 := Q.a (Q.nl hg BK783); replace NB785_783 := Q.a (Q.ng hg BK783); replace BK783 := Q.a (Q.bb BK783 hb); clear hb hbox hg; have hnb8 := NB785_783.out; have hnc8 := NB783_785.out; have hcz9_0 : w7.cell? ⟨gb785, 0, none⟩ = some (.bool false) := (blk_cell BK785.out 0).trans rfl; have hcz9_1 : w7.cell? ⟨gb785, 1, none⟩ = some (.string (⟨#[]⟩ : ByteArray)) := (blk_cell BK785.out 1).trans rfl; have hfz9_0 := blk_frozen BK785.out 0; have hfz9_1 := blk_frozen BK785.out 1) | ((with_reducible refine gate_callee (f := 19) rfl ?_); refine Q.gl 15 Tryd.func19 #[.string x3_1, .string ((rd_T36 l0 x8_1).f1)] rfl rfl rfl rfl ?_; (with_reducible refine (nat_Gcd.calls k1 x3_1 ((rd_T36 l0 x8_1).f1) t786 _ A6.out).mono ?_); rintro e w10 ⟨rfl, hb⟩; refine ⟨_, rfl, ?_⟩; replace BK783 := Q.a (Q.bf BK783 NB783_785 hb); replace BK785 := Q.a (blk_below (g := gb785) (o := .cells #[.bool ((rd_T36 l0 x8_1).f0), .string ((rd_T36 l0 x8_1).f1)] 36 (0, 0)) (by (with_reducible repeat (first | refine blk_drewN ?_ _ | refine blk_drew ?_ | refine blk_alloc ?_ _)); refine blk_put (cs := #[.bool ((rd_T36 l0 x8_1).f0), .string (⟨#[]⟩ : ByteArray)]) ?_ 1 _ rfl; (with_reducible repeat (first | refine blk_drewN ?_ _ | refine blk_drew ?_ | refine blk_alloc ?_ _)); refine blk_put (cs := #[.bool false, .string (⟨#[]⟩ : ByteArray)]) ?_ 0 _ (by first | rfl | (cases a0.toList <;> rfl) | (cases a1.toList <;> rfl)); (with_reducible repeat (first | refine blk_drewN ?_ _ | refine blk_drew ?_ | refine blk_alloc ?_ _)); exact BK785.out) hb); replace HB := Q.a (below_step (Q.bw2 HB GE783 GE785) hb); (try clear hb)))
      go_roundg k1
      case measure => have := HK1.out; omega
      case rel => exact ⟨(t786), (wrap64 (x8_1 + 1)), Q.rs, Q.rs, H', ⟨by have := HK1.out; omega⟩, ⟨Q.kb BK783⟩, ⟨Q.bw2 HB GE783 GE785⟩⟩
     ·rw [if_neg c5] at H
      exact absurd H (by simp)
    ·rw [if_neg c4] at H
     exact absurd H (by simp)
   ·rw [if_neg c3] at H
    have c3b0 : decide (x8_1 < (l0.length : Int)) = false := decide_eq_false c3
    clear c3
    replace H := Option.bind_eq_some_iff.mp H
    obtain ⟨⟨t787, t788⟩, A110, H⟩ := H
    try dsimp only at H
    have A11 := Q.a A110
    clear A110
    simp only [Option.some.injEq, Prod.mk.injEq] at H
    obtain ⟨rfl, rfl⟩ := H
    go_wp2_with (first | ((with_reducible refine gate_callee (f := 82) rfl ?_); refine Q.gl 18 Tryd.func82 #[.bool false, .string x3_1] rfl rfl rfl rfl ?_; (with_reducible refine (integer_of.calls false x3_1 t787 t788 _ A11.out).mono ?_); rintro e w12 ⟨rfl, hb⟩; refine ⟨_, rfl, ?_⟩; replace BK783 := Q.a (Q.bb BK783 hb); replace HB := Q.a (below_step (Q.bw1 HB GE783) hb); (try clear hb); have hcz13_0 : w12.cell? ⟨gb783, 0, none⟩ = some (.bool false) := (blk_cell BK783.out 0).trans rfl; have hcz13_1 : w12.cell? ⟨gb783, 1, none⟩ = some (.string (⟨#[]⟩ : ByteArray)) := (blk_cell BK783.out 1).trans rfl; have hfz13_0 := blk_frozen BK783.out 0; have hfz13_1 := blk_frozen BK783.out 1))
    refine bodyPost_ret (results_cell_row rfl _ _ gb783 36 #[.bool t787, .string t788] (0, 0) _ rfl (by (with_reducible repeat (first | refine blk_drewN ?_ _ | refine blk_drew ?_ | refine blk_alloc ?_ _)); refine blk_put (cs := #[.bool t787, .string (⟨#[]⟩ : ByteArray)]) ?_ 1 _ (by first | rfl | (cases a0.toList <;> rfl) | (cases a1.toList <;> rfl)); (with_reducible repeat (first | refine blk_drewN ?_ _ | refine blk_drew ?_ | refine blk_alloc ?_ _)); refine blk_put (cs := #[.bool false, .string (⟨#[]⟩ : ByteArray)]) ?_ 0 _ (by first | rfl | (cases a0.toList <;> rfl) | (cases a1.toList <;> rfl)); (with_reducible repeat (first | refine blk_drewN ?_ _ | refine blk_drew ?_ | refine blk_alloc ?_ _)); exact BK783.out) Tryd.underlying36 rfl (by kernel_rfl)) rfl ?_
    exact ⟨Q.en, Q.bw1 HB GE783⟩
end Go.Proofs.YtpokflilobkoaaaDoor.P
