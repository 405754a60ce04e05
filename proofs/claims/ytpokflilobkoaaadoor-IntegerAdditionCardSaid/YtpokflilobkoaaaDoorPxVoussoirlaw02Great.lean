/- Out of what mp.py printed for this seat (squeeze.py, repack.py). Not trusted: Lean checks it. -/
import Derived.Test.YtpokflilobkoaaaDoorPx0
import Derived.Test.YtpokflilobkoaaaDoorXQ
-- squeezed twice
namespace Go.Proofs.YtpokflilobkoaaaDoor.P
open Go.RowKit Go.Proofs.YtpokflilobkoaaaDoorW.PrintWords Go.Proofs.YtpokflilobkoaaaDoorW.PrintLast Go.Proofs.YtpokflilobkoaaaDoorW.PrintMore
attribute [local go_sem] max2_int min2_int max_two min_two max_three min_three max_four min_four   -- for this text's walks alone
attribute [local go_sem] XW.cell_twice   -- for this text's walks alone
set_option linter.unusedVariables false
set_option linter.unusedSimpArgs false

/-! ### voussoirlaw02_Great: function 36 -/
def voussoirlaw02_Great.l0 : Nat → List (S36) → Int → Int → Option (Int)
 | 0, _, _, _ => none
 | k + 1, x5, x6, x7 => if x7 < x6 then (if 0 ≤ x7 then (if x7 < (x5.length : Int) then (if (((rd_T36 x5 x7).f1).size : Int) > 40 then (some 1) else (voussoirlaw02_Great.l0 k x5 x6 (wrap64 (x7 + 1)))) else (none)) else (none)) else (some 0)
def voussoirlaw02_Great.f (k : Nat) (l0 : List (S36)) : Option (Int) := voussoirlaw02_Great.l0 k l0 (l0.length : Int) 0
theorem voussoirlaw02_Great.mono_l : ∀ k, (∀ y0 y1 y2, LeO (voussoirlaw02_Great.l0 k y0 y1 y2) (voussoirlaw02_Great.l0 (k + 1) y0 y1 y2))
 | 0 => fun _ _ _ r h => by simp [voussoirlaw02_Great.l0] at h
 | k + 1 => by
  have ih0 := voussoirlaw02_Great.mono_l k
  ·intro y0 y1 y2
   unfold voussoirlaw02_Great.l0
   repeat' first
   | (with_reducible exact ih0 _ _ _)
   | (with_reducible exact LeO.refl _)
   | (with_reducible exact LeO.none _)
   | (with_reducible refine LeO.ite ?_ ?_)
   | (with_reducible refine LeO.bind ?_ (fun _ => ?_))
   | exact ih0 _ _ _
   | exact LeO.none _
   | refine LeO.ite ?_ ?_
   | refine LeO.bind ?_ (fun _ => ?_)
theorem voussoirlaw02_Great.mono : ∀ a0 k, LeO (voussoirlaw02_Great.f k a0) (voussoirlaw02_Great.f (k + 1) a0) := by
 intro a0 k
 have ih0 := voussoirlaw02_Great.mono_l k
 unfold voussoirlaw02_Great.f
 repeat' first
   | (with_reducible exact ih0 _ _ _)
   | (with_reducible exact LeO.refl _)
   | (with_reducible exact LeO.none _)
   | (with_reducible refine LeO.ite ?_ ?_)
   | (with_reducible refine LeO.bind ?_ (fun _ => ?_))
   | exact ih0 _ _ _
   | exact LeO.none _
   | refine LeO.ite ?_ ?_
   | refine LeO.bind ?_ (fun _ => ?_)
set_option maxHeartbeats 8000000 in
set_option maxRecDepth 100000 in
theorem voussoirlaw02_Great.calls (k : Nat) (A0 : Option Addr) (c0 : Nat) (l0 : List (S36)) (r : Int) (w : World) (hr0 : Kd.C k36 w A0 l0.length l0) (hc0 : l0.length ≤ c0) (h : voussoirlaw02_Great.f k l0 = some r) :
  Calls Tryd.prog 36 #[.slice A0 l0.length c0] w fun e w' => e = .returned (.int .i64 r) ∧ Below w.heap.size w w' := by
 have hu36 := Tryd.underlying36
 have HR0 := Q.a hr0
 have HC0 := Q.a hc0
 clear hr0 hc0
 have HB := Q.a (Below.refl w.heap.size w)
 have H : (voussoirlaw02_Great.l0 k l0 (l0.length : Int) 0) = some r := h
 clear h
 have H' := Q.a H
 clear H
 go_enter Tryd.func36, Tryd.ntmps36
 go_wp2
 go_loopg [7] k (fun kq v7 w' => ∃ (x7_1 : Int), v7 = .int .i64 x7_1 ∧ Aside0 (voussoirlaw02_Great.l0 kq l0 (l0.length : Int) x7_1 = some r) ∧ Aside0 (kq ≤ k) ∧ Aside0 (Below w.heap.size w w'))
 case atStart => exact ⟨(0), Q.rs, H', ⟨Nat.le_refl _⟩, ⟨Q.bw HB⟩⟩
 case round =>
  clear H'
  obtain ⟨x7_1, rfl, HA, HK1, HB⟩ := hrel
  cases gk with
  | zero => exact absurd HA.out (by simp [voussoirlaw02_Great.l0])
  | succ k1 =>
   have H := HA.out
   clear HA
   simp only [voussoirlaw02_Great.l0] at H
   by_cases c2 : x7_1 < (l0.length : Int)
   ·rw [if_pos c2] at H
    have c2b0 : decide (x7_1 < (l0.length : Int)) = true := decide_eq_true c2
    clear c2
    by_cases c3 : 0 ≤ x7_1
    ·rw [if_pos c3] at H
     have c3b0 : decide (0 ≤ x7_1) = true := decide_eq_true c3
     clear c3
     by_cases c4 : x7_1 < (l0.length : Int)
     ·rw [if_pos c4] at H
      have c4b0 : decide (x7_1 < (l0.length : Int)) = true := decide_eq_true c4
      clear c4
      by_cases c5 : (((rd_T36 l0 x7_1).f1).size : Int) > 40
      ·rw [if_pos c5] at H
       have c5b0 : decide (40 < (((rd_T36 l0 x7_1).f1).size : Int)) = true := decide_eq_true c5
       have c5b1 : decide (40 < ((rd_T36 l0 x7_1).f1).size) = true := decide_eq_true (by omega)
       clear c5
       obtain rfl := Option.some.inj H
       have p463 : 0 ≤ (x7_1 : Int) := of_decide_eq_true (by first | (with_reducible assumption) | assumption)
       have q463 : x7_1 < (l0.length : Int) := of_decide_eq_true (by first | (with_reducible assumption) | assumption)
       obtain ⟨ad463, e463, hx463_0, hx463_1⟩ := at_T36 HR0.out x7_1 p463 q463
       cases e463
       replace hx463_0 := (HB.out.cell (World.block_lt_of_cell? w _ hx463_0)).trans hx463_0
       replace hx463_1 := (HB.out.cell (World.block_lt_of_cell? w _ hx463_1)).trans hx463_1
       replace p463 := eq_true p463
       replace q463 := eq_true q463
       go_wp2_with (first | ((with_reducible refine gate_dst (N := 4) rfl ?_); refine Q.bx 4 #[.bool false, .string (⟨#[]⟩ : ByteArray)] 36 rfl rfl ?_; intro gb464 hg w6 hbox hb; replace BK464 := Q.a (hbox); replace GW464 := Q.a (Q.gs hg (below_size (Q.bw HB))); replace GE464 := GW464; replace HB := Q.a (below_step (Q.bw HB) hb); clear hb hbox hg; have hcz7_0 : w6.cell? ⟨gb464, 0, none⟩ = some (.bool false) := (blk_cell BK464.out 0).trans rfl; have hcz7_1 : w6.cell? ⟨gb464, 1, none⟩ = some (.string (⟨#[]⟩ : ByteArray)) := (blk_cell BK464.out 1).trans rfl; have hfz7_0 := blk_frozen BK464.out 0; have hfz7_1 := blk_frozen BK464.out 1))
       go_ret
       exact ⟨Q.en, Q.bw1 HB GE464⟩
      ·rw [if_neg c5] at H
       have c5b0 : decide (40 < (((rd_T36 l0 x7_1).f1).size : Int)) = false := decide_eq_false c5
       have c5b1 : decide (40 < ((rd_T36 l0 x7_1).f1).size) = false := decide_eq_false (by omega)
       clear c5
       have H' := Q.a H
       clear H
       have p463 : 0 ≤ (x7_1 : Int) := of_decide_eq_true (by first | (with_reducible assumption) | assumption)
       have q463 : x7_1 < (l0.length : Int) := of_decide_eq_true (by first | (with_reducible assumption) | assumption)
       obtain ⟨ad463, e463, hx463_0, hx463_1⟩ := at_T36 HR0.out x7_1 p463 q463
       cases e463
       replace hx463_0 := (HB.out.cell (World.block_lt_of_cell? w _ hx463_0)).trans hx463_0
       replace hx463_1 := (HB.out.cell (World.block_lt_of_cell? w _ hx463_1)).trans hx463_1
       replace p463 := eq_true p463
       replace q463 := eq_true q463
       go_wp2_with (first | ((with_reducible refine gate_dst (N := 4) rfl ?_); refine Q.bx 4 #[.bool false, .string (⟨#[]⟩ : ByteArray)] 36 rfl rfl ?_; intro gb464 hg w8 hbox hb; replace BK464 := Q.a (hbox); replace GW464 := Q.a (Q.gs hg (below_size (Q.bw HB))); replace GE464 := GW464; replace HB := Q.a (below_step (Q.bw HB) hb); clear hb hbox hg; have hcz9_0 : w8.cell? ⟨gb464, 0, none⟩ = some (.bool false) := (blk_cell BK464.out 0).trans rfl; have hcz9_1 : w8.cell? ⟨gb464, 1, none⟩ = some (.string (⟨#[]⟩ : ByteArray)) := (blk_cell BK464.out 1).trans rfl; have hfz9_0 := blk_frozen BK464.out 0; have hfz9_1 := blk_frozen BK464.out 1))
       go_roundg k1
       case measure => have := HK1.out; omega
       case rel => exact ⟨(wrap64 (x7_1 + 1)), Q.rs, H', ⟨by have := HK1.out; omega⟩, ⟨Q.bw1 HB GE464⟩⟩
     ·rw [if_neg c4] at H
      exact absurd H (by simp)
    ·rw [if_neg c3] at H
     exact absurd H (by simp)
   ·rw [if_neg c2] at H
    have c2b0 : decide (x7_1 < (l0.length : Int)) = false := decide_eq_false c2
    clear c2
    obtain rfl := Option.some.inj H
    go_wp2
    go_ret
    exact ⟨Q.en, Q.bw HB⟩
end Go.Proofs.YtpokflilobkoaaaDoor.P
