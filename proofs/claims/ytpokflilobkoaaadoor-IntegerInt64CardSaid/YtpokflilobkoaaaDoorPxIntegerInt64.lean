/- Out of what mp.py printed for this seat (squeeze.py, repack.py). Not trusted: Lean checks it. -/
import Derived.Test.YtpokflilobkoaaaDoorPx0
import Derived.Test.YtpokflilobkoaaaDoorPxIA
import Derived.Test.YtpokflilobkoaaaDoorPxNU
import Derived.Test.YtpokflilobkoaaaDoorXQ
-- squeezed twice
namespace Go.Proofs.YtpokflilobkoaaaDoor.P
open Go.RowKit Go.Proofs.YtpokflilobkoaaaDoorW.PrintWords Go.Proofs.YtpokflilobkoaaaDoorW.PrintLast Go.Proofs.YtpokflilobkoaaaDoorW.PrintMore
attribute [local go_sem] max2_int min2_int max_two min_two max_three min_three max_four min_four   -- for this text's walks alone
attribute [local go_sem] XW.cell_twice   -- for this text's walks alone
set_option linter.unusedVariables false
set_option linter.unusedSimpArgs false

/-! ### integer_Int64: function 63 -/
def integer_Int64.j0 : Nat → Int → Bool → Bool → ByteArray → Option (Int × Bool)
 | 0, _, _, _, _ => none
 | k + 1, x4, x17, x925000, x925001 => if x17 = true then (some (wrap64 ((wrap64 (-(wrap64 (IntKind.u64.wrap (x4 - 1))))) - 1), true)) else (if x925000 = true then (some (0, false)) else (if x4 ≤ 9223372036854775807 then (some (wrap64 (x4), true)) else (some (0, false))))
def integer_Int64.f (k : Nat) (a0_0 : Bool) (a0_1 : ByteArray) : Option (Int × Bool) := (integer_Normalize.f k a0_0 a0_1).bind fun bt925 => ((nat_Uint64.f k bt925.2).bind fun bt927 => (if bt927.2 = true then (if bt925.1 = true then (integer_Int64.j0 k bt927.1 (decide (bt927.1 ≤ 9223372036854775808)) bt925.1 bt925.2) else (integer_Int64.j0 k bt927.1 false bt925.1 bt925.2)) else (some (0, false))))
theorem integer_Int64.mono_l : ∀ k, (∀ y0 y1 y2 y3, LeO (integer_Int64.j0 k y0 y1 y2 y3) (integer_Int64.j0 (k + 1) y0 y1 y2 y3))
 | 0 => fun _ _ _ _ r h => by simp [integer_Int64.j0] at h
 | k + 1 => by
  have ih0 := integer_Int64.mono_l k
  ·intro y0 y1 y2 y3
   unfold integer_Int64.j0
   repeat' first
   | (with_reducible exact ih0 _ _ _ _)
   | (with_reducible exact integer_Normalize.mono _ _ _)
   | (with_reducible exact nat_Uint64.mono _ _)
   | (with_reducible exact LeO.refl _)
   | (with_reducible exact LeO.none _)
   | (with_reducible refine LeO.ite ?_ ?_)
   | (with_reducible refine LeO.bind ?_ (fun _ => ?_))
   | exact ih0 _ _ _ _
   | exact integer_Normalize.mono _ _ _
   | exact nat_Uint64.mono _ _
   | exact LeO.none _
   | refine LeO.ite ?_ ?_
   | refine LeO.bind ?_ (fun _ => ?_)
theorem integer_Int64.mono : ∀ a0 a1 k, LeO (integer_Int64.f k a0 a1) (integer_Int64.f (k + 1) a0 a1) := by
 intro a0 a1 k
 have ih0 := integer_Int64.mono_l k
 unfold integer_Int64.f
 repeat' first
   | (with_reducible exact ih0 _ _ _ _)
   | (with_reducible exact integer_Normalize.mono _ _ _)
   | (with_reducible exact nat_Uint64.mono _ _)
   | (with_reducible exact LeO.refl _)
   | (with_reducible exact LeO.none _)
   | (with_reducible refine LeO.ite ?_ ?_)
   | (with_reducible refine LeO.bind ?_ (fun _ => ?_))
   | exact ih0 _ _ _ _
   | exact integer_Normalize.mono _ _ _
   | exact nat_Uint64.mono _ _
   | exact LeO.none _
   | refine LeO.ite ?_ ?_
   | refine LeO.bind ?_ (fun _ => ?_)
set_option maxHeartbeats 8000000 in
set_option maxRecDepth 100000 in
theorem integer_Int64.calls (k : Nat) (a0_0 : Bool) (a0_1 : ByteArray) (r1 : Int) (r2 : Bool) (w : World) (h : integer_Int64.f k a0_0 a0_1 = some (r1, r2)) :
  Calls Tryd.prog 63 #[.agg #[.bool a0_0, .string a0_1]] w fun e w' => e = .returned (.tuple #[.int .i64 r1, .bool r2]) ∧ Below w.heap.size w w' := by
 have hu36 := Tryd.underlying36
 have HB := Q.a (Below.refl w.heap.size w)
 have H : ((integer_Normalize.f k a0_0 a0_1).bind fun bt925 => ((nat_Uint64.f k bt925.2).bind fun bt927 => (if bt927.2 = true then (if bt925.1 = true then (integer_Int64.j0 k bt927.1 (decide (bt927.1 ≤ 9223372036854775808)) bt925.1 bt925.2) else (integer_Int64.j0 k bt927.1 false bt925.1 bt925.2)) else (some (0, false))))) = some (r1, r2) := h
 clear h
 replace H := Option.bind_eq_some_iff.mp H
 obtain ⟨⟨t925, t926⟩, A20, H⟩ := H
 try dsimp only at H
 have A2 := Q.a A20
 clear A20
 replace H := Option.bind_eq_some_iff.mp H
 obtain ⟨⟨t927, t928⟩, A30, H⟩ := H
 try dsimp only at H
 have A3 := Q.a A30
 clear A30
 by_cases c4 : t928 = true
 ·subst c4
  have H1 : (if t925 = true then (integer_Int64.j0 k t927 (decide (t927 ≤ 9223372036854775808)) t925 t926) else (integer_Int64.j0 k t927 false t925 t926)) = some (r1, r2) := by rw [if_pos rfl] at H; exact H
  clear H
  have H := H1
  clear H1
  have HC5 := Q.a H
  clear H
  go_enter Tryd.func63, Tryd.ntmps63
  go_upto_region 5 with (first | ((with_reducible refine gate_dst (N := 1) rfl ?_); refine Q.bx 1 #[.bool a0_0, .string a0_1] 36 rfl rfl ?_; intro gb924 hg w6 hbox hb; replace BK924 := Q.a (hbox); replace GW924 := Q.a (Q.gs hg (below_size (Q.bw HB))); replace GE924 := GW924; replace HB := Q.a (below_step (Q.bw HB) hb); clear hb hbox hg; have hcz7_0 : w6.cell? ⟨gb924, 0, none⟩ = some (.bool a0_0) := (blk_cell BK924.out 0).trans rfl; have hcz7_1 : w6.cell? ⟨gb924, 1, none⟩ = some (.string a0_1) := (blk_cell BK924.out 1).trans rfl; have hfz7_0 := blk_frozen BK924.out 0; have hfz7_1 := blk_frozen BK924.out 1) | ((with_reducible refine gate_callee (f := 52) rfl ?_); refine Q.gl 7 Tryd.func52 #[.agg #[.bool a0_0, .string a0_1]] rfl rfl rfl rfl ?_; (with_reducible refine (integer_Normalize.calls k a0_0 a0_1 t925 t926 _ A2.out).mono ?_); rintro e w8 ⟨rfl, hb⟩; refine ⟨_, rfl, ?_⟩; replace BK924 := Q.a (Q.bb BK924 hb); replace HB := Q.a (below_step (Q.bw1 HB GE924) hb); (try clear hb); have hcz9_0 : w8.cell? ⟨gb924, 0, none⟩ = some (.bool a0_0) := (blk_cell BK924.out 0).trans rfl; have hcz9_1 : w8.cell? ⟨gb924, 1, none⟩ = some (.string a0_1) := (blk_cell BK924.out 1).trans rfl; have hfz9_0 := blk_frozen BK924.out 0; have hfz9_1 := blk_frozen BK924.out 1) | ((with_reducible refine gate_callee (f := 58) rfl ?_); refine Q.gl 11 Tryd.func58 #[.string t926] rfl rfl rfl rfl ?_; (with_reducible refine (nat_Uint64.calls k t926 t927 true _ A3.out).mono ?_); rintro e w10 ⟨rfl, hb⟩; refine ⟨_, rfl, ?_⟩; replace BK924 := Q.a (blk_below (g := gb924) (o := .cells #[.bool t925, .string t926] 36 (0, 0)) (by (with_reducible repeat (first | refine blk_drewN ?_ _ | refine blk_drew ?_ | refine blk_alloc ?_ _)); refine blk_put (cs := #[.bool t925, .string a0_1]) ?_ 1 _ (by first | rfl | (cases a0.toList <;> rfl) | (cases a1.toList <;> rfl)); (with_reducible repeat (first | refine blk_drewN ?_ _ | refine blk_drew ?_ | refine blk_alloc ?_ _)); refine blk_put (cs := #[.bool a0_0, .string a0_1]) ?_ 0 _ (by first | rfl | (cases a0.toList <;> rfl) | (cases a1.toList <;> rfl)); (with_reducible repeat (first | refine blk_drewN ?_ _ | refine blk_drew ?_ | refine blk_alloc ?_ _)); exact BK924.out) hb); replace HB := Q.a (below_step (Q.bw1 HB GE924) hb); (try clear hb)))
  (try simp only [Act.put, List.setIfInBounds_toArray, List.set_cons_zero, List.set_cons_succ])
  go_cut [17] (fun v17 wc => ∃ (kq : Nat) (x17_4 : Bool), v17 = .bool x17_4 ∧ Aside0 (integer_Int64.j0 kq t927 x17_4 t925 t926 = some (r1, r2)) ∧ Aside0 (kq ≤ k) ∧ Aside0 (wc.heap[gb924]? = some (.cells #[.bool t925, .string t926] 36 (0, 0))) ∧ Aside0 (Below w.heap.size w wc))
  case first =>
   have H := HC5.out
   clear HC5
   by_cases c11 : t925 = true
   ·subst c11
    have H1 : (integer_Int64.j0 k t927 (decide (t927 ≤ 9223372036854775808)) true t926) = some (r1, r2) := by rw [if_pos rfl] at H; exact H
    clear H
    have H := H1
    clear H1
    have H' := Q.a H
    clear H
    have hcz12_0 : w10.cell? ⟨gb924, 0, none⟩ = some (.bool true) := (blk_cell BK924.out 0).trans rfl
    have hcz12_1 : w10.cell? ⟨gb924, 1, none⟩ = some (.string t926) := (blk_cell BK924.out 1).trans rfl
    have hfz12_0 := blk_frozen BK924.out 0
    have hfz12_1 := blk_frozen BK924.out 1
    go_wp2
    go_meet
    case rel => exact ⟨_, (decide (t927 ≤ 9223372036854775808)), Q.rs, H', ⟨by first | omega | exact Nat.le_refl _⟩, ⟨Q.kb BK924⟩, ⟨Q.bw1 HB GE924⟩⟩
   ·replace c11 := Bool.eq_false_iff.mpr c11
    subst c11
    have H1 : (integer_Int64.j0 k t927 false false t926) = some (r1, r2) := by rw [if_neg (show ¬ (false = true) by decide)] at H; exact H
    clear H
    have H := H1
    clear H1
    have H' := Q.a H
    clear H
    have hcz13_0 : w10.cell? ⟨gb924, 0, none⟩ = some (.bool false) := (blk_cell BK924.out 0).trans rfl
    have hcz13_1 : w10.cell? ⟨gb924, 1, none⟩ = some (.string t926) := (blk_cell BK924.out 1).trans rfl
    have hfz13_0 := blk_frozen BK924.out 0
    have hfz13_1 := blk_frozen BK924.out 1
    go_wp2
    go_meet
    case rel => exact ⟨_, (false), Q.rs, H', ⟨by first | omega | exact Nat.le_refl _⟩, ⟨Q.kb BK924⟩, ⟨Q.bw1 HB GE924⟩⟩
  case rest =>
   clear HC5
   try clear c1
   try clear p2
   try clear c4
   try clear c5
   try clear c6
   try clear c11
   try clear hcz12_0
   try clear hcz12_1
   try clear hcz13_0
   try clear hcz13_1
   try clear hcz7_0
   try clear hcz7_1
   try clear hcz9_0
   try clear hcz9_1
   try clear hfz12_0
   try clear hfz12_1
   try clear hfz13_0
   try clear hfz13_1
   try clear hfz7_0
   try clear hfz7_1
   try clear hfz9_0
   try clear hfz9_1
   obtain ⟨kq, x17_4, rfl, HA, HJ4, BK924, HB⟩ := hcut
   cases kq with
   | zero => exact absurd HA.out (by simp [integer_Int64.j0])
   | succ kj4 =>
    have H := HA.out
    clear HA
    simp only [integer_Int64.j0] at H
    by_cases c14 : x17_4 = true
    ·subst c14
     have H1 : (some (wrap64 ((wrap64 (-(wrap64 (IntKind.u64.wrap (t927 - 1))))) - 1), true)) = some (r1, r2) := by rw [if_pos rfl] at H; exact H
     clear H
     have H := H1
     clear H1
     simp only [Option.some.injEq, Prod.mk.injEq] at H
     obtain ⟨rfl, rfl⟩ := H
     go_wp2
     go_ret2
     exact ⟨Q.en, Q.bw1 HB GE924⟩
    ·replace c14 := Bool.eq_false_iff.mpr c14
     subst c14
     have H1 : (if t925 = true then (some (0, false)) else (if t927 ≤ 9223372036854775807 then (some (wrap64 (t927), true)) else (some (0, false)))) = some (r1, r2) := by rw [if_neg (show ¬ (false = true) by decide)] at H; exact H
     clear H
     have H := H1
     clear H1
     by_cases c15 : t925 = true
     ·subst c15
      have H1 : (some (0, false)) = some (r1, r2) := by rw [if_pos rfl] at H; exact H
      clear H
      have H := H1
      clear H1
      simp only [Option.some.injEq, Prod.mk.injEq] at H
      obtain ⟨rfl, rfl⟩ := H
      have hcz16_0 : wc.cell? ⟨gb924, 0, none⟩ = some (.bool true) := (blk_cell BK924.out 0).trans rfl
      have hcz16_1 : wc.cell? ⟨gb924, 1, none⟩ = some (.string t926) := (blk_cell BK924.out 1).trans rfl
      have hfz16_0 := blk_frozen BK924.out 0
      have hfz16_1 := blk_frozen BK924.out 1
      go_wp2
      go_ret2
      exact ⟨Q.en, Q.bw1 HB GE924⟩
     ·replace c15 := Bool.eq_false_iff.mpr c15
      subst c15
      have H1 : (if t927 ≤ 9223372036854775807 then (some (wrap64 (t927), true)) else (some (0, false))) = some (r1, r2) := by rw [if_neg (show ¬ (false = true) by decide)] at H; exact H
      clear H
      have H := H1
      clear H1
      by_cases c17 : t927 ≤ 9223372036854775807
      ·rw [if_pos c17] at H
       have c17b0 : decide (t927 ≤ 9223372036854775807) = true := decide_eq_true c17
       clear c17
       simp only [Option.some.injEq, Prod.mk.injEq] at H
       obtain ⟨rfl, rfl⟩ := H
       have hcz18_0 : wc.cell? ⟨gb924, 0, none⟩ = some (.bool false) := (blk_cell BK924.out 0).trans rfl
       have hcz18_1 : wc.cell? ⟨gb924, 1, none⟩ = some (.string t926) := (blk_cell BK924.out 1).trans rfl
       have hfz18_0 := blk_frozen BK924.out 0
       have hfz18_1 := blk_frozen BK924.out 1
       go_wp2
       go_ret2
       exact ⟨Q.en, Q.bw1 HB GE924⟩
      ·rw [if_neg c17] at H
       have c17b0 : decide (t927 ≤ 9223372036854775807) = false := decide_eq_false c17
       clear c17
       simp only [Option.some.injEq, Prod.mk.injEq] at H
       obtain ⟨rfl, rfl⟩ := H
       have hcz19_0 : wc.cell? ⟨gb924, 0, none⟩ = some (.bool false) := (blk_cell BK924.out 0).trans rfl
       have hcz19_1 : wc.cell? ⟨gb924, 1, none⟩ = some (.string t926) := (blk_cell BK924.out 1).trans rfl
       have hfz19_0 := blk_frozen BK924.out 0
       have hfz19_1 := blk_frozen BK924.out 1
       go_wp2
       go_ret2
       exact ⟨Q.en, Q.bw1 HB GE924⟩
 ·replace c4 := Bool.eq_false_iff.mpr c4
  subst c4
  have H1 : (some (0, false)) = some (r1, r2) := by rw [if_neg (show ¬ (false = true) by decide)] at H; exact H
  clear H
  have H := H1
  clear H1
  simp only [Option.some.injEq, Prod.mk.injEq] at H
  obtain ⟨rfl, rfl⟩ := H
  go_enter Tryd.func63, Tryd.ntmps63
  go_wp2_with (first | ((with_reducible refine gate_dst (N := 1) rfl ?_); refine Q.bx 1 #[.bool a0_0, .string a0_1] 36 rfl rfl ?_; intro gb924 hg w20 hbox hb; replace BK924 := Q.a (hbox); replace GW924 := Q.a (Q.gs hg (below_size (Q.bw HB))); replace GE924 := GW924; replace HB := Q.a (below_step (Q.bw HB) hb); clear hb hbox hg; have hcz21_0 : w20.cell? ⟨gb924, 0, none⟩ = some (.bool a0_0) := (blk_cell BK924.out 0).trans rfl; have hcz21_1 : w20.cell? ⟨gb924, 1, none⟩ = some (.string a0_1) := (blk_cell BK924.out 1).trans rfl; have hfz21_0 := blk_frozen BK924.out 0; have hfz21_1 := blk_frozen BK924.out 1) | ((with_reducible refine gate_callee (f := 52) rfl ?_); refine Q.gl 7 Tryd.func52 #[.agg #[.bool a0_0, .string a0_1]] rfl rfl rfl rfl ?_; (with_reducible refine (integer_Normalize.calls k a0_0 a0_1 t925 t926 _ A2.out).mono ?_); rintro e w22 ⟨rfl, hb⟩; refine ⟨_, rfl, ?_⟩; replace BK924 := Q.a (Q.bb BK924 hb); replace HB := Q.a (below_step (Q.bw1 HB GE924) hb); (try clear hb); have hcz23_0 : w22.cell? ⟨gb924, 0, none⟩ = some (.bool a0_0) := (blk_cell BK924.out 0).trans rfl; have hcz23_1 : w22.cell? ⟨gb924, 1, none⟩ = some (.string a0_1) := (blk_cell BK924.out 1).trans rfl; have hfz23_0 := blk_frozen BK924.out 0; have hfz23_1 := blk_frozen BK924.out 1) | ((with_reducible refine gate_callee (f := 58) rfl ?_); refine Q.gl 11 Tryd.func58 #[.string t926] rfl rfl rfl rfl ?_; (with_reducible refine (nat_Uint64.calls k t926 t927 false _ A3.out).mono ?_); rintro e w24 ⟨rfl, hb⟩; refine ⟨_, rfl, ?_⟩; replace BK924 := Q.a (blk_below (g := gb924) (o := .cells #[.bool t925, .string t926] 36 (0, 0)) (by (with_reducible repeat (first | refine blk_drewN ?_ _ | refine blk_drew ?_ | refine blk_alloc ?_ _)); refine blk_put (cs := #[.bool t925, .string a0_1]) ?_ 1 _ (by first | rfl | (cases a0.toList <;> rfl) | (cases a1.toList <;> rfl)); (with_reducible repeat (first | refine blk_drewN ?_ _ | refine blk_drew ?_ | refine blk_alloc ?_ _)); refine blk_put (cs := #[.bool a0_0, .string a0_1]) ?_ 0 _ (by first | rfl | (cases a0.toList <;> rfl) | (cases a1.toList <;> rfl)); (with_reducible repeat (first | refine blk_drewN ?_ _ | refine blk_drew ?_ | refine blk_alloc ?_ _)); exact BK924.out) hb); replace HB := Q.a (below_step (Q.bw1 HB GE924) hb); (try clear hb)))
  go_ret2
  exact ⟨Q.en, Q.bw1 HB GE924⟩
end Go.Proofs.YtpokflilobkoaaaDoor.P
