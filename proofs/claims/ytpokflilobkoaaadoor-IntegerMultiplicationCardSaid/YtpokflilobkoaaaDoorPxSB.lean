/- Out of what mp.py printed for this seat (squeeze.py, repack.py). Not trusted: Lean checks it. -/
import Derived.Test.YtpokflilobkoaaaDoorPx0
import Derived.Test.YtpokflilobkoaaaDoorPxRB
import Derived.Test.YtpokflilobkoaaaDoorPxSA
import Derived.Test.YtpokflilobkoaaaDoorXQ
-- squeezed twice
namespace Go.Proofs.YtpokflilobkoaaaDoor.P
open Go.RowKit Go.Proofs.YtpokflilobkoaaaDoorW.PrintWords Go.Proofs.YtpokflilobkoaaaDoorW.PrintLast Go.Proofs.YtpokflilobkoaaaDoorW.PrintMore
attribute [local go_sem] max2_int min2_int max_two min_two max_three min_three max_four min_four   -- for this text's walks alone
attribute [local go_sem] XW.cell_twice   -- for this text's walks alone
set_option linter.unusedVariables false
set_option linter.unusedSimpArgs false

/-! ### voussoirref01_Of: function 62 -/
def voussoirref01_Of.l0 : Nat → Int → List Int → Option (ByteArray)
 | 0, _, _ => none
 | k + 1, x0, x3 => if x0 > 0 then (if x3.length < 140737488355328 then (voussoirref01_Of.l0 k (IntKind.u64.wrap (Int.tdiv x0 256)) (x3 ++ [(Int.tmod x0 256) % 256])) else (none)) else (some (strOfNums x3))
def voussoirref01_Of.f (k : Nat) (a0 : Int) : Option (ByteArray) := voussoirref01_Of.l0 k a0 (([] : List Int))
theorem voussoirref01_Of.mono_l : ∀ k, (∀ y0 y1, LeO (voussoirref01_Of.l0 k y0 y1) (voussoirref01_Of.l0 (k + 1) y0 y1))
 | 0 => fun _ _ r h => by simp [voussoirref01_Of.l0] at h
 | k + 1 => by
  have ih0 := voussoirref01_Of.mono_l k
  ·intro y0 y1
   unfold voussoirref01_Of.l0
   repeat' first
   | (with_reducible exact ih0 _ _)
   | (with_reducible exact LeO.refl _)
   | (with_reducible exact LeO.none _)
   | (with_reducible refine LeO.ite ?_ ?_)
   | (with_reducible refine LeO.bind ?_ (fun _ => ?_))
   | exact ih0 _ _
   | exact LeO.none _
   | refine LeO.ite ?_ ?_
   | refine LeO.bind ?_ (fun _ => ?_)
theorem voussoirref01_Of.mono : ∀ a0 k, LeO (voussoirref01_Of.f k a0) (voussoirref01_Of.f (k + 1) a0) := by
 intro a0 k
 have ih0 := voussoirref01_Of.mono_l k
 unfold voussoirref01_Of.f
 repeat' first
   | (with_reducible exact ih0 _ _)
   | (with_reducible exact LeO.refl _)
   | (with_reducible exact LeO.none _)
   | (with_reducible refine LeO.ite ?_ ?_)
   | (with_reducible refine LeO.bind ?_ (fun _ => ?_))
   | exact ih0 _ _
   | exact LeO.none _
   | refine LeO.ite ?_ ?_
   | refine LeO.bind ?_ (fun _ => ?_)
set_option maxHeartbeats 8000000 in
set_option maxRecDepth 100000 in
theorem voussoirref01_Of.calls (k : Nat) (a0 : Int) (r : ByteArray) (w : World) (h : voussoirref01_Of.f k a0 = some r) :
  Calls Tryd.prog 62 #[.int .u64 a0] w fun e w' => e = .returned (.string r) ∧ Below w.heap.size w w' := by
 have HB := Q.a (Below.refl w.heap.size w)
 have H : (voussoirref01_Of.l0 k a0 (([] : List Int))) = some r := h
 clear h
 obtain ⟨y567, hy567⟩ : ∃ y_ : List Int, y_ = (([] : List Int)) := ⟨_, rfl⟩
 replace H : (voussoirref01_Of.l0 k a0 y567) = some r := by first | (rw [hy567]; with_reducible exact H) | (have H2_ := (Option.bind_some _ _).symm.trans H; rw [hy567]; with_reducible exact H2_) | (have H2_ := (Option.bind_some _ _).symm.trans H; with_reducible exact H2_) | with_reducible exact H | (rw [hy567]; exact H) | exact H
 have Ny567 := Q.a hy567
 clear hy567
 have H' := Q.a H
 clear H
 go_enter Tryd.func62, Tryd.ntmps62
 go_wp2_with (first | ((with_reducible refine gate_dst (N := 4) rfl ?_); refine Kd.R_lit (Kd.int .u8) _ 5 ?hg (N := 4) ?hd (xs := ([] : List Int)) (inner := []) (ok := fun _ => True) (okp := fun _ => True) ?hr ?hp (fun _ hk => hk) trivial (Below.refl _ _) (Nat.le_refl _) (by simp) ?_; (case hd => rfl); (case hg => rfl); (case hr => first | (go_simp; done) | (go_simp; rfl)); (case hp => exact (Reps.none _ _)); intro v568 w2 ho3 hb hg_ hnew_; clear hg_ hnew_; (first | rw [← Ny567.out] at ho3 | (simp only [Int.reduceToNat] at ho3; rw [← Ny567.out] at ho3)); replace HO569 := Q.a (Kd.R_lower ho3 (below_size (Q.bw HB))); replace HB := Q.a (below_step (Q.bw HB) hb); clear hb ho3))
 go_loopg [0, 3] k (fun kq v0 v3 w' => ∃ (x0_1 : Int) (x3_1 : List Int), v0 = .int .u64 x0_1 ∧ Aside0 (voussoirref01_Of.l0 kq x0_1 x3_1 = some r) ∧ Aside0 (kq ≤ k) ∧ Aside0 (Kd.R (Kd.int .u8) 5 w' w.heap.size (fun _ => True) v3 x3_1) ∧ Aside0 (Below w.heap.size w w'))
 case atStart => exact ⟨(a0), (y567), Q.rs, H', ⟨Nat.le_refl _⟩, ⟨Q.kr HO569⟩, ⟨Q.bw HB⟩⟩
 case round =>
  clear H'
  try clear p2
  obtain ⟨x0_1, x3_1, rfl, HA, HK1, HO_3, HB⟩ := hrel
  cases gk with
  | zero => exact absurd HA.out (by simp [voussoirref01_Of.l0])
  | succ k1 =>
   have H := HA.out
   clear HA
   simp only [voussoirref01_Of.l0] at H
   by_cases c4 : x0_1 > 0
   ·rw [if_pos c4] at H
    have c4b0 : decide (0 < x0_1) = true := decide_eq_true c4
    clear c4
    by_cases c5 : x3_1.length < 140737488355328
    ·rw [if_pos c5] at H
     have LMc5 := Q.a c5
     clear c5
     obtain ⟨y570, hy570⟩ : ∃ y_ : List Int, y_ = (x3_1 ++ [(Int.tmod x0_1 256) % 256]) := ⟨_, rfl⟩
     replace H : (voussoirref01_Of.l0 k1 (IntKind.u64.wrap (Int.tdiv x0_1 256)) y570) = some r := by first | (rw [hy570]; with_reducible exact H) | (have H2_ := (Option.bind_some _ _).symm.trans H; rw [hy570]; with_reducible exact H2_) | (have H2_ := (Option.bind_some _ _).symm.trans H; with_reducible exact H2_) | with_reducible exact H | (rw [hy570]; exact H) | exact H
     have Ny570 := Q.a hy570
     clear hy570
     have H' := Q.a H
     clear H
     go_wp2_with (first | ((with_reducible refine gate_builtin (b := .append) (xs := #[.tmp 7, .tmp 11]) rfl ?_); at_builtin; refine Kd.R_append (Kd.int .u8) (w0 := w) w.heap.size rfl (.tmp 7) (.tmp 11) 70 5 (.int .u8 0) 1 rfl Tryd.underlying70 info5 rfl (by decide) (by omega) u3 x3_1 ((Int.tmod x0_1 256) % 256) [.int .u8 ((Int.tmod x0_1 256) % 256)] (fun _ => True) (fun _ => False) rfl rfl ?aP (fun _ hk => hk.elim) ?aF ?aO ?aB ?aS ?aL ?_; (case aP => exact rfl); (case aB => exact (Q.bw HB)); (case aF => exact (fun _ _ => trivial)); (case aO => exact (Q.kr HO_3)); (case aS => exact (below_size (Q.bw HB))); (case aL => have := LMc5.out; omega); intro v571 w6 ho hb hg hat; rw [← Ny570.out] at ho; replace HB := Q.a (hb); replace HO572 := Q.a (ho); clear HO_3; clear ho hb hg hat))
     go_roundg k1
     case measure => have := HK1.out; omega
     case rel => exact ⟨(IntKind.u64.wrap (Int.tdiv x0_1 256)), (y570), Q.rs, H', ⟨by have := HK1.out; omega⟩, ⟨Q.kr HO572⟩, ⟨Q.bw HB⟩⟩
    ·rw [if_neg c5] at H
     exact absurd H (by simp)
   ·rw [if_neg c4] at H
    have c4b0 : decide (0 < x0_1) = false := decide_eq_false c4
    clear c4
    obtain rfl := Option.some.inj H
    have hcv7 := own_string (P := Tryd.prog) Tryd.underlying70 Tryd.underlying5 Tryd.underlying9 (Kd.own_of_R HO_3.out)
    go_wp2
    go_ret
    exact ⟨Q.en, Q.bw HB⟩

/-! ### voussoirref02_From: function 84 -/
def voussoirref02_From.f (k : Nat) (a0 : Int) : Option (Bool × ByteArray) := if a0 < 0 then ((voussoirref01_Of.f k (IntKind.u64.wrap ((IntKind.u64.wrap (wrap64 (-(wrap64 (a0 + 1))))) + 1))).bind fun t574 => ((voussoirref02_of.f k true t574).bind fun bt575 => (some (bt575.1, bt575.2)))) else ((voussoirref01_Of.f k (IntKind.u64.wrap (a0))).bind fun t577 => ((voussoirref02_of.f k false t577).bind fun bt578 => (some (bt578.1, bt578.2))))
theorem voussoirref02_From.mono : ∀ a0 k, LeO (voussoirref02_From.f k a0) (voussoirref02_From.f (k + 1) a0) := by
 intro a0 k
 unfold voussoirref02_From.f
 repeat' first
   | (with_reducible exact voussoirref01_Of.mono _ _)
   | (with_reducible exact voussoirref02_of.mono _ _ _)
   | (with_reducible exact LeO.refl _)
   | (with_reducible exact LeO.none _)
   | (with_reducible refine LeO.ite ?_ ?_)
   | (with_reducible refine LeO.bind ?_ (fun _ => ?_))
   | exact voussoirref01_Of.mono _ _
   | exact voussoirref02_of.mono _ _ _
   | exact LeO.none _
   | refine LeO.ite ?_ ?_
   | refine LeO.bind ?_ (fun _ => ?_)
set_option maxHeartbeats 8000000 in
set_option maxRecDepth 100000 in
theorem voussoirref02_From.calls (k : Nat) (a0 : Int) (r1 : Bool) (r2 : ByteArray) (w : World) (h : voussoirref02_From.f k a0 = some (r1, r2)) :
  Calls Tryd.prog 84 #[.int .i64 a0] w fun e w' => e = .returned (.agg #[.bool r1, .string r2]) ∧ Below w.heap.size w w' := by
 have hu36 := Tryd.underlying36
 have HB := Q.a (Below.refl w.heap.size w)
 have H : (if a0 < 0 then ((voussoirref01_Of.f k (IntKind.u64.wrap ((IntKind.u64.wrap (wrap64 (-(wrap64 (a0 + 1))))) + 1))).bind fun t574 => ((voussoirref02_of.f k true t574).bind fun bt575 => (some (bt575.1, bt575.2)))) else ((voussoirref01_Of.f k (IntKind.u64.wrap (a0))).bind fun t577 => ((voussoirref02_of.f k false t577).bind fun bt578 => (some (bt578.1, bt578.2))))) = some (r1, r2) := h
 clear h
 by_cases c2 : a0 < 0
 ·rw [if_pos c2] at H
  have c2b0 : decide (a0 < 0) = true := decide_eq_true c2
  clear c2
  replace H := Option.bind_eq_some_iff.mp H
  obtain ⟨t574, A30, H⟩ := H
  try dsimp only at H
  have A3 := Q.a A30
  clear A30
  replace H := Option.bind_eq_some_iff.mp H
  obtain ⟨⟨t575, t576⟩, A40, H⟩ := H
  try dsimp only at H
  have A4 := Q.a A40
  clear A40
  simp only [Option.some.injEq, Prod.mk.injEq] at H
  obtain ⟨rfl, rfl⟩ := H
  go_enter Tryd.func84, Tryd.ntmps84
  go_wp2_with (first | ((with_reducible refine gate_dst (N := 2) rfl ?_); refine Q.bx 2 #[.bool false, .string (⟨#[]⟩ : ByteArray)] 36 rfl rfl ?_; intro gb573 hg w5 hbox hb; replace BK573 := Q.a (hbox); replace GW573 := Q.a (Q.gs hg (below_size (Q.bw HB))); replace GE573 := GW573; replace HB := Q.a (below_step (Q.bw HB) hb); clear hb hbox hg) | ((with_reducible refine gate_callee (f := 62) rfl ?_); refine Q.gl 10 Tryd.func62 #[.int .u64 (IntKind.u64.wrap ((IntKind.u64.wrap (wrap64 (-(wrap64 (a0 + 1))))) + 1))] rfl rfl rfl rfl ?_; (with_reducible refine (voussoirref01_Of.calls k (IntKind.u64.wrap ((IntKind.u64.wrap (wrap64 (-(wrap64 (a0 + 1))))) + 1)) t574 _ A3.out).mono ?_); rintro e w6 ⟨rfl, hb⟩; refine ⟨_, rfl, ?_⟩; replace BK573 := Q.a (Q.bb BK573 hb); replace HB := Q.a (below_step (Q.bw1 HB GE573) hb); (try clear hb)) | ((with_reducible refine gate_callee (f := 83) rfl ?_); refine Q.gl 11 Tryd.func83 #[.bool true, .string t574] rfl rfl rfl rfl ?_; (with_reducible refine (voussoirref02_of.calls k true t574 t575 t576 _ A4.out).mono ?_); rintro e w7 ⟨rfl, hb⟩; refine ⟨_, rfl, ?_⟩; replace BK573 := Q.a (Q.bb BK573 hb); replace HB := Q.a (below_step (Q.bw1 HB GE573) hb); (try clear hb); have hcz8_0 : w7.cell? ⟨gb573, 0, none⟩ = some (.bool false) := (blk_cell BK573.out 0).trans rfl; have hcz8_1 : w7.cell? ⟨gb573, 1, none⟩ = some (.string (⟨#[]⟩ : ByteArray)) := (blk_cell BK573.out 1).trans rfl; have hfz8_0 := blk_frozen BK573.out 0; have hfz8_1 := blk_frozen BK573.out 1))
  refine bodyPost_ret (results_cell_row rfl _ _ gb573 36 #[.bool t575, .string t576] (0, 0) _ rfl (by (with_reducible repeat (first | refine blk_drewN ?_ _ | refine blk_drew ?_ | refine blk_alloc ?_ _)); refine blk_put (cs := #[.bool t575, .string (⟨#[]⟩ : ByteArray)]) ?_ 1 _ (by first | rfl | (cases a0.toList <;> rfl) | (cases a1.toList <;> rfl)); (with_reducible repeat (first | refine blk_drewN ?_ _ | refine blk_drew ?_ | refine blk_alloc ?_ _)); refine blk_put (cs := #[.bool false, .string (⟨#[]⟩ : ByteArray)]) ?_ 0 _ (by first | rfl | (cases a0.toList <;> rfl) | (cases a1.toList <;> rfl)); (with_reducible repeat (first | refine blk_drewN ?_ _ | refine blk_drew ?_ | refine blk_alloc ?_ _)); exact BK573.out) Tryd.underlying36 rfl (by kernel_rfl)) rfl ?_
  exact ⟨Q.en, Q.bw1 HB GE573⟩
 ·rw [if_neg c2] at H
  have c2b0 : decide (a0 < 0) = false := decide_eq_false c2
  clear c2
  replace H := Option.bind_eq_some_iff.mp H
  obtain ⟨t577, A90, H⟩ := H
  try dsimp only at H
  have A9 := Q.a A90
  clear A90
  replace H := Option.bind_eq_some_iff.mp H
  obtain ⟨⟨t578, t579⟩, A100, H⟩ := H
  try dsimp only at H
  have A10 := Q.a A100
  clear A100
  simp only [Option.some.injEq, Prod.mk.injEq] at H
  obtain ⟨rfl, rfl⟩ := H
  go_enter Tryd.func84, Tryd.ntmps84
  go_wp2_with (first | ((with_reducible refine gate_dst (N := 2) rfl ?_); refine Q.bx 2 #[.bool false, .string (⟨#[]⟩ : ByteArray)] 36 rfl rfl ?_; intro gb573 hg w11 hbox hb; replace BK573 := Q.a (hbox); replace GW573 := Q.a (Q.gs hg (below_size (Q.bw HB))); replace GE573 := GW573; replace HB := Q.a (below_step (Q.bw HB) hb); clear hb hbox hg) | ((with_reducible refine gate_callee (f := 62) rfl ?_); refine Q.gl 14 Tryd.func62 #[.int .u64 (IntKind.u64.wrap (a0))] rfl rfl rfl rfl ?_; (with_reducible refine (voussoirref01_Of.calls k (IntKind.u64.wrap (a0)) t577 _ A9.out).mono ?_); rintro e w12 ⟨rfl, hb⟩; refine ⟨_, rfl, ?_⟩; replace BK573 := Q.a (Q.bb BK573 hb); replace HB := Q.a (below_step (Q.bw1 HB GE573) hb); (try clear hb)) | ((with_reducible refine gate_callee (f := 83) rfl ?_); refine Q.gl 15 Tryd.func83 #[.bool false, .string t577] rfl rfl rfl rfl ?_; (with_reducible refine (voussoirref02_of.calls k false t577 t578 t579 _ A10.out).mono ?_); rintro e w13 ⟨rfl, hb⟩; refine ⟨_, rfl, ?_⟩; replace BK573 := Q.a (Q.bb BK573 hb); replace HB := Q.a (below_step (Q.bw1 HB GE573) hb); (try clear hb); have hcz14_0 : w13.cell? ⟨gb573, 0, none⟩ = some (.bool false) := (blk_cell BK573.out 0).trans rfl; have hcz14_1 : w13.cell? ⟨gb573, 1, none⟩ = some (.string (⟨#[]⟩ : ByteArray)) := (blk_cell BK573.out 1).trans rfl; have hfz14_0 := blk_frozen BK573.out 0; have hfz14_1 := blk_frozen BK573.out 1))
  refine bodyPost_ret (results_cell_row rfl _ _ gb573 36 #[.bool t578, .string t579] (0, 0) _ rfl (by (with_reducible repeat (first | refine blk_drewN ?_ _ | refine blk_drew ?_ | refine blk_alloc ?_ _)); refine blk_put (cs := #[.bool t578, .string (⟨#[]⟩ : ByteArray)]) ?_ 1 _ (by first | rfl | (cases a0.toList <;> rfl) | (cases a1.toList <;> rfl)); (with_reducible repeat (first | refine blk_drewN ?_ _ | refine blk_drew ?_ | refine blk_alloc ?_ _)); refine blk_put (cs := #[.bool false, .string (⟨#[]⟩ : ByteArray)]) ?_ 0 _ (by first | rfl | (cases a0.toList <;> rfl) | (cases a1.toList <;> rfl)); (with_reducible repeat (first | refine blk_drewN ?_ _ | refine blk_drew ?_ | refine blk_alloc ?_ _)); exact BK573.out) Tryd.underlying36 rfl (by kernel_rfl)) rfl ?_
  exact ⟨Q.en, Q.bw1 HB GE573⟩

/-! ### voussoirref02_Div: function 39 -/
def voussoirref02_Div.f (k : Nat) (a0_0 : Bool) (a0_1 : ByteArray) (a1_0 : Bool) (a1_1 : ByteArray) : Option (Bool × ByteArray × Bool × ByteArray × Bool) := (voussoirref01_Div.f k a0_1 a1_1).bind fun bt584 => (if bt584.2.2 = true then ((voussoirref02_of.f k a0_0 bt584.2.1).bind fun bt587 => ((voussoirref02_of.f k (a0_0 != a1_0) bt584.1).bind fun bt590 => ((voussoirref02_Sign.f k bt587.1 bt587.2).bind fun t593 => (if t593 < 0 then ((voussoirref02_of.f k false a1_1).bind fun bt594 => ((voussoirref02_Add.f k bt587.1 bt587.2 bt594.1 bt594.2).bind fun bt596 => ((voussoirref02_Sign.f k a1_0 a1_1).bind fun t598 => (if t598 > 0 then ((voussoirref02_From.f k 1).bind fun bt599 => ((voussoirref02_Sub.f k bt590.1 bt590.2 bt599.1 bt599.2).bind fun bt601 => (some (bt601.1, bt601.2, bt596.1, bt596.2, true)))) else ((voussoirref02_From.f k 1).bind fun bt603 => ((voussoirref02_Add.f k bt590.1 bt590.2 bt603.1 bt603.2).bind fun bt605 => (some (bt605.1, bt605.2, bt596.1, bt596.2, true)))))))) else (some (bt590.1, bt590.2, bt587.1, bt587.2, true)))))) else (some (false, (⟨#[]⟩ : ByteArray), false, (⟨#[]⟩ : ByteArray), false)))
theorem voussoirref02_Div.mono : ∀ a0 a1 a2 a3 k, LeO (voussoirref02_Div.f k a0 a1 a2 a3) (voussoirref02_Div.f (k + 1) a0 a1 a2 a3) := by
 intro a0 a1 a2 a3 k
 unfold voussoirref02_Div.f
 repeat' first
   | (with_reducible exact voussoirref01_Div.mono _ _ _)
   | (with_reducible exact voussoirref02_Add.mono _ _ _ _ _)
   | (with_reducible exact voussoirref02_From.mono _ _)
   | (with_reducible exact voussoirref02_Sign.mono _ _ _)
   | (with_reducible exact voussoirref02_Sub.mono _ _ _ _ _)
   | (with_reducible exact voussoirref02_of.mono _ _ _)
   | (with_reducible exact LeO.refl _)
   | (with_reducible exact LeO.none _)
   | (with_reducible refine LeO.ite ?_ ?_)
   | (with_reducible refine LeO.bind ?_ (fun _ => ?_))
   | exact voussoirref01_Div.mono _ _ _
   | exact voussoirref02_Add.mono _ _ _ _ _
   | exact voussoirref02_From.mono _ _
   | exact voussoirref02_Sign.mono _ _ _
   | exact voussoirref02_Sub.mono _ _ _ _ _
   | exact voussoirref02_of.mono _ _ _
   | exact LeO.none _
   | refine LeO.ite ?_ ?_
   | refine LeO.bind ?_ (fun _ => ?_)
set_option maxHeartbeats 8000000 in
set_option maxRecDepth 100000 in
theorem voussoirref02_Div.calls (k : Nat) (a0_0 : Bool) (a0_1 : ByteArray) (a1_0 : Bool) (a1_1 : ByteArray) (r1 : Bool) (r2 : ByteArray) (r3 : Bool) (r4 : ByteArray) (r5 : Bool) (w : World) (h : voussoirref02_Div.f k a0_0 a0_1 a1_0 a1_1 = some (r1, r2, r3, r4, r5)) :
  Calls Tryd.prog 39 #[.agg #[.bool a0_0, .string a0_1], .agg #[.bool a1_0, .string a1_1]] w fun e w' => e = .returned (.tuple #[.agg #[.bool r1, .string r2], .agg #[.bool r3, .string r4], .bool r5]) ∧ Below w.heap.size w w' := by
 have hu36 := Tryd.underlying36
 have HB := Q.a (Below.refl w.heap.size w)
 have H : ((voussoirref01_Div.f k a0_1 a1_1).bind fun bt584 => (if bt584.2.2 = true then ((voussoirref02_of.f k a0_0 bt584.2.1).bind fun bt587 => ((voussoirref02_of.f k (a0_0 != a1_0) bt584.1).bind fun bt590 => ((voussoirref02_Sign.f k bt587.1 bt587.2).bind fun t593 => (if t593 < 0 then ((voussoirref02_of.f k false a1_1).bind fun bt594 => ((voussoirref02_Add.f k bt587.1 bt587.2 bt594.1 bt594.2).bind fun bt596 => ((voussoirref02_Sign.f k a1_0 a1_1).bind fun t598 => (if t598 > 0 then ((voussoirref02_From.f k 1).bind fun bt599 => ((voussoirref02_Sub.f k bt590.1 bt590.2 bt599.1 bt599.2).bind fun bt601 => (some (bt601.1, bt601.2, bt596.1, bt596.2, true)))) else ((voussoirref02_From.f k 1).bind fun bt603 => ((voussoirref02_Add.f k bt590.1 bt590.2 bt603.1 bt603.2).bind fun bt605 => (some (bt605.1, bt605.2, bt596.1, bt596.2, true)))))))) else (some (bt590.1, bt590.2, bt587.1, bt587.2, true)))))) else (some (false, (⟨#[]⟩ : ByteArray), false, (⟨#[]⟩ : ByteArray), false)))) = some (r1, r2, r3, r4, r5) := h
 clear h
 replace H := Option.bind_eq_some_iff.mp H
 obtain ⟨⟨t584, t585, t586⟩, A30, H⟩ := H
 try dsimp only at H
 have A3 := Q.a A30
 clear A30
 by_cases c4 : t586 = true
 ·subst c4
  have H1 : ((voussoirref02_of.f k a0_0 t585).bind fun bt587 => ((voussoirref02_of.f k (a0_0 != a1_0) t584).bind fun bt590 => ((voussoirref02_Sign.f k bt587.1 bt587.2).bind fun t593 => (if t593 < 0 then ((voussoirref02_of.f k false a1_1).bind fun bt594 => ((voussoirref02_Add.f k bt587.1 bt587.2 bt594.1 bt594.2).bind fun bt596 => ((voussoirref02_Sign.f k a1_0 a1_1).bind fun t598 => (if t598 > 0 then ((voussoirref02_From.f k 1).bind fun bt599 => ((voussoirref02_Sub.f k bt590.1 bt590.2 bt599.1 bt599.2).bind fun bt601 => (some (bt601.1, bt601.2, bt596.1, bt596.2, true)))) else ((voussoirref02_From.f k 1).bind fun bt603 => ((voussoirref02_Add.f k bt590.1 bt590.2 bt603.1 bt603.2).bind fun bt605 => (some (bt605.1, bt605.2, bt596.1, bt596.2, true)))))))) else (some (bt590.1, bt590.2, bt587.1, bt587.2, true)))))) = some (r1, r2, r3, r4, r5) := by rw [if_pos rfl] at H; exact H
  clear H
  have H := H1
  clear H1
  replace H := Option.bind_eq_some_iff.mp H
  obtain ⟨⟨t587, t588⟩, A50, H⟩ := H
  try dsimp only at H
  have A5 := Q.a A50
  clear A50
  replace H := Option.bind_eq_some_iff.mp H
  obtain ⟨⟨t590, t591⟩, A60, H⟩ := H
  try dsimp only at H
  have A6 := Q.a A60
  clear A60
  replace H := Option.bind_eq_some_iff.mp H
  obtain ⟨t593, A70, H⟩ := H
  try dsimp only at H
  have A7 := Q.a A70
  clear A70
  by_cases c8 : t593 < 0
  ·rw [if_pos c8] at H
   have c8b0 : decide (t593 < 0) = true := decide_eq_true c8
   clear c8
   replace H := Option.bind_eq_some_iff.mp H
   obtain ⟨⟨t594, t595⟩, A90, H⟩ := H
   try dsimp only at H
   have A9 := Q.a A90
   clear A90
   replace H := Option.bind_eq_some_iff.mp H
   obtain ⟨⟨t596, t597⟩, A100, H⟩ := H
   try dsimp only at H
   have A10 := Q.a A100
   clear A100
   replace H := Option.bind_eq_some_iff.mp H
   obtain ⟨t598, A110, H⟩ := H
   try dsimp only at H
   have A11 := Q.a A110
   clear A110
   by_cases c12 : t598 > 0
   ·rw [if_pos c12] at H
    have c12b0 : decide (0 < t598) = true := decide_eq_true c12
    clear c12
    replace H := Option.bind_eq_some_iff.mp H
    obtain ⟨⟨t599, t600⟩, A130, H⟩ := H
    try dsimp only at H
    have A13 := Q.a A130
    clear A130
    replace H := Option.bind_eq_some_iff.mp H
    obtain ⟨⟨t601, t602⟩, A140, H⟩ := H
    try dsimp only at H
    have A14 := Q.a A140
    clear A140
    simp only [Option.some.injEq, Prod.mk.injEq] at H
    obtain ⟨rfl, rfl, rfl, rfl, rfl⟩ := H
    go_enter Tryd.func39, Tryd.ntmps39
    try go_wp2_with (first | ((with_reducible refine gate_dst (N := 2) rfl ?_); refine Q.bx 2 #[.bool a0_0, .string a0_1] 36 rfl rfl ?_; intro gb580 hg w15 hbox hb; replace BK580 := Q.a (hbox); replace GW580 := Q.a (Q.gs hg (below_size (Q.bw HB))); replace GE580 := GW580; replace HB := Q.a (below_step (Q.bw HB) hb); clear hb hbox hg) | ((with_reducible refine gate_dst (N := 3) rfl ?_); refine Q.bx 3 #[.bool a1_0, .string a1_1] 36 rfl rfl ?_; intro gb581 hg w16 hbox hb; replace BK581 := Q.a (hbox); replace GW581 := Q.a (Q.gs hg (below_size (Q.bw1 HB GE580))); replace GE581 := GW581; replace HB := Q.a (below_step (Q.bw1 HB GE580) hb); replace NB580_581 := Q.a (Q.nl hg BK580); replace NB581_580 := Q.a (Q.ng hg BK580); replace BK580 := Q.a (Q.bb BK580 hb); clear hb hbox hg) | ((with_reducible refine gate_dst (N := 4) rfl ?_); refine Q.bx 4 #[.bool false, .string (⟨#[]⟩ : ByteArray)] 36 rfl rfl ?_; intro gb582 hg w17 hbox hb; replace BK582 := Q.a (hbox); replace GW582 := Q.a (Q.gs hg (below_size (Q.bw2 HB GE580 GE581))); replace GE582 := GW582; replace HB := Q.a (below_step (Q.bw2 HB GE580 GE581) hb); replace NB580_582 := Q.a (Q.nl hg BK580); replace NB582_580 := Q.a (Q.ng hg BK580); replace BK580 := Q.a (Q.bb BK580 hb); replace NB581_582 := Q.a (Q.nl hg BK581); replace NB582_581 := Q.a (Q.ng hg BK581); replace BK581 := Q.a (Q.bb BK581 hb); clear hb hbox hg) | ((with_reducible refine gate_dst (N := 5) rfl ?_); refine Q.bx 5 #[.bool false, .string (⟨#[]⟩ : ByteArray)] 36 rfl rfl ?_; intro gb583 hg w18 hbox hb; replace BK583 := Q.a (hbox); replace GW583 := Q.a (Q.gs hg (below_size (Q.bw3 HB GE580 GE581 GE582))); replace GE583 := GW583; replace HB := Q.a (below_step (Q.bw3 HB GE580 GE581 GE582) hb); replace NB580_583 := Q.a (Q.nl hg BK580); replace NB583_580 := Q.a (Q.ng hg BK580); replace BK580 := Q.a (Q.bb BK580 hb); replace NB581_583 := Q.a (Q.nl hg BK581); replace NB583_581 := Q.a (Q.ng hg BK581); replace BK581 := Q.a (Q.bb BK581 hb); replace NB582_583 := Q.a (Q.nl hg BK582); replace NB583_582 := Q.a (Q.ng hg BK582); replace BK582 := Q.a (Q.bb BK582 hb); clear hb hbox hg; have hnb19 := NB580_581.out; have hnc19 := NB581_580.out; have hnb20 := NB580_582.out; have hnc20 := NB582_580.out; have hnb21 := NB580_583.out; have hnc21 := NB583_580.out; have hcz22_0 : w18.cell? ⟨gb580, 0, none⟩ = some (.bool a0_0) := (blk_cell BK580.out 0).trans rfl; have hcz22_1 : w18.cell? ⟨gb580, 1, none⟩ = some (.string a0_1) := (blk_cell BK580.out 1).trans rfl; have hfz22_0 := blk_frozen BK580.out 0; have hfz22_1 := blk_frozen BK580.out 1; have hnb23 := NB581_582.out; have hnc23 := NB582_581.out; have hnb24 := NB581_583.out; have hnc24 := NB583_581.out; have hcz25_0 : w18.cell? ⟨gb581, 0, none⟩ = some (.bool a1_0) := (blk_cell BK581.out 0).trans rfl; have hcz25_1 : w18.cell? ⟨gb581, 1, none⟩ = some (.string a1_1) := (blk_cell BK581.out 1).trans rfl; have hfz25_0 := blk_frozen BK581.out 0; have hfz25_1 := blk_frozen BK581.out 1) | ((with_reducible refine gate_callee (f := 23) rfl ?_); refine Q.gl 17 Tryd.func23 #[.string a0_1, .string a1_1] rfl rfl rfl rfl ?_; (with_reducible refine (voussoirref01_Div.calls k a0_1 a1_1 t584 t585 true _ A3.out).mono ?_); rintro e w26 ⟨rfl, hb⟩; refine ⟨_, rfl, ?_⟩; replace BK580 := Q.a (Q.bb BK580 hb); replace BK581 := Q.a (Q.bb BK581 hb); replace BK582 := Q.a (Q.bb BK582 hb); replace BK583 := Q.a (Q.bb BK583 hb); replace HB := Q.a (below_step (Q.bw4 HB GE580 GE581 GE582 GE583) hb); (try clear hb); have hcz27_0 : w26.cell? ⟨gb580, 0, none⟩ = some (.bool a0_0) := (blk_cell BK580.out 0).trans rfl; have hcz27_1 : w26.cell? ⟨gb580, 1, none⟩ = some (.string a0_1) := (blk_cell BK580.out 1).trans rfl; have hfz27_0 := blk_frozen BK580.out 0; have hfz27_1 := blk_frozen BK580.out 1) | ((with_reducible refine gate_callee (f := 83) rfl ?_); refine Q.gl 28 Tryd.func83 #[.bool a0_0, .string t585] rfl rfl rfl rfl ?_; (with_reducible refine (voussoirref02_of.calls k a0_0 t585 t587 t588 _ A5.out).mono ?_); rintro e w28 ⟨rfl, hb⟩; refine ⟨_, rfl, ?_⟩; replace BK580 := Q.a (Q.bb BK580 hb); replace BK581 := Q.a (Q.bb BK581 hb); replace BK582 := Q.a (Q.bb BK582 hb); replace BK583 := Q.a (Q.bb BK583 hb); replace HB := Q.a (below_step (Q.bw4 HB GE580 GE581 GE582 GE583) hb); (try clear hb)) | ((with_reducible refine gate_dst (N := 10) rfl ?_); refine Q.bx 10 #[.bool false, .string (⟨#[]⟩ : ByteArray)] 36 rfl rfl ?_; intro gb589 hg w29 hbox hb; replace BK589 := Q.a (hbox); replace GW589 := Q.a (Q.gs hg (below_size (Q.bw4 HB GE580 GE581 GE582 GE583))); replace GE589 := GW589; replace HB := Q.a (below_step (Q.bw4 HB GE580 GE581 GE582 GE583) hb); replace NB580_589 := Q.a (Q.nl hg BK580); replace NB589_580 := Q.a (Q.ng hg BK580); replace BK580 := Q.a (Q.bb BK580 hb); replace NB581_589 := Q.a (Q.nl hg BK581); replace NB589_581 := Q.a (Q.ng hg BK581); replace BK581 := Q.a (Q.bb BK581 hb); replace NB582_589 := Q.a (Q.nl hg BK582); replace NB589_582 := Q.a (Q.ng hg BK582); replace BK582 := Q.a (Q.bb BK582 hb); replace NB583_589 := Q.a (Q.nl hg BK583); replace NB589_583 := Q.a (Q.ng hg BK583); replace BK583 := Q.a (Q.bb BK583 hb); clear hb hbox hg; have hnb30 := NB589_580.out; have hnc30 := NB580_589.out; have hnb31 := NB589_581.out; have hnc31 := NB581_589.out; have hnb32 := NB589_582.out; have hnc32 := NB582_589.out; have hnb33 := NB589_583.out; have hnc33 := NB583_589.out; have hcz34_0 : w29.cell? ⟨gb589, 0, none⟩ = some (.bool false) := (blk_cell BK589.out 0).trans rfl; have hcz34_1 : w29.cell? ⟨gb589, 1, none⟩ = some (.string (⟨#[]⟩ : ByteArray)) := (blk_cell BK589.out 1).trans rfl; have hfz34_0 := blk_frozen BK589.out 0; have hfz34_1 := blk_frozen BK589.out 1; have hcz35_0 : w29.cell? ⟨gb580, 0, none⟩ = some (.bool a0_0) := (blk_cell BK580.out 0).trans rfl; have hcz35_1 : w29.cell? ⟨gb580, 1, none⟩ = some (.string a0_1) := (blk_cell BK580.out 1).trans rfl; have hfz35_0 := blk_frozen BK580.out 0; have hfz35_1 := blk_frozen BK580.out 1; have hcz36_0 : w29.cell? ⟨gb581, 0, none⟩ = some (.bool a1_0) := (blk_cell BK581.out 0).trans rfl; have hcz36_1 : w29.cell? ⟨gb581, 1, none⟩ = some (.string a1_1) := (blk_cell BK581.out 1).trans rfl; have hfz36_0 := blk_frozen BK581.out 0; have hfz36_1 := blk_frozen BK581.out 1) | ((with_reducible refine gate_callee (f := 83) rfl ?_); refine Q.gl 35 Tryd.func83 #[.bool (a0_0 != a1_0), .string t584] rfl rfl rfl rfl ?_; (with_reducible refine (voussoirref02_of.calls k (a0_0 != a1_0) t584 t590 t591 _ A6.out).mono ?_); rintro e w37 ⟨rfl, hb⟩; refine ⟨_, rfl, ?_⟩; replace BK580 := Q.a (Q.bf BK580 NB580_589 hb); replace BK581 := Q.a (Q.bf BK581 NB581_589 hb); replace BK582 := Q.a (Q.bf BK582 NB582_589 hb); replace BK583 := Q.a (Q.bf BK583 NB583_589 hb); replace BK589 := Q.a (blk_below (g := gb589) (o := .cells #[.bool t587, .string t588] 36 (0, 0)) (by (with_reducible repeat (first | refine blk_drewN ?_ _ | refine blk_drew ?_ | refine blk_alloc ?_ _)); refine blk_put (cs := #[.bool t587, .string (⟨#[]⟩ : ByteArray)]) ?_ 1 _ (by first | rfl | (cases a0.toList <;> rfl) | (cases a1.toList <;> rfl)); (with_reducible repeat (first | refine blk_drewN ?_ _ | refine blk_drew ?_ | refine blk_alloc ?_ _)); refine blk_put (cs := #[.bool false, .string (⟨#[]⟩ : ByteArray)]) ?_ 0 _ (by first | rfl | (cases a0.toList <;> rfl) | (cases a1.toList <;> rfl)); (with_reducible repeat (first | refine blk_drewN ?_ _ | refine blk_drew ?_ | refine blk_alloc ?_ _)); exact BK589.out) hb); replace HB := Q.a (below_step (Q.bw5 HB GE580 GE581 GE582 GE583 GE589) hb); (try clear hb)) | ((with_reducible refine gate_dst (N := 11) rfl ?_); refine Q.bx 11 #[.bool false, .string (⟨#[]⟩ : ByteArray)] 36 rfl rfl ?_; intro gb592 hg w38 hbox hb; replace BK592 := Q.a (hbox); replace GW592 := Q.a (Q.gs hg (below_size (Q.bw5 HB GE580 GE581 GE582 GE583 GE589))); replace GE592 := GW592; replace HB := Q.a (below_step (Q.bw5 HB GE580 GE581 GE582 GE583 GE589) hb); replace NB580_592 := Q.a (Q.nl hg BK580); replace NB592_580 := Q.a (Q.ng hg BK580); replace BK580 := Q.a (Q.bb BK580 hb); replace NB581_592 := Q.a (Q.nl hg BK581); replace NB592_581 := Q.a (Q.ng hg BK581); replace BK581 := Q.a (Q.bb BK581 hb); replace NB582_592 := Q.a (Q.nl hg BK582); replace NB592_582 := Q.a (Q.ng hg BK582); replace BK582 := Q.a (Q.bb BK582 hb); replace NB583_592 := Q.a (Q.nl hg BK583); replace NB592_583 := Q.a (Q.ng hg BK583); replace BK583 := Q.a (Q.bb BK583 hb); replace NB589_592 := Q.a (Q.nl hg BK589); replace NB592_589 := Q.a (Q.ng hg BK589); replace BK589 := Q.a (Q.bb BK589 hb); clear hb hbox hg; have hnb39 := NB592_580.out; have hnc39 := NB580_592.out; have hnb40 := NB592_581.out; have hnc40 := NB581_592.out; have hnb41 := NB592_582.out; have hnc41 := NB582_592.out; have hnb42 := NB592_583.out; have hnc42 := NB583_592.out; have hnb43 := NB592_589.out; have hnc43 := NB589_592.out; have hcz44_0 : w38.cell? ⟨gb592, 0, none⟩ = some (.bool false) := (blk_cell BK592.out 0).trans rfl; have hcz44_1 : w38.cell? ⟨gb592, 1, none⟩ = some (.string (⟨#[]⟩ : ByteArray)) := (blk_cell BK592.out 1).trans rfl; have hfz44_0 := blk_frozen BK592.out 0; have hfz44_1 := blk_frozen BK592.out 1; have hcz45_0 : w38.cell? ⟨gb589, 0, none⟩ = some (.bool t587) := (blk_cell BK589.out 0).trans rfl; have hcz45_1 : w38.cell? ⟨gb589, 1, none⟩ = some (.string t588) := (blk_cell BK589.out 1).trans rfl; have hfz45_0 := blk_frozen BK589.out 0; have hfz45_1 := blk_frozen BK589.out 1) | ((with_reducible refine gate_callee (f := 51) rfl ?_); refine Q.gl 37 Tryd.func51 #[.agg #[.bool t587, .string t588]] rfl rfl rfl rfl ?_; (with_reducible refine (voussoirref02_Sign.calls k t587 t588 t593 _ A7.out).mono ?_); rintro e w46 ⟨rfl, hb⟩; refine ⟨_, rfl, ?_⟩; replace BK580 := Q.a (Q.bf BK580 NB580_592 hb); replace BK581 := Q.a (Q.bf BK581 NB581_592 hb); replace BK582 := Q.a (Q.bf BK582 NB582_592 hb); replace BK583 := Q.a (Q.bf BK583 NB583_592 hb); replace BK589 := Q.a (Q.bf BK589 NB589_592 hb); replace BK592 := Q.a (blk_below (g := gb592) (o := .cells #[.bool t590, .string t591] 36 (0, 0)) (by (with_reducible repeat (first | refine blk_drewN ?_ _ | refine blk_drew ?_ | refine blk_alloc ?_ _)); refine blk_put (cs := #[.bool t590, .string (⟨#[]⟩ : ByteArray)]) ?_ 1 _ (by first | rfl | (cases a0.toList <;> rfl) | (cases a1.toList <;> rfl)); (with_reducible repeat (first | refine blk_drewN ?_ _ | refine blk_drew ?_ | refine blk_alloc ?_ _)); refine blk_put (cs := #[.bool false, .string (⟨#[]⟩ : ByteArray)]) ?_ 0 _ (by first | rfl | (cases a0.toList <;> rfl) | (cases a1.toList <;> rfl)); (with_reducible repeat (first | refine blk_drewN ?_ _ | refine blk_drew ?_ | refine blk_alloc ?_ _)); exact BK592.out) hb); replace HB := Q.a (below_step (Q.bw6 HB GE580 GE581 GE582 GE583 GE589 GE592) hb); (try clear hb)))
    replace BK580 := Q.a (blk_drew BK580.out)
    replace BK581 := Q.a (blk_drew BK581.out)
    replace BK582 := Q.a (blk_drew BK582.out)
    replace BK583 := Q.a (blk_drew BK583.out)
    replace BK589 := Q.a (blk_drew BK589.out)
    replace BK592 := Q.a (blk_drew BK592.out)
    replace HB := Q.a (below_drew1 HB.out)
    refine start_ (n := 6) (S := fun w' => w'.cell? ⟨gb589, 0, none⟩ = some (.bool t587) ∧ w'.cell? ⟨gb589, 1, none⟩ = some (.string t588) ∧ w'.cell? ⟨gb581, 0, none⟩ = some (.bool a1_0) ∧ w'.cell? ⟨gb581, 1, none⟩ = some (.string a1_1)) (ds := [5]) #[false, false, false, false, false, false] (by kernel_rfl) rfl rfl ⟨(blk_cell BK589.out 0).trans rfl, (blk_cell BK589.out 1).trans rfl, (blk_cell BK581.out 0).trans rfl, (blk_cell BK581.out 1).trans rfl⟩ (fun hHeld => ?_)
    generalize w46.drew = w47 at BK580 BK581 BK582 BK583 BK589 BK592 HB hHeld ⊢
    refine pure_ (i := 1) (N := some 40) (v := ?_) (a' := ?_) #[false, true, false, false, false, false] rfl rfl (by kernel_rfl) (fun _ _ _ h => h) (Or.inl ⟨by rfl, ?_⟩) ?_ ?_
    rotate_left
    ·intro w'
     go_simp
     with_reducible rfl
    rotate_left
    ·simp only [Act.put, List.setIfInBounds_toArray, List.set_cons_zero, List.set_cons_succ, i64_w, i32_w]
     rfl
    refine take_ (i := 0) (N := some 39) (v := ?_) (a' := ?_) #[true, true, false, false, false, false] rfl rfl (by kernel_rfl) (fun _ _ _ h => h) (Or.inl ⟨by rfl, ?_⟩) hHeld ?_ ?_
    rotate_left
    ·rintro w' ⟨s0, s1, s2, s3⟩
     go_simp
     with_reducible rfl
    rotate_left
    ·simp only [Act.put, List.setIfInBounds_toArray, List.set_cons_zero, List.set_cons_succ, i64_w, i32_w]
     rfl
    refine take_ (i := 2) (N := some 41) (v := ?_) (a' := ?_) #[true, true, true, false, false, false] rfl rfl (by kernel_rfl) (fun _ _ _ h => h) (Or.inl ⟨by rfl, ?_⟩) hHeld ?_ ?_
    rotate_left
    ·rintro w' ⟨s0, s1, s2, s3⟩
     go_simp
     with_reducible rfl
    rotate_left
    ·simp only [Act.put, List.setIfInBounds_toArray, List.set_cons_zero, List.set_cons_succ, i64_w, i32_w]
     rfl
    refine one_ (i := 3) (N := some 42) #[true, true, true, true, false, false] rfl rfl (by kernel_rfl) (by decide) (fun K hK => ?_)
    refine goes_ Tryd.func83 (by kernel_rfl) rfl #[.bool false, .string a1_1] (by rfl) rfl rfl (by (try simp only [List.map_toArray, List.map_cons, List.map_nil]); first | done | rfl | (simp only [List.length_drop, List.length_take]; rfl)) ?_
    with_reducible refine (voussoirref02_of.calls k false a1_1 t594 t595 _ A9.out).mono ?_
    rintro e w48 ⟨rfl, hb⟩
    refine ⟨_, rfl, ?_⟩
    replace BK580 := Q.a (Q.bb BK580 hb)
    replace BK581 := Q.a (Q.bb BK581 hb)
    replace BK582 := Q.a (Q.bb BK582 hb)
    replace BK583 := Q.a (Q.bb BK583 hb)
    replace BK589 := Q.a (Q.bb BK589 hb)
    replace BK592 := Q.a (Q.bb BK592 hb)
    replace HB := Q.a (below_step (Q.bw6 HB GE580 GE581 GE582 GE583 GE589 GE592) hb)
    (try clear hb)
    (try clear hb2)
    (try clear hk)
    (try clear hi)
    refine hK.out _ _ ⟨(blk_cell BK589.out 0).trans rfl, (blk_cell BK589.out 1).trans rfl, (blk_cell BK581.out 0).trans rfl, (blk_cell BK581.out 1).trans rfl⟩ (fun hHeld => ?_)
    clear hK K
    refine norm_ (a' := ?_) ?_ ?_
    rotate_left
    ·show Act.put _ (some 42) _ = _
     simp only [Act.put, List.setIfInBounds_toArray, List.set_cons_zero, List.set_cons_succ, i64_w, i32_w]
     rfl
    refine one_ (i := 4) (N := some 43) #[true, true, true, true, true, false] rfl rfl (by kernel_rfl) (by decide) (fun K hK => ?_)
    refine goes_ Tryd.func43 (by kernel_rfl) rfl #[.agg #[.bool t587, .string t588], .agg #[.bool t594, .string t595]] (by rfl) rfl rfl (by (try simp only [List.map_toArray, List.map_cons, List.map_nil]); first | done | rfl | (simp only [List.length_drop, List.length_take]; rfl)) ?_
    with_reducible refine (voussoirref02_Add.calls k t587 t588 t594 t595 t596 t597 _ A10.out).mono ?_
    rintro e w49 ⟨rfl, hb⟩
    refine ⟨_, rfl, ?_⟩
    replace BK580 := Q.a (Q.bb BK580 hb)
    replace BK581 := Q.a (Q.bb BK581 hb)
    replace BK582 := Q.a (Q.bb BK582 hb)
    replace BK583 := Q.a (Q.bb BK583 hb)
    replace BK589 := Q.a (Q.bb BK589 hb)
    replace BK592 := Q.a (Q.bb BK592 hb)
    replace HB := Q.a (below_step (Q.bw6 HB GE580 GE581 GE582 GE583 GE589 GE592) hb)
    (try clear hb)
    (try clear hb2)
    (try clear hk)
    (try clear hi)
    refine hK.out _ _ ⟨(blk_cell BK589.out 0).trans rfl, (blk_cell BK589.out 1).trans rfl, (blk_cell BK581.out 0).trans rfl, (blk_cell BK581.out 1).trans rfl⟩ (fun hHeld => ?_)
    clear hK K
    refine norm_ (a' := ?_) ?_ ?_
    rotate_left
    ·show Act.put _ (some 43) _ = _
     simp only [Act.put, List.setIfInBounds_toArray, List.set_cons_zero, List.set_cons_succ, i64_w, i32_w]
     rfl
    refine last_ (i := 5) (N := none) #[true, true, true, true, true, true] rfl rfl (by kernel_rfl) (by decide) (fun K hK => ?_)
    have hs50 : w49.cell? ⟨gb589, 0, none⟩ = some (.bool t587) := (blk_cell BK589.out 0).trans rfl
    have hfs50 := blk_frozen BK589.out 0
    have hns50_0 := NB580_589.out
    have hns50_1 := NB581_589.out
    have hns50_2 := NB582_589.out
    have hns50_3 := NB583_589.out
    have hns50_5 := NB592_589.out
    have hms50_0 := NB589_580.out
    have hms50_1 := NB589_581.out
    have hms50_2 := NB589_582.out
    have hms50_3 := NB589_583.out
    have hms50_5 := NB589_592.out
    have hs51 : w49.cell? ⟨gb589, 1, none⟩ = some (.string t588) := (blk_cell BK589.out 1).trans rfl
    have hfs51 := blk_frozen BK589.out 1
    have hns51_0 := NB580_589.out
    have hns51_1 := NB581_589.out
    have hns51_2 := NB582_589.out
    have hns51_3 := NB583_589.out
    have hns51_5 := NB592_589.out
    have hms51_0 := NB589_580.out
    have hms51_1 := NB589_581.out
    have hms51_2 := NB589_582.out
    have hms51_3 := NB589_583.out
    have hms51_5 := NB589_592.out
    refine skip_ (w1 := ?_) (by rfl) rfl ?_ ?_
    rotate_left
    ·go_simp
     rfl
    refine hK.out _ _ ?_
    clear hK K
    refine done_ (by kernel_rfl) ?_
    have hcz52_0 : w49.cell? ⟨gb581, 0, none⟩ = some (.bool a1_0) := (blk_cell BK581.out 0).trans rfl
    have hcz52_1 : w49.cell? ⟨gb581, 1, none⟩ = some (.string a1_1) := (blk_cell BK581.out 1).trans rfl
    have hfz52_0 := blk_frozen BK581.out 0
    have hfz52_1 := blk_frozen BK581.out 1
    try go_wp2_with (first | ((with_reducible refine gate_callee (f := 51) rfl ?_); refine Q.gl 45 Tryd.func51 #[.agg #[.bool a1_0, .string a1_1]] rfl rfl rfl rfl ?_; (with_reducible refine (voussoirref02_Sign.calls k a1_0 a1_1 t598 _ A11.out).mono ?_); rintro e w53 ⟨rfl, hb⟩; refine ⟨_, rfl, ?_⟩; replace BK580 := Q.a (Q.bf BK580 NB580_589 hb); replace BK581 := Q.a (Q.bf BK581 NB581_589 hb); replace BK582 := Q.a (Q.bf BK582 NB582_589 hb); replace BK583 := Q.a (Q.bf BK583 NB583_589 hb); replace BK589 := Q.a (blk_below (g := gb589) (o := .cells #[.bool t596, .string t597] 36 (0, 0)) (by (with_reducible repeat (first | refine blk_drewN ?_ _ | refine blk_drew ?_ | refine blk_alloc ?_ _)); refine blk_put (cs := #[.bool t596, .string t588]) ?_ 1 _ (by first | rfl | (cases a0.toList <;> rfl) | (cases a1.toList <;> rfl)); (with_reducible repeat (first | refine blk_drewN ?_ _ | refine blk_drew ?_ | refine blk_alloc ?_ _)); refine blk_put (cs := #[.bool t587, .string t588]) ?_ 0 _ (by first | rfl | (cases a0.toList <;> rfl) | (cases a1.toList <;> rfl)); (with_reducible repeat (first | refine blk_drewN ?_ _ | refine blk_drew ?_ | refine blk_alloc ?_ _)); exact BK589.out) hb); replace BK592 := Q.a (Q.bf BK592 NB592_589 hb); replace HB := Q.a (below_step (Q.bw6 HB GE580 GE581 GE582 GE583 GE589 GE592) hb); (try clear hb)))
    replace BK580 := Q.a (blk_drew BK580.out)
    replace BK581 := Q.a (blk_drew BK581.out)
    replace BK582 := Q.a (blk_drew BK582.out)
    replace BK583 := Q.a (blk_drew BK583.out)
    replace BK589 := Q.a (blk_drew BK589.out)
    replace BK592 := Q.a (blk_drew BK592.out)
    replace HB := Q.a (below_drew1 HB.out)
    refine start_ (n := 4) (S := fun w' => w'.cell? ⟨gb592, 0, none⟩ = some (.bool t590) ∧ w'.cell? ⟨gb592, 1, none⟩ = some (.string t591)) (ds := [3]) #[false, false, false, false] (by kernel_rfl) rfl rfl ⟨(blk_cell BK592.out 0).trans rfl, (blk_cell BK592.out 1).trans rfl⟩ (fun hHeld => ?_)
    generalize w53.drew = w54 at BK580 BK581 BK582 BK583 BK589 BK592 HB hHeld ⊢
    refine take_ (i := 0) (N := some 47) (v := ?_) (a' := ?_) #[true, false, false, false] rfl rfl (by kernel_rfl) (fun _ _ _ h => h) (Or.inl ⟨by rfl, ?_⟩) hHeld ?_ ?_
    rotate_left
    ·rintro w' ⟨s0, s1⟩
     go_simp
     with_reducible rfl
    rotate_left
    ·simp only [Act.put, List.setIfInBounds_toArray, List.set_cons_zero, List.set_cons_succ, i64_w, i32_w]
     rfl
    refine one_ (i := 1) (N := some 48) #[true, true, false, false] rfl rfl (by kernel_rfl) (by decide) (fun K hK => ?_)
    refine goes_ Tryd.func84 (by kernel_rfl) rfl #[.int .i64 1] (by rfl) rfl rfl (by (try simp only [List.map_toArray, List.map_cons, List.map_nil]); first | done | rfl | (simp only [List.length_drop, List.length_take]; rfl)) ?_
    with_reducible refine (voussoirref02_From.calls k 1 t599 t600 _ A13.out).mono ?_
    rintro e w55 ⟨rfl, hb⟩
    refine ⟨_, rfl, ?_⟩
    replace BK580 := Q.a (Q.bb BK580 hb)
    replace BK581 := Q.a (Q.bb BK581 hb)
    replace BK582 := Q.a (Q.bb BK582 hb)
    replace BK583 := Q.a (Q.bb BK583 hb)
    replace BK589 := Q.a (Q.bb BK589 hb)
    replace BK592 := Q.a (Q.bb BK592 hb)
    replace HB := Q.a (below_step (Q.bw6 HB GE580 GE581 GE582 GE583 GE589 GE592) hb)
    (try clear hb)
    (try clear hb2)
    (try clear hk)
    (try clear hi)
    refine hK.out _ _ ⟨(blk_cell BK592.out 0).trans rfl, (blk_cell BK592.out 1).trans rfl⟩ (fun hHeld => ?_)
    clear hK K
    refine norm_ (a' := ?_) ?_ ?_
    rotate_left
    ·show Act.put _ (some 48) _ = _
     simp only [Act.put, List.setIfInBounds_toArray, List.set_cons_zero, List.set_cons_succ, i64_w, i32_w]
     rfl
    refine one_ (i := 2) (N := some 49) #[true, true, true, false] rfl rfl (by kernel_rfl) (by decide) (fun K hK => ?_)
    refine goes_ Tryd.func45 (by kernel_rfl) rfl #[.agg #[.bool t590, .string t591], .agg #[.bool t599, .string t600]] (by rfl) rfl rfl (by (try simp only [List.map_toArray, List.map_cons, List.map_nil]); first | done | rfl | (simp only [List.length_drop, List.length_take]; rfl)) ?_
    with_reducible refine (voussoirref02_Sub.calls k t590 t591 t599 t600 t601 t602 _ A14.out).mono ?_
    rintro e w56 ⟨rfl, hb⟩
    refine ⟨_, rfl, ?_⟩
    replace BK580 := Q.a (Q.bb BK580 hb)
    replace BK581 := Q.a (Q.bb BK581 hb)
    replace BK582 := Q.a (Q.bb BK582 hb)
    replace BK583 := Q.a (Q.bb BK583 hb)
    replace BK589 := Q.a (Q.bb BK589 hb)
    replace BK592 := Q.a (Q.bb BK592 hb)
    replace HB := Q.a (below_step (Q.bw6 HB GE580 GE581 GE582 GE583 GE589 GE592) hb)
    (try clear hb)
    (try clear hb2)
    (try clear hk)
    (try clear hi)
    refine hK.out _ _ ⟨(blk_cell BK592.out 0).trans rfl, (blk_cell BK592.out 1).trans rfl⟩ (fun hHeld => ?_)
    clear hK K
    refine norm_ (a' := ?_) ?_ ?_
    rotate_left
    ·show Act.put _ (some 49) _ = _
     simp only [Act.put, List.setIfInBounds_toArray, List.set_cons_zero, List.set_cons_succ, i64_w, i32_w]
     rfl
    refine last_ (i := 3) (N := none) #[true, true, true, true] rfl rfl (by kernel_rfl) (by decide) (fun K hK => ?_)
    have hs57 : w56.cell? ⟨gb592, 0, none⟩ = some (.bool t590) := (blk_cell BK592.out 0).trans rfl
    have hfs57 := blk_frozen BK592.out 0
    have hns57_0 := NB580_592.out
    have hns57_1 := NB581_592.out
    have hns57_2 := NB582_592.out
    have hns57_3 := NB583_592.out
    have hns57_4 := NB589_592.out
    have hms57_0 := NB592_580.out
    have hms57_1 := NB592_581.out
    have hms57_2 := NB592_582.out
    have hms57_3 := NB592_583.out
    have hms57_4 := NB592_589.out
    have hs58 : w56.cell? ⟨gb592, 1, none⟩ = some (.string t591) := (blk_cell BK592.out 1).trans rfl
    have hfs58 := blk_frozen BK592.out 1
    have hns58_0 := NB580_592.out
    have hns58_1 := NB581_592.out
    have hns58_2 := NB582_592.out
    have hns58_3 := NB583_592.out
    have hns58_4 := NB589_592.out
    have hms58_0 := NB592_580.out
    have hms58_1 := NB592_581.out
    have hms58_2 := NB592_582.out
    have hms58_3 := NB592_583.out
    have hms58_4 := NB592_589.out
    refine skip_ (w1 := ?_) (by rfl) rfl ?_ ?_
    rotate_left
    ·go_simp
     rfl
    refine hK.out _ _ ?_
    clear hK K
    refine done_ (by kernel_rfl) ?_
    try go_wp2
    have n0_ : Aside0 (((w56.setCell ⟨gb592, 0, none⟩ (.bool t601)).setCell ⟨gb592, 1, none⟩ (.string t602)).heap[gb580]? = some (.cells #[.bool a0_0, .string a0_1] 36 (0, 0))) := ⟨Q.kf BK580 NB580_592⟩
    have n1_ : Aside0 (((w56.setCell ⟨gb592, 0, none⟩ (.bool t601)).setCell ⟨gb592, 1, none⟩ (.string t602)).heap[gb581]? = some (.cells #[.bool a1_0, .string a1_1] 36 (0, 0))) := ⟨Q.kf BK581 NB581_592⟩
    have n2_ : Aside0 (((w56.setCell ⟨gb592, 0, none⟩ (.bool t601)).setCell ⟨gb592, 1, none⟩ (.string t602)).heap[gb582]? = some (.cells #[.bool false, .string (⟨#[]⟩ : ByteArray)] 36 (0, 0))) := ⟨Q.kf BK582 NB582_592⟩
    have n3_ : Aside0 (((w56.setCell ⟨gb592, 0, none⟩ (.bool t601)).setCell ⟨gb592, 1, none⟩ (.string t602)).heap[gb583]? = some (.cells #[.bool false, .string (⟨#[]⟩ : ByteArray)] 36 (0, 0))) := ⟨Q.kf BK583 NB583_592⟩
    have n4_ : Aside0 (((w56.setCell ⟨gb592, 0, none⟩ (.bool t601)).setCell ⟨gb592, 1, none⟩ (.string t602)).heap[gb589]? = some (.cells #[.bool t596, .string t597] 36 (0, 0))) := ⟨Q.kf BK589 NB589_592⟩
    have n5_ : Aside0 (((w56.setCell ⟨gb592, 0, none⟩ (.bool t601)).setCell ⟨gb592, 1, none⟩ (.string t602)).heap[gb592]? = some (.cells #[.bool t601, .string t602] 36 (0, 0))) := ⟨by (with_reducible repeat (first | refine blk_drewN ?_ _ | refine blk_drew ?_ | refine blk_alloc ?_ _)); refine blk_put (cs := #[.bool t601, .string t591]) ?_ 1 _ (by first | rfl | (cases a0.toList <;> rfl) | (cases a1.toList <;> rfl)); (with_reducible repeat (first | refine blk_drewN ?_ _ | refine blk_drew ?_ | refine blk_alloc ?_ _)); refine blk_put (cs := #[.bool t590, .string t591]) ?_ 0 _ (by first | rfl | (cases a0.toList <;> rfl) | (cases a1.toList <;> rfl)); (with_reducible repeat (first | refine blk_drewN ?_ _ | refine blk_drew ?_ | refine blk_alloc ?_ _)); exact BK592.out⟩
    have n6_ : Aside0 (Below w.heap.size w ((w56.setCell ⟨gb592, 0, none⟩ (.bool t601)).setCell ⟨gb592, 1, none⟩ (.string t602))) := ⟨Q.bw6 HB GE580 GE581 GE582 GE583 GE589 GE592⟩
    (try clear BK580)
    (try clear BK581)
    (try clear BK582)
    (try clear BK583)
    (try clear BK589)
    (try clear BK592)
    (try clear HB)
    generalize ((w56.setCell ⟨gb592, 0, none⟩ (.bool t601)).setCell ⟨gb592, 1, none⟩ (.string t602)) = w59 at n0_ n1_ n2_ n3_ n4_ n5_ n6_ ⊢
    have BK580 := n0_
    have BK581 := n1_
    have BK582 := n2_
    have BK583 := n3_
    have BK589 := n4_
    have BK592 := n5_
    have HB := n6_
    clear n0_ n1_ n2_ n3_ n4_ n5_ n6_
    replace BK580 := Q.a (blk_drew BK580.out)
    replace BK581 := Q.a (blk_drew BK581.out)
    replace BK582 := Q.a (blk_drew BK582.out)
    replace BK583 := Q.a (blk_drew BK583.out)
    replace BK589 := Q.a (blk_drew BK589.out)
    replace BK592 := Q.a (blk_drew BK592.out)
    replace HB := Q.a (below_drew1 HB.out)
    refine start_ (n := 5) (S := fun w' => w'.cell? ⟨gb592, 0, none⟩ = some (.bool t601) ∧ w'.cell? ⟨gb592, 1, none⟩ = some (.string t602) ∧ w'.cell? ⟨gb589, 0, none⟩ = some (.bool t596) ∧ w'.cell? ⟨gb589, 1, none⟩ = some (.string t597)) (ds := []) #[false, false, false, false, false] (by kernel_rfl) rfl rfl ⟨(blk_cell BK592.out 0).trans rfl, (blk_cell BK592.out 1).trans rfl, (blk_cell BK589.out 0).trans rfl, (blk_cell BK589.out 1).trans rfl⟩ (fun hHeld => ?_)
    generalize w59.drew = w60 at BK580 BK581 BK582 BK583 BK589 BK592 HB hHeld ⊢
    refine take_ (i := 0) (N := some 53) (v := ?_) (a' := ?_) #[true, false, false, false, false] rfl rfl (by kernel_rfl) (fun _ _ _ h => h) (Or.inl ⟨by rfl, ?_⟩) hHeld ?_ ?_
    rotate_left
    ·rintro w' ⟨s0, s1, s2, s3⟩
     go_simp
     with_reducible rfl
    rotate_left
    ·simp only [Act.put, List.setIfInBounds_toArray, List.set_cons_zero, List.set_cons_succ, i64_w, i32_w]
     rfl
    refine take_ (i := 1) (N := some 54) (v := ?_) (a' := ?_) #[true, true, false, false, false] rfl rfl (by kernel_rfl) (fun _ _ _ h => h) (Or.inl ⟨by rfl, ?_⟩) hHeld ?_ ?_
    rotate_left
    ·rintro w' ⟨s0, s1, s2, s3⟩
     go_simp
     with_reducible rfl
    rotate_left
    ·simp only [Act.put, List.setIfInBounds_toArray, List.set_cons_zero, List.set_cons_succ, i64_w, i32_w]
     rfl
    refine one_ (i := 2) (N := none) #[true, true, true, false, false] rfl rfl (by kernel_rfl) (by decide) (fun K hK => ?_)
    have hs61 : w60.cell? ⟨gb582, 0, none⟩ = some (.bool false) := (blk_cell BK582.out 0).trans rfl
    have hfs61 := blk_frozen BK582.out 0
    have hns61_0 := NB580_582.out
    have hns61_1 := NB581_582.out
    have hns61_3 := NB583_582.out
    have hns61_4 := NB589_582.out
    have hns61_5 := NB592_582.out
    have hms61_0 := NB582_580.out
    have hms61_1 := NB582_581.out
    have hms61_3 := NB582_583.out
    have hms61_4 := NB582_589.out
    have hms61_5 := NB582_592.out
    have hs62 : w60.cell? ⟨gb582, 1, none⟩ = some (.string (⟨#[]⟩ : ByteArray)) := (blk_cell BK582.out 1).trans rfl
    have hfs62 := blk_frozen BK582.out 1
    have hns62_0 := NB580_582.out
    have hns62_1 := NB581_582.out
    have hns62_3 := NB583_582.out
    have hns62_4 := NB589_582.out
    have hns62_5 := NB592_582.out
    have hms62_0 := NB582_580.out
    have hms62_1 := NB582_581.out
    have hms62_3 := NB582_583.out
    have hms62_4 := NB582_589.out
    have hms62_5 := NB582_592.out
    refine skip_ (w1 := ?_) (by rfl) rfl ?_ ?_
    rotate_left
    ·go_simp
     rfl
    refine hK.out _ _ ⟨((cell_far (p := ⟨gb582, _, none⟩) NB592_582.out _).trans (((cell_far (p := ⟨gb582, _, none⟩) NB592_582.out _).trans (hHeld.1)))), ((cell_far (p := ⟨gb582, _, none⟩) NB592_582.out _).trans (((cell_far (p := ⟨gb582, _, none⟩) NB592_582.out _).trans (hHeld.2.1)))), ((cell_far (p := ⟨gb582, _, none⟩) NB589_582.out _).trans (((cell_far (p := ⟨gb582, _, none⟩) NB589_582.out _).trans (hHeld.2.2.1)))), ((cell_far (p := ⟨gb582, _, none⟩) NB589_582.out _).trans (((cell_far (p := ⟨gb582, _, none⟩) NB589_582.out _).trans (hHeld.2.2.2))))⟩ (fun hHeld => ?_)
    clear hK K
    refine one_ (i := 3) (N := none) #[true, true, true, true, false] rfl rfl (by kernel_rfl) (by decide) (fun K hK => ?_)
    have hs63 : w60.cell? ⟨gb583, 0, none⟩ = some (.bool false) := (blk_cell BK583.out 0).trans rfl
    have hfs63 := blk_frozen BK583.out 0
    have hns63_0 := NB580_583.out
    have hns63_1 := NB581_583.out
    have hns63_2 := NB582_583.out
    have hns63_4 := NB589_583.out
    have hns63_5 := NB592_583.out
    have hms63_0 := NB583_580.out
    have hms63_1 := NB583_581.out
    have hms63_2 := NB583_582.out
    have hms63_4 := NB583_589.out
    have hms63_5 := NB583_592.out
    have hs64 : w60.cell? ⟨gb583, 1, none⟩ = some (.string (⟨#[]⟩ : ByteArray)) := (blk_cell BK583.out 1).trans rfl
    have hfs64 := blk_frozen BK583.out 1
    have hns64_0 := NB580_583.out
    have hns64_1 := NB581_583.out
    have hns64_2 := NB582_583.out
    have hns64_4 := NB589_583.out
    have hns64_5 := NB592_583.out
    have hms64_0 := NB583_580.out
    have hms64_1 := NB583_581.out
    have hms64_2 := NB583_582.out
    have hms64_4 := NB583_589.out
    have hms64_5 := NB583_592.out
    refine skip_ (w1 := ?_) (by rfl) rfl ?_ ?_
    rotate_left
    ·go_simp
     rfl
    refine hK.out _ _ ⟨((cell_far (p := ⟨gb583, _, none⟩) NB592_583.out _).trans (((cell_far (p := ⟨gb583, _, none⟩) NB592_583.out _).trans (hHeld.1)))), ((cell_far (p := ⟨gb583, _, none⟩) NB592_583.out _).trans (((cell_far (p := ⟨gb583, _, none⟩) NB592_583.out _).trans (hHeld.2.1)))), ((cell_far (p := ⟨gb583, _, none⟩) NB589_583.out _).trans (((cell_far (p := ⟨gb583, _, none⟩) NB589_583.out _).trans (hHeld.2.2.1)))), ((cell_far (p := ⟨gb583, _, none⟩) NB589_583.out _).trans (((cell_far (p := ⟨gb583, _, none⟩) NB589_583.out _).trans (hHeld.2.2.2))))⟩ (fun hHeld => ?_)
    clear hK K
    refine pure_ (i := 4) (N := some 6) (v := ?_) (a' := ?_) #[true, true, true, true, true] rfl rfl (by kernel_rfl) (fun _ _ _ h => h) (Or.inl ⟨by rfl, ?_⟩) ?_ ?_
    rotate_left
    ·intro w'
     go_simp
     with_reducible rfl
    rotate_left
    ·simp only [Act.put, List.setIfInBounds_toArray, List.set_cons_zero, List.set_cons_succ, i64_w, i32_w]
     rfl
    refine done_ (by kernel_rfl) ?_
    try go_wp2
    refine bodyPost_ret (results_list (rs := [.cell 4 36, .cell 5 36, .tmp 6]) rfl (by simp) (.cell gb582 36 #[.bool t601, .string t602] (0, 0) _ rfl (by (with_reducible repeat (first | refine blk_drewN ?_ _ | refine blk_drew ?_ | refine blk_alloc ?_ _)); refine blk_far ?_ NB582_583.out _; (with_reducible repeat (first | refine blk_drewN ?_ _ | refine blk_drew ?_ | refine blk_alloc ?_ _)); refine blk_far ?_ NB582_583.out _; (with_reducible repeat (first | refine blk_drewN ?_ _ | refine blk_drew ?_ | refine blk_alloc ?_ _)); refine blk_put (cs := #[.bool t601, .string (⟨#[]⟩ : ByteArray)]) ?_ 1 _ (by first | rfl | (cases a0.toList <;> rfl) | (cases a1.toList <;> rfl)); (with_reducible repeat (first | refine blk_drewN ?_ _ | refine blk_drew ?_ | refine blk_alloc ?_ _)); refine blk_put (cs := #[.bool false, .string (⟨#[]⟩ : ByteArray)]) ?_ 0 _ (by first | rfl | (cases a0.toList <;> rfl) | (cases a1.toList <;> rfl)); (with_reducible repeat (first | refine blk_drewN ?_ _ | refine blk_drew ?_ | refine blk_alloc ?_ _)); exact BK582.out) Tryd.underlying36 rfl (by kernel_rfl) (.cell gb583 36 #[.bool t596, .string t597] (0, 0) _ rfl (by (with_reducible repeat (first | refine blk_drewN ?_ _ | refine blk_drew ?_ | refine blk_alloc ?_ _)); refine blk_put (cs := #[.bool t596, .string (⟨#[]⟩ : ByteArray)]) ?_ 1 _ (by first | rfl | (cases a0.toList <;> rfl) | (cases a1.toList <;> rfl)); (with_reducible repeat (first | refine blk_drewN ?_ _ | refine blk_drew ?_ | refine blk_alloc ?_ _)); refine blk_put (cs := #[.bool false, .string (⟨#[]⟩ : ByteArray)]) ?_ 0 _ (by first | rfl | (cases a0.toList <;> rfl) | (cases a1.toList <;> rfl)); (with_reducible repeat (first | refine blk_drewN ?_ _ | refine blk_drew ?_ | refine blk_alloc ?_ _)); refine blk_far ?_ NB583_582.out _; (with_reducible repeat (first | refine blk_drewN ?_ _ | refine blk_drew ?_ | refine blk_alloc ?_ _)); refine blk_far ?_ NB583_582.out _; (with_reducible repeat (first | refine blk_drewN ?_ _ | refine blk_drew ?_ | refine blk_alloc ?_ _)); exact BK583.out) Tryd.underlying36 rfl (by kernel_rfl) (.tmp .nil)))) rfl ?_
    exact ⟨Q.en, Q.bw6 HB GE580 GE581 GE582 GE583 GE589 GE592⟩
   ·rw [if_neg c12] at H
    have c12b0 : decide (0 < t598) = false := decide_eq_false c12
    clear c12
    replace H := Option.bind_eq_some_iff.mp H
    obtain ⟨⟨t603, t604⟩, A650, H⟩ := H
    try dsimp only at H
    have A65 := Q.a A650
    clear A650
    replace H := Option.bind_eq_some_iff.mp H
    obtain ⟨⟨t605, t606⟩, A660, H⟩ := H
    try dsimp only at H
    have A66 := Q.a A660
    clear A660
    simp only [Option.some.injEq, Prod.mk.injEq] at H
    obtain ⟨rfl, rfl, rfl, rfl, rfl⟩ := H
    go_enter Tryd.func39, Tryd.ntmps39
    try go_wp2_with (first | ((with_reducible refine gate_dst (N := 2) rfl ?_); refine Q.bx 2 #[.bool a0_0, .string a0_1] 36 rfl rfl ?_; intro gb580 hg w67 hbox hb; replace BK580 := Q.a (hbox); replace GW580 := Q.a (Q.gs hg (below_size (Q.bw HB))); replace GE580 := GW580; replace HB := Q.a (below_step (Q.bw HB) hb); clear hb hbox hg) | ((with_reducible refine gate_dst (N := 3) rfl ?_); refine Q.bx 3 #[.bool a1_0, .string a1_1] 36 rfl rfl ?_; intro gb581 hg w68 hbox hb; replace BK581 := Q.a (hbox); replace GW581 := Q.a (Q.gs hg (below_size (Q.bw1 HB GE580))); replace GE581 := GW581; replace HB := Q.a (below_step (Q.bw1 HB GE580) hb); replace NB580_581 := Q.a (Q.nl hg BK580); replace NB581_580 := Q.a (Q.ng hg BK580); replace BK580 := Q.a (Q.bb BK580 hb); clear hb hbox hg) | ((with_reducible refine gate_dst (N := 4) rfl ?_); refine Q.bx 4 #[.bool false, .string (⟨#[]⟩ : ByteArray)] 36 rfl rfl ?_; intro gb582 hg w69 hbox hb; replace BK582 := Q.a (hbox); replace GW582 := Q.a (Q.gs hg (below_size (Q.bw2 HB GE580 GE581))); replace GE582 := GW582; replace HB := Q.a (below_step (Q.bw2 HB GE580 GE581) hb); replace NB580_582 := Q.a (Q.nl hg BK580); replace NB582_580 := Q.a (Q.ng hg BK580); replace BK580 := Q.a (Q.bb BK580 hb); replace NB581_582 := Q.a (Q.nl hg BK581); replace NB582_581 := Q.a (Q.ng hg BK581); replace BK581 := Q.a (Q.bb BK581 hb); clear hb hbox hg) | ((with_reducible refine gate_dst (N := 5) rfl ?_); refine Q.bx 5 #[.bool false, .string (⟨#[]⟩ : ByteArray)] 36 rfl rfl ?_; intro gb583 hg w70 hbox hb; replace BK583 := Q.a (hbox); replace GW583 := Q.a (Q.gs hg (below_size (Q.bw3 HB GE580 GE581 GE582))); replace GE583 := GW583; replace HB := Q.a (below_step (Q.bw3 HB GE580 GE581 GE582) hb); replace NB580_583 := Q.a (Q.nl hg BK580); replace NB583_580 := Q.a (Q.ng hg BK580); replace BK580 := Q.a (Q.bb BK580 hb); replace NB581_583 := Q.a (Q.nl hg BK581); replace NB583_581 := Q.a (Q.ng hg BK581); replace BK581 := Q.a (Q.bb BK581 hb); replace NB582_583 := Q.a (Q.nl hg BK582); replace NB583_582 := Q.a (Q.ng hg BK582); replace BK582 := Q.a (Q.bb BK582 hb); clear hb hbox hg; have hnb71 := NB580_581.out; have hnc71 := NB581_580.out; have hnb72 := NB580_582.out; have hnc72 := NB582_580.out; have hnb73 := NB580_583.out; have hnc73 := NB583_580.out; have hcz74_0 : w70.cell? ⟨gb580, 0, none⟩ = some (.bool a0_0) := (blk_cell BK580.out 0).trans rfl; have hcz74_1 : w70.cell? ⟨gb580, 1, none⟩ = some (.string a0_1) := (blk_cell BK580.out 1).trans rfl; have hfz74_0 := blk_frozen BK580.out 0; have hfz74_1 := blk_frozen BK580.out 1; have hnb75 := NB581_582.out; have hnc75 := NB582_581.out; have hnb76 := NB581_583.out; have hnc76 := NB583_581.out; have hcz77_0 : w70.cell? ⟨gb581, 0, none⟩ = some (.bool a1_0) := (blk_cell BK581.out 0).trans rfl; have hcz77_1 : w70.cell? ⟨gb581, 1, none⟩ = some (.string a1_1) := (blk_cell BK581.out 1).trans rfl; have hfz77_0 := blk_frozen BK581.out 0; have hfz77_1 := blk_frozen BK581.out 1) | ((with_reducible refine gate_callee (f := 23) rfl ?_); refine Q.gl 17 Tryd.func23 #[.string a0_1, .string a1_1] rfl rfl rfl rfl ?_; (with_reducible refine (voussoirref01_Div.calls k a0_1 a1_1 t584 t585 true _ A3.out).mono ?_); rintro e w78 ⟨rfl, hb⟩; refine ⟨_, rfl, ?_⟩; replace BK580 := Q.a (Q.bb BK580 hb); replace BK581 := Q.a (Q.bb BK581 hb); replace BK582 := Q.a (Q.bb BK582 hb); replace BK583 := Q.a (Q.bb BK583 hb); replace HB := Q.a (below_step (Q.bw4 HB GE580 GE581 GE582 GE583) hb); (try clear hb); have hcz79_0 : w78.cell? ⟨gb580, 0, none⟩ = some (.bool a0_0) := (blk_cell BK580.out 0).trans rfl; have hcz79_1 : w78.cell? ⟨gb580, 1, none⟩ = some (.string a0_1) := (blk_cell BK580.out 1).trans rfl; have hfz79_0 := blk_frozen BK580.out 0; have hfz79_1 := blk_frozen BK580.out 1) | ((with_reducible refine gate_callee (f := 83) rfl ?_); refine Q.gl 28 Tryd.func83 #[.bool a0_0, .string t585] rfl rfl rfl rfl ?_; (with_reducible refine (voussoirref02_of.calls k a0_0 t585 t587 t588 _ A5.out).mono ?_); rintro e w80 ⟨rfl, hb⟩; refine ⟨_, rfl, ?_⟩; replace BK580 := Q.a (Q.bb BK580 hb); replace BK581 := Q.a (Q.bb BK581 hb); replace BK582 := Q.a (Q.bb BK582 hb); replace BK583 := Q.a (Q.bb BK583 hb); replace HB := Q.a (below_step (Q.bw4 HB GE580 GE581 GE582 GE583) hb); (try clear hb)) | ((with_reducible refine gate_dst (N := 10) rfl ?_); refine Q.bx 10 #[.bool false, .string (⟨#[]⟩ : ByteArray)] 36 rfl rfl ?_; intro gb589 hg w81 hbox hb; replace BK589 := Q.a (hbox); replace GW589 := Q.a (Q.gs hg (below_size (Q.bw4 HB GE580 GE581 GE582 GE583))); replace GE589 := GW589; replace HB := Q.a (below_step (Q.bw4 HB GE580 GE581 GE582 GE583) hb); replace NB580_589 := Q.a (Q.nl hg BK580); replace NB589_580 := Q.a (Q.ng hg BK580); replace BK580 := Q.a (Q.bb BK580 hb); replace NB581_589 := Q.a (Q.nl hg BK581); replace NB589_581 := Q.a (Q.ng hg BK581); replace BK581 := Q.a (Q.bb BK581 hb); replace NB582_589 := Q.a (Q.nl hg BK582); replace NB589_582 := Q.a (Q.ng hg BK582); replace BK582 := Q.a (Q.bb BK582 hb); replace NB583_589 := Q.a (Q.nl hg BK583); replace NB589_583 := Q.a (Q.ng hg BK583); replace BK583 := Q.a (Q.bb BK583 hb); clear hb hbox hg; have hnb82 := NB589_580.out; have hnc82 := NB580_589.out; have hnb83 := NB589_581.out; have hnc83 := NB581_589.out; have hnb84 := NB589_582.out; have hnc84 := NB582_589.out; have hnb85 := NB589_583.out; have hnc85 := NB583_589.out; have hcz86_0 : w81.cell? ⟨gb589, 0, none⟩ = some (.bool false) := (blk_cell BK589.out 0).trans rfl; have hcz86_1 : w81.cell? ⟨gb589, 1, none⟩ = some (.string (⟨#[]⟩ : ByteArray)) := (blk_cell BK589.out 1).trans rfl; have hfz86_0 := blk_frozen BK589.out 0; have hfz86_1 := blk_frozen BK589.out 1; have hcz87_0 : w81.cell? ⟨gb580, 0, none⟩ = some (.bool a0_0) := (blk_cell BK580.out 0).trans rfl; have hcz87_1 : w81.cell? ⟨gb580, 1, none⟩ = some (.string a0_1) := (blk_cell BK580.out 1).trans rfl; have hfz87_0 := blk_frozen BK580.out 0; have hfz87_1 := blk_frozen BK580.out 1; have hcz88_0 : w81.cell? ⟨gb581, 0, none⟩ = some (.bool a1_0) := (blk_cell BK581.out 0).trans rfl; have hcz88_1 : w81.cell? ⟨gb581, 1, none⟩ = some (.string a1_1) := (blk_cell BK581.out 1).trans rfl; have hfz88_0 := blk_frozen BK581.out 0; have hfz88_1 := blk_frozen BK581.out 1) | ((with_reducible refine gate_callee (f := 83) rfl ?_); refine Q.gl 35 Tryd.func83 #[.bool (a0_0 != a1_0), .string t584] rfl rfl rfl rfl ?_; (with_reducible refine (voussoirref02_of.calls k (a0_0 != a1_0) t584 t590 t591 _ A6.out).mono ?_); rintro e w89 ⟨rfl, hb⟩; refine ⟨_, rfl, ?_⟩; replace BK580 := Q.a (Q.bf BK580 NB580_589 hb); replace BK581 := Q.a (Q.bf BK581 NB581_589 hb); replace BK582 := Q.a (Q.bf BK582 NB582_589 hb); replace BK583 := Q.a (Q.bf BK583 NB583_589 hb); replace BK589 := Q.a (blk_below (g := gb589) (o := .cells #[.bool t587, .string t588] 36 (0, 0)) (by (with_reducible repeat (first | refine blk_drewN ?_ _ | refine blk_drew ?_ | refine blk_alloc ?_ _)); refine blk_put (cs := #[.bool t587, .string (⟨#[]⟩ : ByteArray)]) ?_ 1 _ (by first | rfl | (cases a0.toList <;> rfl) | (cases a1.toList <;> rfl)); (with_reducible repeat (first | refine blk_drewN ?_ _ | refine blk_drew ?_ | refine blk_alloc ?_ _)); refine blk_put (cs := #[.bool false, .string (⟨#[]⟩ : ByteArray)]) ?_ 0 _ (by first | rfl | (cases a0.toList <;> rfl) | (cases a1.toList <;> rfl)); (with_reducible repeat (first | refine blk_drewN ?_ _ | refine blk_drew ?_ | refine blk_alloc ?_ _)); exact BK589.out) hb); replace HB := Q.a (below_step (Q.bw5 HB GE580 GE581 GE582 GE583 GE589) hb); (try clear hb)) | ((with_reducible refine gate_dst (N := 11) rfl ?_); refine Q.bx 11 #[.bool false, .string (⟨#[]⟩ : ByteArray)] 36 rfl rfl ?_; intro gb592 hg w90 hbox hb; replace BK592 := Q.a (hbox); replace GW592 := Q.a (Q.gs hg (below_size (Q.bw5 HB GE580 GE581 GE582 GE583 GE589))); replace GE592 := GW592; replace HB := Q.a (below_step (Q.bw5 HB GE580 GE581 GE582 GE583 GE589) hb); replace NB580_592 := Q.a (Q.nl hg BK580); replace NB592_580 := Q.a (Q.ng hg BK580); replace BK580 := Q.a (Q.bb BK580 hb); replace NB581_592 := Q.a (Q.nl hg BK581); replace NB592_581 := Q.a (Q.ng hg BK581); replace BK581 := Q.a (Q.bb BK581 hb); replace NB582_592 := Q.a (Q.nl hg BK582); replace NB592_582 := Q.a (Q.ng hg BK582); replace BK582 := Q.a (Q.bb BK582 hb); replace NB583_592 := Q.a (Q.nl hg BK583); replace NB592_583 := Q.a (Q.ng hg BK583); replace BK583 := Q.a (Q.bb BK583 hb); replace NB589_592 := Q.a (Q.nl hg BK589); replace NB592_589 := Q.a (Q.ng hg BK589); replace BK589 := Q.a (Q.bb BK589 hb); clear hb hbox hg; have hnb91 := NB592_580.out; have hnc91 := NB580_592.out; have hnb92 := NB592_581.out; have hnc92 := NB581_592.out; have hnb93 := NB592_582.out; have hnc93 := NB582_592.out; have hnb94 := NB592_583.out; have hnc94 := NB583_592.out; have hnb95 := NB592_589.out; have hnc95 := NB589_592.out; have hcz96_0 : w90.cell? ⟨gb592, 0, none⟩ = some (.bool false) := (blk_cell BK592.out 0).trans rfl; have hcz96_1 : w90.cell? ⟨gb592, 1, none⟩ = some (.string (⟨#[]⟩ : ByteArray)) := (blk_cell BK592.out 1).trans rfl; have hfz96_0 := blk_frozen BK592.out 0; have hfz96_1 := blk_frozen BK592.out 1; have hcz97_0 : w90.cell? ⟨gb589, 0, none⟩ = some (.bool t587) := (blk_cell BK589.out 0).trans rfl; have hcz97_1 : w90.cell? ⟨gb589, 1, none⟩ = some (.string t588) := (blk_cell BK589.out 1).trans rfl; have hfz97_0 := blk_frozen BK589.out 0; have hfz97_1 := blk_frozen BK589.out 1) | ((with_reducible refine gate_callee (f := 51) rfl ?_); refine Q.gl 37 Tryd.func51 #[.agg #[.bool t587, .string t588]] rfl rfl rfl rfl ?_; (with_reducible refine (voussoirref02_Sign.calls k t587 t588 t593 _ A7.out).mono ?_); rintro e w98 ⟨rfl, hb⟩; refine ⟨_, rfl, ?_⟩; replace BK580 := Q.a (Q.bf BK580 NB580_592 hb); replace BK581 := Q.a (Q.bf BK581 NB581_592 hb); replace BK582 := Q.a (Q.bf BK582 NB582_592 hb); replace BK583 := Q.a (Q.bf BK583 NB583_592 hb); replace BK589 := Q.a (Q.bf BK589 NB589_592 hb); replace BK592 := Q.a (blk_below (g := gb592) (o := .cells #[.bool t590, .string t591] 36 (0, 0)) (by (with_reducible repeat (first | refine blk_drewN ?_ _ | refine blk_drew ?_ | refine blk_alloc ?_ _)); refine blk_put (cs := #[.bool t590, .string (⟨#[]⟩ : ByteArray)]) ?_ 1 _ (by first | rfl | (cases a0.toList <;> rfl) | (cases a1.toList <;> rfl)); (with_reducible repeat (first | refine blk_drewN ?_ _ | refine blk_drew ?_ | refine blk_alloc ?_ _)); refine blk_put (cs := #[.bool false, .string (⟨#[]⟩ : ByteArray)]) ?_ 0 _ (by first | rfl | (cases a0.toList <;> rfl) | (cases a1.toList <;> rfl)); (with_reducible repeat (first | refine blk_drewN ?_ _ | refine blk_drew ?_ | refine blk_alloc ?_ _)); exact BK592.out) hb); replace HB := Q.a (below_step (Q.bw6 HB GE580 GE581 GE582 GE583 GE589 GE592) hb); (try clear hb)))
    replace BK580 := Q.a (blk_drew BK580.out)
    replace BK581 := Q.a (blk_drew BK581.out)
    replace BK582 := Q.a (blk_drew BK582.out)
    replace BK583 := Q.a (blk_drew BK583.out)
    replace BK589 := Q.a (blk_drew BK589.out)
    replace BK592 := Q.a (blk_drew BK592.out)
    replace HB := Q.a (below_drew1 HB.out)
    refine start_ (n := 6) (S := fun w' => w'.cell? ⟨gb589, 0, none⟩ = some (.bool t587) ∧ w'.cell? ⟨gb589, 1, none⟩ = some (.string t588) ∧ w'.cell? ⟨gb581, 0, none⟩ = some (.bool a1_0) ∧ w'.cell? ⟨gb581, 1, none⟩ = some (.string a1_1)) (ds := [5]) #[false, false, false, false, false, false] (by kernel_rfl) rfl rfl ⟨(blk_cell BK589.out 0).trans rfl, (blk_cell BK589.out 1).trans rfl, (blk_cell BK581.out 0).trans rfl, (blk_cell BK581.out 1).trans rfl⟩ (fun hHeld => ?_)
    generalize w98.drew = w99 at BK580 BK581 BK582 BK583 BK589 BK592 HB hHeld ⊢
    refine pure_ (i := 1) (N := some 40) (v := ?_) (a' := ?_) #[false, true, false, false, false, false] rfl rfl (by kernel_rfl) (fun _ _ _ h => h) (Or.inl ⟨by rfl, ?_⟩) ?_ ?_
    rotate_left
    ·intro w'
     go_simp
     with_reducible rfl
    rotate_left
    ·simp only [Act.put, List.setIfInBounds_toArray, List.set_cons_zero, List.set_cons_succ, i64_w, i32_w]
     rfl
    refine take_ (i := 0) (N := some 39) (v := ?_) (a' := ?_) #[true, true, false, false, false, false] rfl rfl (by kernel_rfl) (fun _ _ _ h => h) (Or.inl ⟨by rfl, ?_⟩) hHeld ?_ ?_
    rotate_left
    ·rintro w' ⟨s0, s1, s2, s3⟩
     go_simp
     with_reducible rfl
    rotate_left
    ·simp only [Act.put, List.setIfInBounds_toArray, List.set_cons_zero, List.set_cons_succ, i64_w, i32_w]
     rfl
    refine take_ (i := 2) (N := some 41) (v := ?_) (a' := ?_) #[true, true, true, false, false, false] rfl rfl (by kernel_rfl) (fun _ _ _ h => h) (Or.inl ⟨by rfl, ?_⟩) hHeld ?_ ?_
    rotate_left
    ·rintro w' ⟨s0, s1, s2, s3⟩
     go_simp
     with_reducible rfl
    rotate_left
    ·simp only [Act.put, List.setIfInBounds_toArray, List.set_cons_zero, List.set_cons_succ, i64_w, i32_w]
     rfl
    refine one_ (i := 3) (N := some 42) #[true, true, true, true, false, false] rfl rfl (by kernel_rfl) (by decide) (fun K hK => ?_)
    refine goes_ Tryd.func83 (by kernel_rfl) rfl #[.bool false, .string a1_1] (by rfl) rfl rfl (by (try simp only [List.map_toArray, List.map_cons, List.map_nil]); first | done | rfl | (simp only [List.length_drop, List.length_take]; rfl)) ?_
    with_reducible refine (voussoirref02_of.calls k false a1_1 t594 t595 _ A9.out).mono ?_
    rintro e w100 ⟨rfl, hb⟩
    refine ⟨_, rfl, ?_⟩
    replace BK580 := Q.a (Q.bb BK580 hb)
    replace BK581 := Q.a (Q.bb BK581 hb)
    replace BK582 := Q.a (Q.bb BK582 hb)
    replace BK583 := Q.a (Q.bb BK583 hb)
    replace BK589 := Q.a (Q.bb BK589 hb)
    replace BK592 := Q.a (Q.bb BK592 hb)
    replace HB := Q.a (below_step (Q.bw6 HB GE580 GE581 GE582 GE583 GE589 GE592) hb)
    (try clear hb)
    (try clear hb2)
    (try clear hk)
    (try clear hi)
    refine hK.out _ _ ⟨(blk_cell BK589.out 0).trans rfl, (blk_cell BK589.out 1).trans rfl, (blk_cell BK581.out 0).trans rfl, (blk_cell BK581.out 1).trans rfl⟩ (fun hHeld => ?_)
    clear hK K
    refine norm_ (a' := ?_) ?_ ?_
    rotate_left
    ·show Act.put _ (some 42) _ = _
     simp only [Act.put, List.setIfInBounds_toArray, List.set_cons_zero, List.set_cons_succ, i64_w, i32_w]
     rfl
    refine one_ (i := 4) (N := some 43) #[true, true, true, true, true, false] rfl rfl (by kernel_rfl) (by decide) (fun K hK => ?_)
    refine goes_ Tryd.func43 (by kernel_rfl) rfl #[.agg #[.bool t587, .string t588], .agg #[.bool t594, .string t595]] (by rfl) rfl rfl (by (try simp only [List.map_toArray, List.map_cons, List.map_nil]); first | done | rfl | (simp only [List.length_drop, List.length_take]; rfl)) ?_
    with_reducible refine (voussoirref02_Add.calls k t587 t588 t594 t595 t596 t597 _ A10.out).mono ?_
    rintro e w101 ⟨rfl, hb⟩
    refine ⟨_, rfl, ?_⟩
    replace BK580 := Q.a (Q.bb BK580 hb)
    replace BK581 := Q.a (Q.bb BK581 hb)
    replace BK582 := Q.a (Q.bb BK582 hb)
    replace BK583 := Q.a (Q.bb BK583 hb)
    replace BK589 := Q.a (Q.bb BK589 hb)
    replace BK592 := Q.a (Q.bb BK592 hb)
    replace HB := Q.a (below_step (Q.bw6 HB GE580 GE581 GE582 GE583 GE589 GE592) hb)
    (try clear hb)
    (try clear hb2)
    (try clear hk)
    (try clear hi)
    refine hK.out _ _ ⟨(blk_cell BK589.out 0).trans rfl, (blk_cell BK589.out 1).trans rfl, (blk_cell BK581.out 0).trans rfl, (blk_cell BK581.out 1).trans rfl⟩ (fun hHeld => ?_)
    clear hK K
    refine norm_ (a' := ?_) ?_ ?_
    rotate_left
    ·show Act.put _ (some 43) _ = _
     simp only [Act.put, List.setIfInBounds_toArray, List.set_cons_zero, List.set_cons_succ, i64_w, i32_w]
     rfl
    refine last_ (i := 5) (N := none) #[true, true, true, true, true, true] rfl rfl (by kernel_rfl) (by decide) (fun K hK => ?_)
    have hs102 : w101.cell? ⟨gb589, 0, none⟩ = some (.bool t587) := (blk_cell BK589.out 0).trans rfl
    have hfs102 := blk_frozen BK589.out 0
    have hns102_0 := NB580_589.out
    have hns102_1 := NB581_589.out
    have hns102_2 := NB582_589.out
    have hns102_3 := NB583_589.out
    have hns102_5 := NB592_589.out
    have hms102_0 := NB589_580.out
    have hms102_1 := NB589_581.out
    have hms102_2 := NB589_582.out
    have hms102_3 := NB589_583.out
    have hms102_5 := NB589_592.out
    have hs103 : w101.cell? ⟨gb589, 1, none⟩ = some (.string t588) := (blk_cell BK589.out 1).trans rfl
    have hfs103 := blk_frozen BK589.out 1
    have hns103_0 := NB580_589.out
    have hns103_1 := NB581_589.out
    have hns103_2 := NB582_589.out
    have hns103_3 := NB583_589.out
    have hns103_5 := NB592_589.out
    have hms103_0 := NB589_580.out
    have hms103_1 := NB589_581.out
    have hms103_2 := NB589_582.out
    have hms103_3 := NB589_583.out
    have hms103_5 := NB589_592.out
    refine skip_ (w1 := ?_) (by rfl) rfl ?_ ?_
    rotate_left
    ·go_simp
     rfl
    refine hK.out _ _ ?_
    clear hK K
    refine done_ (by kernel_rfl) ?_
    have hcz104_0 : w101.cell? ⟨gb581, 0, none⟩ = some (.bool a1_0) := (blk_cell BK581.out 0).trans rfl
    have hcz104_1 : w101.cell? ⟨gb581, 1, none⟩ = some (.string a1_1) := (blk_cell BK581.out 1).trans rfl
    have hfz104_0 := blk_frozen BK581.out 0
    have hfz104_1 := blk_frozen BK581.out 1
    try go_wp2_with (first | ((with_reducible refine gate_callee (f := 51) rfl ?_); refine Q.gl 45 Tryd.func51 #[.agg #[.bool a1_0, .string a1_1]] rfl rfl rfl rfl ?_; (with_reducible refine (voussoirref02_Sign.calls k a1_0 a1_1 t598 _ A11.out).mono ?_); rintro e w105 ⟨rfl, hb⟩; refine ⟨_, rfl, ?_⟩; replace BK580 := Q.a (Q.bf BK580 NB580_589 hb); replace BK581 := Q.a (Q.bf BK581 NB581_589 hb); replace BK582 := Q.a (Q.bf BK582 NB582_589 hb); replace BK583 := Q.a (Q.bf BK583 NB583_589 hb); replace BK589 := Q.a (blk_below (g := gb589) (o := .cells #[.bool t596, .string t597] 36 (0, 0)) (by (with_reducible repeat (first | refine blk_drewN ?_ _ | refine blk_drew ?_ | refine blk_alloc ?_ _)); refine blk_put (cs := #[.bool t596, .string t588]) ?_ 1 _ (by first | rfl | (cases a0.toList <;> rfl) | (cases a1.toList <;> rfl)); (with_reducible repeat (first | refine blk_drewN ?_ _ | refine blk_drew ?_ | refine blk_alloc ?_ _)); refine blk_put (cs := #[.bool t587, .string t588]) ?_ 0 _ (by first | rfl | (cases a0.toList <;> rfl) | (cases a1.toList <;> rfl)); (with_reducible repeat (first | refine blk_drewN ?_ _ | refine blk_drew ?_ | refine blk_alloc ?_ _)); exact BK589.out) hb); replace BK592 := Q.a (Q.bf BK592 NB592_589 hb); replace HB := Q.a (below_step (Q.bw6 HB GE580 GE581 GE582 GE583 GE589 GE592) hb); (try clear hb)))
    replace BK580 := Q.a (blk_drew BK580.out)
    replace BK581 := Q.a (blk_drew BK581.out)
    replace BK582 := Q.a (blk_drew BK582.out)
    replace BK583 := Q.a (blk_drew BK583.out)
    replace BK589 := Q.a (blk_drew BK589.out)
    replace BK592 := Q.a (blk_drew BK592.out)
    replace HB := Q.a (below_drew1 HB.out)
    refine start_ (n := 4) (S := fun w' => w'.cell? ⟨gb592, 0, none⟩ = some (.bool t590) ∧ w'.cell? ⟨gb592, 1, none⟩ = some (.string t591)) (ds := [3]) #[false, false, false, false] (by kernel_rfl) rfl rfl ⟨(blk_cell BK592.out 0).trans rfl, (blk_cell BK592.out 1).trans rfl⟩ (fun hHeld => ?_)
    generalize w105.drew = w106 at BK580 BK581 BK582 BK583 BK589 BK592 HB hHeld ⊢
    refine take_ (i := 0) (N := some 50) (v := ?_) (a' := ?_) #[true, false, false, false] rfl rfl (by kernel_rfl) (fun _ _ _ h => h) (Or.inl ⟨by rfl, ?_⟩) hHeld ?_ ?_
    rotate_left
    ·rintro w' ⟨s0, s1⟩
     go_simp
     with_reducible rfl
    rotate_left
    ·simp only [Act.put, List.setIfInBounds_toArray, List.set_cons_zero, List.set_cons_succ, i64_w, i32_w]
     rfl
    refine one_ (i := 1) (N := some 51) #[true, true, false, false] rfl rfl (by kernel_rfl) (by decide) (fun K hK => ?_)
    refine goes_ Tryd.func84 (by kernel_rfl) rfl #[.int .i64 1] (by rfl) rfl rfl (by (try simp only [List.map_toArray, List.map_cons, List.map_nil]); first | done | rfl | (simp only [List.length_drop, List.length_take]; rfl)) ?_
    with_reducible refine (voussoirref02_From.calls k 1 t603 t604 _ A65.out).mono ?_
    rintro e w107 ⟨rfl, hb⟩
    refine ⟨_, rfl, ?_⟩
    replace BK580 := Q.a (Q.bb BK580 hb)
    replace BK581 := Q.a (Q.bb BK581 hb)
    replace BK582 := Q.a (Q.bb BK582 hb)
    replace BK583 := Q.a (Q.bb BK583 hb)
    replace BK589 := Q.a (Q.bb BK589 hb)
    replace BK592 := Q.a (Q.bb BK592 hb)
    replace HB := Q.a (below_step (Q.bw6 HB GE580 GE581 GE582 GE583 GE589 GE592) hb)
    (try clear hb)
    (try clear hb2)
    (try clear hk)
    (try clear hi)
    refine hK.out _ _ ⟨(blk_cell BK592.out 0).trans rfl, (blk_cell BK592.out 1).trans rfl⟩ (fun hHeld => ?_)
    clear hK K
    refine norm_ (a' := ?_) ?_ ?_
    rotate_left
    ·show Act.put _ (some 51) _ = _
     simp only [Act.put, List.setIfInBounds_toArray, List.set_cons_zero, List.set_cons_succ, i64_w, i32_w]
     rfl
    refine one_ (i := 2) (N := some 52) #[true, true, true, false] rfl rfl (by kernel_rfl) (by decide) (fun K hK => ?_)
    refine goes_ Tryd.func43 (by kernel_rfl) rfl #[.agg #[.bool t590, .string t591], .agg #[.bool t603, .string t604]] (by rfl) rfl rfl (by (try simp only [List.map_toArray, List.map_cons, List.map_nil]); first | done | rfl | (simp only [List.length_drop, List.length_take]; rfl)) ?_
    with_reducible refine (voussoirref02_Add.calls k t590 t591 t603 t604 t605 t606 _ A66.out).mono ?_
    rintro e w108 ⟨rfl, hb⟩
    refine ⟨_, rfl, ?_⟩
    replace BK580 := Q.a (Q.bb BK580 hb)
    replace BK581 := Q.a (Q.bb BK581 hb)
    replace BK582 := Q.a (Q.bb BK582 hb)
    replace BK583 := Q.a (Q.bb BK583 hb)
    replace BK589 := Q.a (Q.bb BK589 hb)
    replace BK592 := Q.a (Q.bb BK592 hb)
    replace HB := Q.a (below_step (Q.bw6 HB GE580 GE581 GE582 GE583 GE589 GE592) hb)
    (try clear hb)
    (try clear hb2)
    (try clear hk)
    (try clear hi)
    refine hK.out _ _ ⟨(blk_cell BK592.out 0).trans rfl, (blk_cell BK592.out 1).trans rfl⟩ (fun hHeld => ?_)
    clear hK K
    refine norm_ (a' := ?_) ?_ ?_
    rotate_left
    ·show Act.put _ (some 52) _ = _
     simp only [Act.put, List.setIfInBounds_toArray, List.set_cons_zero, List.set_cons_succ, i64_w, i32_w]
     rfl
    refine last_ (i := 3) (N := none) #[true, true, true, true] rfl rfl (by kernel_rfl) (by decide) (fun K hK => ?_)
    have hs109 : w108.cell? ⟨gb592, 0, none⟩ = some (.bool t590) := (blk_cell BK592.out 0).trans rfl
    have hfs109 := blk_frozen BK592.out 0
    have hns109_0 := NB580_592.out
    have hns109_1 := NB581_592.out
    have hns109_2 := NB582_592.out
    have hns109_3 := NB583_592.out
    have hns109_4 := NB589_592.out
    have hms109_0 := NB592_580.out
    have hms109_1 := NB592_581.out
    have hms109_2 := NB592_582.out
    have hms109_3 := NB592_583.out
    have hms109_4 := NB592_589.out
    have hs110 : w108.cell? ⟨gb592, 1, none⟩ = some (.string t591) := (blk_cell BK592.out 1).trans rfl
    have hfs110 := blk_frozen BK592.out 1
    have hns110_0 := NB580_592.out
    have hns110_1 := NB581_592.out
    have hns110_2 := NB582_592.out
    have hns110_3 := NB583_592.out
    have hns110_4 := NB589_592.out
    have hms110_0 := NB592_580.out
    have hms110_1 := NB592_581.out
    have hms110_2 := NB592_582.out
    have hms110_3 := NB592_583.out
    have hms110_4 := NB592_589.out
    refine skip_ (w1 := ?_) (by rfl) rfl ?_ ?_
    rotate_left
    ·go_simp
     rfl
    refine hK.out _ _ ?_
    clear hK K
    refine done_ (by kernel_rfl) ?_
    try go_wp2
    have n0_ : Aside0 (((w108.setCell ⟨gb592, 0, none⟩ (.bool t605)).setCell ⟨gb592, 1, none⟩ (.string t606)).heap[gb580]? = some (.cells #[.bool a0_0, .string a0_1] 36 (0, 0))) := ⟨Q.kf BK580 NB580_592⟩
    have n1_ : Aside0 (((w108.setCell ⟨gb592, 0, none⟩ (.bool t605)).setCell ⟨gb592, 1, none⟩ (.string t606)).heap[gb581]? = some (.cells #[.bool a1_0, .string a1_1] 36 (0, 0))) := ⟨Q.kf BK581 NB581_592⟩
    have n2_ : Aside0 (((w108.setCell ⟨gb592, 0, none⟩ (.bool t605)).setCell ⟨gb592, 1, none⟩ (.string t606)).heap[gb582]? = some (.cells #[.bool false, .string (⟨#[]⟩ : ByteArray)] 36 (0, 0))) := ⟨Q.kf BK582 NB582_592⟩
    have n3_ : Aside0 (((w108.setCell ⟨gb592, 0, none⟩ (.bool t605)).setCell ⟨gb592, 1, none⟩ (.string t606)).heap[gb583]? = some (.cells #[.bool false, .string (⟨#[]⟩ : ByteArray)] 36 (0, 0))) := ⟨Q.kf BK583 NB583_592⟩
    have n4_ : Aside0 (((w108.setCell ⟨gb592, 0, none⟩ (.bool t605)).setCell ⟨gb592, 1, none⟩ (.string t606)).heap[gb589]? = some (.cells #[.bool t596, .string t597] 36 (0, 0))) := ⟨Q.kf BK589 NB589_592⟩
    have n5_ : Aside0 (((w108.setCell ⟨gb592, 0, none⟩ (.bool t605)).setCell ⟨gb592, 1, none⟩ (.string t606)).heap[gb592]? = some (.cells #[.bool t605, .string t606] 36 (0, 0))) := ⟨by (with_reducible repeat (first | refine blk_drewN ?_ _ | refine blk_drew ?_ | refine blk_alloc ?_ _)); refine blk_put (cs := #[.bool t605, .string t591]) ?_ 1 _ (by first | rfl | (cases a0.toList <;> rfl) | (cases a1.toList <;> rfl)); (with_reducible repeat (first | refine blk_drewN ?_ _ | refine blk_drew ?_ | refine blk_alloc ?_ _)); refine blk_put (cs := #[.bool t590, .string t591]) ?_ 0 _ (by first | rfl | (cases a0.toList <;> rfl) | (cases a1.toList <;> rfl)); (with_reducible repeat (first | refine blk_drewN ?_ _ | refine blk_drew ?_ | refine blk_alloc ?_ _)); exact BK592.out⟩
    have n6_ : Aside0 (Below w.heap.size w ((w108.setCell ⟨gb592, 0, none⟩ (.bool t605)).setCell ⟨gb592, 1, none⟩ (.string t606))) := ⟨Q.bw6 HB GE580 GE581 GE582 GE583 GE589 GE592⟩
    (try clear BK580)
    (try clear BK581)
    (try clear BK582)
    (try clear BK583)
    (try clear BK589)
    (try clear BK592)
    (try clear HB)
    generalize ((w108.setCell ⟨gb592, 0, none⟩ (.bool t605)).setCell ⟨gb592, 1, none⟩ (.string t606)) = w111 at n0_ n1_ n2_ n3_ n4_ n5_ n6_ ⊢
    have BK580 := n0_
    have BK581 := n1_
    have BK582 := n2_
    have BK583 := n3_
    have BK589 := n4_
    have BK592 := n5_
    have HB := n6_
    clear n0_ n1_ n2_ n3_ n4_ n5_ n6_
    replace BK580 := Q.a (blk_drew BK580.out)
    replace BK581 := Q.a (blk_drew BK581.out)
    replace BK582 := Q.a (blk_drew BK582.out)
    replace BK583 := Q.a (blk_drew BK583.out)
    replace BK589 := Q.a (blk_drew BK589.out)
    replace BK592 := Q.a (blk_drew BK592.out)
    replace HB := Q.a (below_drew1 HB.out)
    refine start_ (n := 5) (S := fun w' => w'.cell? ⟨gb592, 0, none⟩ = some (.bool t605) ∧ w'.cell? ⟨gb592, 1, none⟩ = some (.string t606) ∧ w'.cell? ⟨gb589, 0, none⟩ = some (.bool t596) ∧ w'.cell? ⟨gb589, 1, none⟩ = some (.string t597)) (ds := []) #[false, false, false, false, false] (by kernel_rfl) rfl rfl ⟨(blk_cell BK592.out 0).trans rfl, (blk_cell BK592.out 1).trans rfl, (blk_cell BK589.out 0).trans rfl, (blk_cell BK589.out 1).trans rfl⟩ (fun hHeld => ?_)
    generalize w111.drew = w112 at BK580 BK581 BK582 BK583 BK589 BK592 HB hHeld ⊢
    refine take_ (i := 0) (N := some 53) (v := ?_) (a' := ?_) #[true, false, false, false, false] rfl rfl (by kernel_rfl) (fun _ _ _ h => h) (Or.inl ⟨by rfl, ?_⟩) hHeld ?_ ?_
    rotate_left
    ·rintro w' ⟨s0, s1, s2, s3⟩
     go_simp
     with_reducible rfl
    rotate_left
    ·simp only [Act.put, List.setIfInBounds_toArray, List.set_cons_zero, List.set_cons_succ, i64_w, i32_w]
     rfl
    refine take_ (i := 1) (N := some 54) (v := ?_) (a' := ?_) #[true, true, false, false, false] rfl rfl (by kernel_rfl) (fun _ _ _ h => h) (Or.inl ⟨by rfl, ?_⟩) hHeld ?_ ?_
    rotate_left
    ·rintro w' ⟨s0, s1, s2, s3⟩
     go_simp
     with_reducible rfl
    rotate_left
    ·simp only [Act.put, List.setIfInBounds_toArray, List.set_cons_zero, List.set_cons_succ, i64_w, i32_w]
     rfl
    refine one_ (i := 2) (N := none) #[true, true, true, false, false] rfl rfl (by kernel_rfl) (by decide) (fun K hK => ?_)
    have hs113 : w112.cell? ⟨gb582, 0, none⟩ = some (.bool false) := (blk_cell BK582.out 0).trans rfl
    have hfs113 := blk_frozen BK582.out 0
    have hns113_0 := NB580_582.out
    have hns113_1 := NB581_582.out
    have hns113_3 := NB583_582.out
    have hns113_4 := NB589_582.out
    have hns113_5 := NB592_582.out
    have hms113_0 := NB582_580.out
    have hms113_1 := NB582_581.out
    have hms113_3 := NB582_583.out
    have hms113_4 := NB582_589.out
    have hms113_5 := NB582_592.out
    have hs114 : w112.cell? ⟨gb582, 1, none⟩ = some (.string (⟨#[]⟩ : ByteArray)) := (blk_cell BK582.out 1).trans rfl
    have hfs114 := blk_frozen BK582.out 1
    have hns114_0 := NB580_582.out
    have hns114_1 := NB581_582.out
    have hns114_3 := NB583_582.out
    have hns114_4 := NB589_582.out
    have hns114_5 := NB592_582.out
    have hms114_0 := NB582_580.out
    have hms114_1 := NB582_581.out
    have hms114_3 := NB582_583.out
    have hms114_4 := NB582_589.out
    have hms114_5 := NB582_592.out
    refine skip_ (w1 := ?_) (by rfl) rfl ?_ ?_
    rotate_left
    ·go_simp
     rfl
    refine hK.out _ _ ⟨((cell_far (p := ⟨gb582, _, none⟩) NB592_582.out _).trans (((cell_far (p := ⟨gb582, _, none⟩) NB592_582.out _).trans (hHeld.1)))), ((cell_far (p := ⟨gb582, _, none⟩) NB592_582.out _).trans (((cell_far (p := ⟨gb582, _, none⟩) NB592_582.out _).trans (hHeld.2.1)))), ((cell_far (p := ⟨gb582, _, none⟩) NB589_582.out _).trans (((cell_far (p := ⟨gb582, _, none⟩) NB589_582.out _).trans (hHeld.2.2.1)))), ((cell_far (p := ⟨gb582, _, none⟩) NB589_582.out _).trans (((cell_far (p := ⟨gb582, _, none⟩) NB589_582.out _).trans (hHeld.2.2.2))))⟩ (fun hHeld => ?_)
    clear hK K
    refine one_ (i := 3) (N := none) #[true, true, true, true, false] rfl rfl (by kernel_rfl) (by decide) (fun K hK => ?_)
    have hs115 : w112.cell? ⟨gb583, 0, none⟩ = some (.bool false) := (blk_cell BK583.out 0).trans rfl
    have hfs115 := blk_frozen BK583.out 0
    have hns115_0 := NB580_583.out
    have hns115_1 := NB581_583.out
    have hns115_2 := NB582_583.out
    have hns115_4 := NB589_583.out
    have hns115_5 := NB592_583.out
    have hms115_0 := NB583_580.out
    have hms115_1 := NB583_581.out
    have hms115_2 := NB583_582.out
    have hms115_4 := NB583_589.out
    have hms115_5 := NB583_592.out
    have hs116 : w112.cell? ⟨gb583, 1, none⟩ = some (.string (⟨#[]⟩ : ByteArray)) := (blk_cell BK583.out 1).trans rfl
    have hfs116 := blk_frozen BK583.out 1
    have hns116_0 := NB580_583.out
    have hns116_1 := NB581_583.out
    have hns116_2 := NB582_583.out
    have hns116_4 := NB589_583.out
    have hns116_5 := NB592_583.out
    have hms116_0 := NB583_580.out
    have hms116_1 := NB583_581.out
    have hms116_2 := NB583_582.out
    have hms116_4 := NB583_589.out
    have hms116_5 := NB583_592.out
    refine skip_ (w1 := ?_) (by rfl) rfl ?_ ?_
    rotate_left
    ·go_simp
     rfl
    refine hK.out _ _ ⟨((cell_far (p := ⟨gb583, _, none⟩) NB592_583.out _).trans (((cell_far (p := ⟨gb583, _, none⟩) NB592_583.out _).trans (hHeld.1)))), ((cell_far (p := ⟨gb583, _, none⟩) NB592_583.out _).trans (((cell_far (p := ⟨gb583, _, none⟩) NB592_583.out _).trans (hHeld.2.1)))), ((cell_far (p := ⟨gb583, _, none⟩) NB589_583.out _).trans (((cell_far (p := ⟨gb583, _, none⟩) NB589_583.out _).trans (hHeld.2.2.1)))), ((cell_far (p := ⟨gb583, _, none⟩) NB589_583.out _).trans (((cell_far (p := ⟨gb583, _, none⟩) NB589_583.out _).trans (hHeld.2.2.2))))⟩ (fun hHeld => ?_)
    clear hK K
    refine pure_ (i := 4) (N := some 6) (v := ?_) (a' := ?_) #[true, true, true, true, true] rfl rfl (by kernel_rfl) (fun _ _ _ h => h) (Or.inl ⟨by rfl, ?_⟩) ?_ ?_
    rotate_left
    ·intro w'
     go_simp
     with_reducible rfl
    rotate_left
    ·simp only [Act.put, List.setIfInBounds_toArray, List.set_cons_zero, List.set_cons_succ, i64_w, i32_w]
     rfl
    refine done_ (by kernel_rfl) ?_
    try go_wp2
    refine bodyPost_ret (results_list (rs := [.cell 4 36, .cell 5 36, .tmp 6]) rfl (by simp) (.cell gb582 36 #[.bool t605, .string t606] (0, 0) _ rfl (by (with_reducible repeat (first | refine blk_drewN ?_ _ | refine blk_drew ?_ | refine blk_alloc ?_ _)); refine blk_far ?_ NB582_583.out _; (with_reducible repeat (first | refine blk_drewN ?_ _ | refine blk_drew ?_ | refine blk_alloc ?_ _)); refine blk_far ?_ NB582_583.out _; (with_reducible repeat (first | refine blk_drewN ?_ _ | refine blk_drew ?_ | refine blk_alloc ?_ _)); refine blk_put (cs := #[.bool t605, .string (⟨#[]⟩ : ByteArray)]) ?_ 1 _ (by first | rfl | (cases a0.toList <;> rfl) | (cases a1.toList <;> rfl)); (with_reducible repeat (first | refine blk_drewN ?_ _ | refine blk_drew ?_ | refine blk_alloc ?_ _)); refine blk_put (cs := #[.bool false, .string (⟨#[]⟩ : ByteArray)]) ?_ 0 _ (by first | rfl | (cases a0.toList <;> rfl) | (cases a1.toList <;> rfl)); (with_reducible repeat (first | refine blk_drewN ?_ _ | refine blk_drew ?_ | refine blk_alloc ?_ _)); exact BK582.out) Tryd.underlying36 rfl (by kernel_rfl) (.cell gb583 36 #[.bool t596, .string t597] (0, 0) _ rfl (by (with_reducible repeat (first | refine blk_drewN ?_ _ | refine blk_drew ?_ | refine blk_alloc ?_ _)); refine blk_put (cs := #[.bool t596, .string (⟨#[]⟩ : ByteArray)]) ?_ 1 _ (by first | rfl | (cases a0.toList <;> rfl) | (cases a1.toList <;> rfl)); (with_reducible repeat (first | refine blk_drewN ?_ _ | refine blk_drew ?_ | refine blk_alloc ?_ _)); refine blk_put (cs := #[.bool false, .string (⟨#[]⟩ : ByteArray)]) ?_ 0 _ (by first | rfl | (cases a0.toList <;> rfl) | (cases a1.toList <;> rfl)); (with_reducible repeat (first | refine blk_drewN ?_ _ | refine blk_drew ?_ | refine blk_alloc ?_ _)); refine blk_far ?_ NB583_582.out _; (with_reducible repeat (first | refine blk_drewN ?_ _ | refine blk_drew ?_ | refine blk_alloc ?_ _)); refine blk_far ?_ NB583_582.out _; (with_reducible repeat (first | refine blk_drewN ?_ _ | refine blk_drew ?_ | refine blk_alloc ?_ _)); exact BK583.out) Tryd.underlying36 rfl (by kernel_rfl) (.tmp .nil)))) rfl ?_
    exact ⟨Q.en, Q.bw6 HB GE580 GE581 GE582 GE583 GE589 GE592⟩
  ·rw [if_neg c8] at H
   have c8b0 : decide (t593 < 0) = false := decide_eq_false c8
   clear c8
   simp only [Option.some.injEq, Prod.mk.injEq] at H
   obtain ⟨rfl, rfl, rfl, rfl, rfl⟩ := H
   go_enter Tryd.func39, Tryd.ntmps39
   try go_wp2_with (first | ((with_reducible refine gate_dst (N := 2) rfl ?_); refine Q.bx 2 #[.bool a0_0, .string a0_1] 36 rfl rfl ?_; intro gb580 hg w117 hbox hb; replace BK580 := Q.a (hbox); replace GW580 := Q.a (Q.gs hg (below_size (Q.bw HB))); replace GE580 := GW580; replace HB := Q.a (below_step (Q.bw HB) hb); clear hb hbox hg) | ((with_reducible refine gate_dst (N := 3) rfl ?_); refine Q.bx 3 #[.bool a1_0, .string a1_1] 36 rfl rfl ?_; intro gb581 hg w118 hbox hb; replace BK581 := Q.a (hbox); replace GW581 := Q.a (Q.gs hg (below_size (Q.bw1 HB GE580))); replace GE581 := GW581; replace HB := Q.a (below_step (Q.bw1 HB GE580) hb); replace NB580_581 := Q.a (Q.nl hg BK580); replace NB581_580 := Q.a (Q.ng hg BK580); replace BK580 := Q.a (Q.bb BK580 hb); clear hb hbox hg) | ((with_reducible refine gate_dst (N := 4) rfl ?_); refine Q.bx 4 #[.bool false, .string (⟨#[]⟩ : ByteArray)] 36 rfl rfl ?_; intro gb582 hg w119 hbox hb; replace BK582 := Q.a (hbox); replace GW582 := Q.a (Q.gs hg (below_size (Q.bw2 HB GE580 GE581))); replace GE582 := GW582; replace HB := Q.a (below_step (Q.bw2 HB GE580 GE581) hb); replace NB580_582 := Q.a (Q.nl hg BK580); replace NB582_580 := Q.a (Q.ng hg BK580); replace BK580 := Q.a (Q.bb BK580 hb); replace NB581_582 := Q.a (Q.nl hg BK581); replace NB582_581 := Q.a (Q.ng hg BK581); replace BK581 := Q.a (Q.bb BK581 hb); clear hb hbox hg) | ((with_reducible refine gate_dst (N := 5) rfl ?_); refine Q.bx 5 #[.bool false, .string (⟨#[]⟩ : ByteArray)] 36 rfl rfl ?_; intro gb583 hg w120 hbox hb; replace BK583 := Q.a (hbox); replace GW583 := Q.a (Q.gs hg (below_size (Q.bw3 HB GE580 GE581 GE582))); replace GE583 := GW583; replace HB := Q.a (below_step (Q.bw3 HB GE580 GE581 GE582) hb); replace NB580_583 := Q.a (Q.nl hg BK580); replace NB583_580 := Q.a (Q.ng hg BK580); replace BK580 := Q.a (Q.bb BK580 hb); replace NB581_583 := Q.a (Q.nl hg BK581); replace NB583_581 := Q.a (Q.ng hg BK581); replace BK581 := Q.a (Q.bb BK581 hb); replace NB582_583 := Q.a (Q.nl hg BK582); replace NB583_582 := Q.a (Q.ng hg BK582); replace BK582 := Q.a (Q.bb BK582 hb); clear hb hbox hg; have hnb121 := NB580_581.out; have hnc121 := NB581_580.out; have hnb122 := NB580_582.out; have hnc122 := NB582_580.out; have hnb123 := NB580_583.out; have hnc123 := NB583_580.out; have hcz124_0 : w120.cell? ⟨gb580, 0, none⟩ = some (.bool a0_0) := (blk_cell BK580.out 0).trans rfl; have hcz124_1 : w120.cell? ⟨gb580, 1, none⟩ = some (.string a0_1) := (blk_cell BK580.out 1).trans rfl; have hfz124_0 := blk_frozen BK580.out 0; have hfz124_1 := blk_frozen BK580.out 1; have hnb125 := NB581_582.out; have hnc125 := NB582_581.out; have hnb126 := NB581_583.out; have hnc126 := NB583_581.out; have hcz127_0 : w120.cell? ⟨gb581, 0, none⟩ = some (.bool a1_0) := (blk_cell BK581.out 0).trans rfl; have hcz127_1 : w120.cell? ⟨gb581, 1, none⟩ = some (.string a1_1) := (blk_cell BK581.out 1).trans rfl; have hfz127_0 := blk_frozen BK581.out 0; have hfz127_1 := blk_frozen BK581.out 1) | ((with_reducible refine gate_callee (f := 23) rfl ?_); refine Q.gl 17 Tryd.func23 #[.string a0_1, .string a1_1] rfl rfl rfl rfl ?_; (with_reducible refine (voussoirref01_Div.calls k a0_1 a1_1 t584 t585 true _ A3.out).mono ?_); rintro e w128 ⟨rfl, hb⟩; refine ⟨_, rfl, ?_⟩; replace BK580 := Q.a (Q.bb BK580 hb); replace BK581 := Q.a (Q.bb BK581 hb); replace BK582 := Q.a (Q.bb BK582 hb); replace BK583 := Q.a (Q.bb BK583 hb); replace HB := Q.a (below_step (Q.bw4 HB GE580 GE581 GE582 GE583) hb); (try clear hb); have hcz129_0 : w128.cell? ⟨gb580, 0, none⟩ = some (.bool a0_0) := (blk_cell BK580.out 0).trans rfl; have hcz129_1 : w128.cell? ⟨gb580, 1, none⟩ = some (.string a0_1) := (blk_cell BK580.out 1).trans rfl; have hfz129_0 := blk_frozen BK580.out 0; have hfz129_1 := blk_frozen BK580.out 1) | ((with_reducible refine gate_callee (f := 83) rfl ?_); refine Q.gl 28 Tryd.func83 #[.bool a0_0, .string t585] rfl rfl rfl rfl ?_; (with_reducible refine (voussoirref02_of.calls k a0_0 t585 t587 t588 _ A5.out).mono ?_); rintro e w130 ⟨rfl, hb⟩; refine ⟨_, rfl, ?_⟩; replace BK580 := Q.a (Q.bb BK580 hb); replace BK581 := Q.a (Q.bb BK581 hb); replace BK582 := Q.a (Q.bb BK582 hb); replace BK583 := Q.a (Q.bb BK583 hb); replace HB := Q.a (below_step (Q.bw4 HB GE580 GE581 GE582 GE583) hb); (try clear hb)) | ((with_reducible refine gate_dst (N := 10) rfl ?_); refine Q.bx 10 #[.bool false, .string (⟨#[]⟩ : ByteArray)] 36 rfl rfl ?_; intro gb589 hg w131 hbox hb; replace BK589 := Q.a (hbox); replace GW589 := Q.a (Q.gs hg (below_size (Q.bw4 HB GE580 GE581 GE582 GE583))); replace GE589 := GW589; replace HB := Q.a (below_step (Q.bw4 HB GE580 GE581 GE582 GE583) hb); replace NB580_589 := Q.a (Q.nl hg BK580); replace NB589_580 := Q.a (Q.ng hg BK580); replace BK580 := Q.a (Q.bb BK580 hb); replace NB581_589 := Q.a (Q.nl hg BK581); replace NB589_581 := Q.a (Q.ng hg BK581); replace BK581 := Q.a (Q.bb BK581 hb); replace NB582_589 := Q.a (Q.nl hg BK582); replace NB589_582 := Q.a (Q.ng hg BK582); replace BK582 := Q.a (Q.bb BK582 hb); replace NB583_589 := Q.a (Q.nl hg BK583); replace NB589_583 := Q.a (Q.ng hg BK583); replace BK583 := Q.a (Q.bb BK583 hb); clear hb hbox hg; have hnb132 := NB589_580.out; have hnc132 := NB580_589.out; have hnb133 := NB589_581.out; have hnc133 := NB581_589.out; have hnb134 := NB589_582.out; have hnc134 := NB582_589.out; have hnb135 := NB589_583.out; have hnc135 := NB583_589.out; have hcz136_0 : w131.cell? ⟨gb589, 0, none⟩ = some (.bool false) := (blk_cell BK589.out 0).trans rfl; have hcz136_1 : w131.cell? ⟨gb589, 1, none⟩ = some (.string (⟨#[]⟩ : ByteArray)) := (blk_cell BK589.out 1).trans rfl; have hfz136_0 := blk_frozen BK589.out 0; have hfz136_1 := blk_frozen BK589.out 1; have hcz137_0 : w131.cell? ⟨gb580, 0, none⟩ = some (.bool a0_0) := (blk_cell BK580.out 0).trans rfl; have hcz137_1 : w131.cell? ⟨gb580, 1, none⟩ = some (.string a0_1) := (blk_cell BK580.out 1).trans rfl; have hfz137_0 := blk_frozen BK580.out 0; have hfz137_1 := blk_frozen BK580.out 1; have hcz138_0 : w131.cell? ⟨gb581, 0, none⟩ = some (.bool a1_0) := (blk_cell BK581.out 0).trans rfl; have hcz138_1 : w131.cell? ⟨gb581, 1, none⟩ = some (.string a1_1) := (blk_cell BK581.out 1).trans rfl; have hfz138_0 := blk_frozen BK581.out 0; have hfz138_1 := blk_frozen BK581.out 1) | ((with_reducible refine gate_callee (f := 83) rfl ?_); refine Q.gl 35 Tryd.func83 #[.bool (a0_0 != a1_0), .string t584] rfl rfl rfl rfl ?_; (with_reducible refine (voussoirref02_of.calls k (a0_0 != a1_0) t584 t590 t591 _ A6.out).mono ?_); rintro e w139 ⟨rfl, hb⟩; refine ⟨_, rfl, ?_⟩; replace BK580 := Q.a (Q.bf BK580 NB580_589 hb); replace BK581 := Q.a (Q.bf BK581 NB581_589 hb); replace BK582 := Q.a (Q.bf BK582 NB582_589 hb); replace BK583 := Q.a (Q.bf BK583 NB583_589 hb); replace BK589 := Q.a (blk_below (g := gb589) (o := .cells #[.bool t587, .string t588] 36 (0, 0)) (by (with_reducible repeat (first | refine blk_drewN ?_ _ | refine blk_drew ?_ | refine blk_alloc ?_ _)); refine blk_put (cs := #[.bool t587, .string (⟨#[]⟩ : ByteArray)]) ?_ 1 _ (by first | rfl | (cases a0.toList <;> rfl) | (cases a1.toList <;> rfl)); (with_reducible repeat (first | refine blk_drewN ?_ _ | refine blk_drew ?_ | refine blk_alloc ?_ _)); refine blk_put (cs := #[.bool false, .string (⟨#[]⟩ : ByteArray)]) ?_ 0 _ (by first | rfl | (cases a0.toList <;> rfl) | (cases a1.toList <;> rfl)); (with_reducible repeat (first | refine blk_drewN ?_ _ | refine blk_drew ?_ | refine blk_alloc ?_ _)); exact BK589.out) hb); replace HB := Q.a (below_step (Q.bw5 HB GE580 GE581 GE582 GE583 GE589) hb); (try clear hb)) | ((with_reducible refine gate_dst (N := 11) rfl ?_); refine Q.bx 11 #[.bool false, .string (⟨#[]⟩ : ByteArray)] 36 rfl rfl ?_; intro gb592 hg w140 hbox hb; replace BK592 := Q.a (hbox); replace GW592 := Q.a (Q.gs hg (below_size (Q.bw5 HB GE580 GE581 GE582 GE583 GE589))); replace GE592 := GW592; replace HB := Q.a (below_step (Q.bw5 HB GE580 GE581 GE582 GE583 GE589) hb); replace NB580_592 := Q.a (Q.nl hg BK580); replace NB592_580 := Q.a (Q.ng hg BK580); replace BK580 := Q.a (Q.bb BK580 hb); replace NB581_592 := Q.a (Q.nl hg BK581); replace NB592_581 := Q.a (Q.ng hg BK581); replace BK581 := Q.a (Q.bb BK581 hb); replace NB582_592 := Q.a (Q.nl hg BK582); replace NB592_582 := Q.a (Q.ng hg BK582); replace BK582 := Q.a (Q.bb BK582 hb); replace NB583_592 := Q.a (Q.nl hg BK583); replace NB592_583 := Q.a (Q.ng hg BK583); replace BK583 := Q.a (Q.bb BK583 hb); replace NB589_592 := Q.a (Q.nl hg BK589); replace NB592_589 := Q.a (Q.ng hg BK589); replace BK589 := Q.a (Q.bb BK589 hb); clear hb hbox hg; have hnb141 := NB592_580.out; have hnc141 := NB580_592.out; have hnb142 := NB592_581.out; have hnc142 := NB581_592.out; have hnb143 := NB592_582.out; have hnc143 := NB582_592.out; have hnb144 := NB592_583.out; have hnc144 := NB583_592.out; have hnb145 := NB592_589.out; have hnc145 := NB589_592.out; have hcz146_0 : w140.cell? ⟨gb592, 0, none⟩ = some (.bool false) := (blk_cell BK592.out 0).trans rfl; have hcz146_1 : w140.cell? ⟨gb592, 1, none⟩ = some (.string (⟨#[]⟩ : ByteArray)) := (blk_cell BK592.out 1).trans rfl; have hfz146_0 := blk_frozen BK592.out 0; have hfz146_1 := blk_frozen BK592.out 1; have hcz147_0 : w140.cell? ⟨gb589, 0, none⟩ = some (.bool t587) := (blk_cell BK589.out 0).trans rfl; have hcz147_1 : w140.cell? ⟨gb589, 1, none⟩ = some (.string t588) := (blk_cell BK589.out 1).trans rfl; have hfz147_0 := blk_frozen BK589.out 0; have hfz147_1 := blk_frozen BK589.out 1) | ((with_reducible refine gate_callee (f := 51) rfl ?_); refine Q.gl 37 Tryd.func51 #[.agg #[.bool t587, .string t588]] rfl rfl rfl rfl ?_; (with_reducible refine (voussoirref02_Sign.calls k t587 t588 t593 _ A7.out).mono ?_); rintro e w148 ⟨rfl, hb⟩; refine ⟨_, rfl, ?_⟩; replace BK580 := Q.a (Q.bf BK580 NB580_592 hb); replace BK581 := Q.a (Q.bf BK581 NB581_592 hb); replace BK582 := Q.a (Q.bf BK582 NB582_592 hb); replace BK583 := Q.a (Q.bf BK583 NB583_592 hb); replace BK589 := Q.a (Q.bf BK589 NB589_592 hb); replace BK592 := Q.a (blk_below (g := gb592) (o := .cells #[.bool t590, .string t591] 36 (0, 0)) (by (with_reducible repeat (first | refine blk_drewN ?_ _ | refine blk_drew ?_ | refine blk_alloc ?_ _)); refine blk_put (cs := #[.bool t590, .string (⟨#[]⟩ : ByteArray)]) ?_ 1 _ (by first | rfl | (cases a0.toList <;> rfl) | (cases a1.toList <;> rfl)); (with_reducible repeat (first | refine blk_drewN ?_ _ | refine blk_drew ?_ | refine blk_alloc ?_ _)); refine blk_put (cs := #[.bool false, .string (⟨#[]⟩ : ByteArray)]) ?_ 0 _ (by first | rfl | (cases a0.toList <;> rfl) | (cases a1.toList <;> rfl)); (with_reducible repeat (first | refine blk_drewN ?_ _ | refine blk_drew ?_ | refine blk_alloc ?_ _)); exact BK592.out) hb); replace HB := Q.a (below_step (Q.bw6 HB GE580 GE581 GE582 GE583 GE589 GE592) hb); (try clear hb)))
   replace BK580 := Q.a (blk_drew BK580.out)
   replace BK581 := Q.a (blk_drew BK581.out)
   replace BK582 := Q.a (blk_drew BK582.out)
   replace BK583 := Q.a (blk_drew BK583.out)
   replace BK589 := Q.a (blk_drew BK589.out)
   replace BK592 := Q.a (blk_drew BK592.out)
   replace HB := Q.a (below_drew1 HB.out)
   refine start_ (n := 5) (S := fun w' => w'.cell? ⟨gb592, 0, none⟩ = some (.bool t590) ∧ w'.cell? ⟨gb592, 1, none⟩ = some (.string t591) ∧ w'.cell? ⟨gb589, 0, none⟩ = some (.bool t587) ∧ w'.cell? ⟨gb589, 1, none⟩ = some (.string t588)) (ds := []) #[false, false, false, false, false] (by kernel_rfl) rfl rfl ⟨(blk_cell BK592.out 0).trans rfl, (blk_cell BK592.out 1).trans rfl, (blk_cell BK589.out 0).trans rfl, (blk_cell BK589.out 1).trans rfl⟩ (fun hHeld => ?_)
   generalize w148.drew = w149 at BK580 BK581 BK582 BK583 BK589 BK592 HB hHeld ⊢
   refine take_ (i := 0) (N := some 53) (v := ?_) (a' := ?_) #[true, false, false, false, false] rfl rfl (by kernel_rfl) (fun _ _ _ h => h) (Or.inl ⟨by rfl, ?_⟩) hHeld ?_ ?_
   rotate_left
   ·rintro w' ⟨s0, s1, s2, s3⟩
    go_simp
    with_reducible rfl
   rotate_left
   ·simp only [Act.put, List.setIfInBounds_toArray, List.set_cons_zero, List.set_cons_succ, i64_w, i32_w]
    rfl
   refine take_ (i := 1) (N := some 54) (v := ?_) (a' := ?_) #[true, true, false, false, false] rfl rfl (by kernel_rfl) (fun _ _ _ h => h) (Or.inl ⟨by rfl, ?_⟩) hHeld ?_ ?_
   rotate_left
   ·rintro w' ⟨s0, s1, s2, s3⟩
    go_simp
    with_reducible rfl
   rotate_left
   ·simp only [Act.put, List.setIfInBounds_toArray, List.set_cons_zero, List.set_cons_succ, i64_w, i32_w]
    rfl
   refine one_ (i := 2) (N := none) #[true, true, true, false, false] rfl rfl (by kernel_rfl) (by decide) (fun K hK => ?_)
   have hs150 : w149.cell? ⟨gb582, 0, none⟩ = some (.bool false) := (blk_cell BK582.out 0).trans rfl
   have hfs150 := blk_frozen BK582.out 0
   have hns150_0 := NB580_582.out
   have hns150_1 := NB581_582.out
   have hns150_3 := NB583_582.out
   have hns150_4 := NB589_582.out
   have hns150_5 := NB592_582.out
   have hms150_0 := NB582_580.out
   have hms150_1 := NB582_581.out
   have hms150_3 := NB582_583.out
   have hms150_4 := NB582_589.out
   have hms150_5 := NB582_592.out
   have hs151 : w149.cell? ⟨gb582, 1, none⟩ = some (.string (⟨#[]⟩ : ByteArray)) := (blk_cell BK582.out 1).trans rfl
   have hfs151 := blk_frozen BK582.out 1
   have hns151_0 := NB580_582.out
   have hns151_1 := NB581_582.out
   have hns151_3 := NB583_582.out
   have hns151_4 := NB589_582.out
   have hns151_5 := NB592_582.out
   have hms151_0 := NB582_580.out
   have hms151_1 := NB582_581.out
   have hms151_3 := NB582_583.out
   have hms151_4 := NB582_589.out
   have hms151_5 := NB582_592.out
   refine skip_ (w1 := ?_) (by rfl) rfl ?_ ?_
   rotate_left
   ·go_simp
    rfl
   refine hK.out _ _ ⟨((cell_far (p := ⟨gb582, _, none⟩) NB592_582.out _).trans (((cell_far (p := ⟨gb582, _, none⟩) NB592_582.out _).trans (hHeld.1)))), ((cell_far (p := ⟨gb582, _, none⟩) NB592_582.out _).trans (((cell_far (p := ⟨gb582, _, none⟩) NB592_582.out _).trans (hHeld.2.1)))), ((cell_far (p := ⟨gb582, _, none⟩) NB589_582.out _).trans (((cell_far (p := ⟨gb582, _, none⟩) NB589_582.out _).trans (hHeld.2.2.1)))), ((cell_far (p := ⟨gb582, _, none⟩) NB589_582.out _).trans (((cell_far (p := ⟨gb582, _, none⟩) NB589_582.out _).trans (hHeld.2.2.2))))⟩ (fun hHeld => ?_)
   clear hK K
   refine one_ (i := 3) (N := none) #[true, true, true, true, false] rfl rfl (by kernel_rfl) (by decide) (fun K hK => ?_)
   have hs152 : w149.cell? ⟨gb583, 0, none⟩ = some (.bool false) := (blk_cell BK583.out 0).trans rfl
   have hfs152 := blk_frozen BK583.out 0
   have hns152_0 := NB580_583.out
   have hns152_1 := NB581_583.out
   have hns152_2 := NB582_583.out
   have hns152_4 := NB589_583.out
   have hns152_5 := NB592_583.out
   have hms152_0 := NB583_580.out
   have hms152_1 := NB583_581.out
   have hms152_2 := NB583_582.out
   have hms152_4 := NB583_589.out
   have hms152_5 := NB583_592.out
   have hs153 : w149.cell? ⟨gb583, 1, none⟩ = some (.string (⟨#[]⟩ : ByteArray)) := (blk_cell BK583.out 1).trans rfl
   have hfs153 := blk_frozen BK583.out 1
   have hns153_0 := NB580_583.out
   have hns153_1 := NB581_583.out
   have hns153_2 := NB582_583.out
   have hns153_4 := NB589_583.out
   have hns153_5 := NB592_583.out
   have hms153_0 := NB583_580.out
   have hms153_1 := NB583_581.out
   have hms153_2 := NB583_582.out
   have hms153_4 := NB583_589.out
   have hms153_5 := NB583_592.out
   refine skip_ (w1 := ?_) (by rfl) rfl ?_ ?_
   rotate_left
   ·go_simp
    rfl
   refine hK.out _ _ ⟨((cell_far (p := ⟨gb583, _, none⟩) NB592_583.out _).trans (((cell_far (p := ⟨gb583, _, none⟩) NB592_583.out _).trans (hHeld.1)))), ((cell_far (p := ⟨gb583, _, none⟩) NB592_583.out _).trans (((cell_far (p := ⟨gb583, _, none⟩) NB592_583.out _).trans (hHeld.2.1)))), ((cell_far (p := ⟨gb583, _, none⟩) NB589_583.out _).trans (((cell_far (p := ⟨gb583, _, none⟩) NB589_583.out _).trans (hHeld.2.2.1)))), ((cell_far (p := ⟨gb583, _, none⟩) NB589_583.out _).trans (((cell_far (p := ⟨gb583, _, none⟩) NB589_583.out _).trans (hHeld.2.2.2))))⟩ (fun hHeld => ?_)
   clear hK K
   refine pure_ (i := 4) (N := some 6) (v := ?_) (a' := ?_) #[true, true, true, true, true] rfl rfl (by kernel_rfl) (fun _ _ _ h => h) (Or.inl ⟨by rfl, ?_⟩) ?_ ?_
   rotate_left
   ·intro w'
    go_simp
    with_reducible rfl
   rotate_left
   ·simp only [Act.put, List.setIfInBounds_toArray, List.set_cons_zero, List.set_cons_succ, i64_w, i32_w]
    rfl
   refine done_ (by kernel_rfl) ?_
   try go_wp2
   refine bodyPost_ret (results_list (rs := [.cell 4 36, .cell 5 36, .tmp 6]) rfl (by simp) (.cell gb582 36 #[.bool t590, .string t591] (0, 0) _ rfl (by (with_reducible repeat (first | refine blk_drewN ?_ _ | refine blk_drew ?_ | refine blk_alloc ?_ _)); refine blk_far ?_ NB582_583.out _; (with_reducible repeat (first | refine blk_drewN ?_ _ | refine blk_drew ?_ | refine blk_alloc ?_ _)); refine blk_far ?_ NB582_583.out _; (with_reducible repeat (first | refine blk_drewN ?_ _ | refine blk_drew ?_ | refine blk_alloc ?_ _)); refine blk_put (cs := #[.bool t590, .string (⟨#[]⟩ : ByteArray)]) ?_ 1 _ (by first | rfl | (cases a0.toList <;> rfl) | (cases a1.toList <;> rfl)); (with_reducible repeat (first | refine blk_drewN ?_ _ | refine blk_drew ?_ | refine blk_alloc ?_ _)); refine blk_put (cs := #[.bool false, .string (⟨#[]⟩ : ByteArray)]) ?_ 0 _ (by first | rfl | (cases a0.toList <;> rfl) | (cases a1.toList <;> rfl)); (with_reducible repeat (first | refine blk_drewN ?_ _ | refine blk_drew ?_ | refine blk_alloc ?_ _)); exact BK582.out) Tryd.underlying36 rfl (by kernel_rfl) (.cell gb583 36 #[.bool t587, .string t588] (0, 0) _ rfl (by (with_reducible repeat (first | refine blk_drewN ?_ _ | refine blk_drew ?_ | refine blk_alloc ?_ _)); refine blk_put (cs := #[.bool t587, .string (⟨#[]⟩ : ByteArray)]) ?_ 1 _ (by first | rfl | (cases a0.toList <;> rfl) | (cases a1.toList <;> rfl)); (with_reducible repeat (first | refine blk_drewN ?_ _ | refine blk_drew ?_ | refine blk_alloc ?_ _)); refine blk_put (cs := #[.bool false, .string (⟨#[]⟩ : ByteArray)]) ?_ 0 _ (by first | rfl | (cases a0.toList <;> rfl) | (cases a1.toList <;> rfl)); (with_reducible repeat (first | refine blk_drewN ?_ _ | refine blk_drew ?_ | refine blk_alloc ?_ _)); refine blk_far ?_ NB583_582.out _; (with_reducible repeat (first | refine blk_drewN ?_ _ | refine blk_drew ?_ | refine blk_alloc ?_ _)); refine blk_far ?_ NB583_582.out _; (with_reducible repeat (first | refine blk_drewN ?_ _ | refine blk_drew ?_ | refine blk_alloc ?_ _)); exact BK583.out) Tryd.underlying36 rfl (by kernel_rfl) (.tmp .nil)))) rfl ?_
   exact ⟨Q.en, Q.bw6 HB GE580 GE581 GE582 GE583 GE589 GE592⟩
 ·replace c4 := Bool.eq_false_iff.mpr c4
  subst c4
  have H1 : (some (false, (⟨#[]⟩ : ByteArray), false, (⟨#[]⟩ : ByteArray), false)) = some (r1, r2, r3, r4, r5) := by rw [if_neg (show ¬ (false = true) by decide)] at H; exact H
  clear H
  have H := H1
  clear H1
  simp only [Option.some.injEq, Prod.mk.injEq] at H
  obtain ⟨rfl, rfl, rfl, rfl, rfl⟩ := H
  go_enter Tryd.func39, Tryd.ntmps39
  go_wp2_with (first | ((with_reducible refine gate_dst (N := 2) rfl ?_); refine Q.bx 2 #[.bool a0_0, .string a0_1] 36 rfl rfl ?_; intro gb580 hg w154 hbox hb; replace BK580 := Q.a (hbox); replace GW580 := Q.a (Q.gs hg (below_size (Q.bw HB))); replace GE580 := GW580; replace HB := Q.a (below_step (Q.bw HB) hb); clear hb hbox hg) | ((with_reducible refine gate_dst (N := 3) rfl ?_); refine Q.bx 3 #[.bool a1_0, .string a1_1] 36 rfl rfl ?_; intro gb581 hg w155 hbox hb; replace BK581 := Q.a (hbox); replace GW581 := Q.a (Q.gs hg (below_size (Q.bw1 HB GE580))); replace GE581 := GW581; replace HB := Q.a (below_step (Q.bw1 HB GE580) hb); replace NB580_581 := Q.a (Q.nl hg BK580); replace NB581_580 := Q.a (Q.ng hg BK580); replace BK580 := Q.a (Q.bb BK580 hb); clear hb hbox hg) | ((with_reducible refine gate_dst (N := 4) rfl ?_); refine Q.bx 4 #[.bool false, .string (⟨#[]⟩ : ByteArray)] 36 rfl rfl ?_; intro gb582 hg w156 hbox hb; replace BK582 := Q.a (hbox); replace GW582 := Q.a (Q.gs hg (below_size (Q.bw2 HB GE580 GE581))); replace GE582 := GW582; replace HB := Q.a (below_step (Q.bw2 HB GE580 GE581) hb); replace NB580_582 := Q.a (Q.nl hg BK580); replace NB582_580 := Q.a (Q.ng hg BK580); replace BK580 := Q.a (Q.bb BK580 hb); replace NB581_582 := Q.a (Q.nl hg BK581); replace NB582_581 := Q.a (Q.ng hg BK581); replace BK581 := Q.a (Q.bb BK581 hb); clear hb hbox hg) | ((with_reducible refine gate_dst (N := 5) rfl ?_); refine Q.bx 5 #[.bool false, .string (⟨#[]⟩ : ByteArray)] 36 rfl rfl ?_; intro gb583 hg w157 hbox hb; replace BK583 := Q.a (hbox); replace GW583 := Q.a (Q.gs hg (below_size (Q.bw3 HB GE580 GE581 GE582))); replace GE583 := GW583; replace HB := Q.a (below_step (Q.bw3 HB GE580 GE581 GE582) hb); replace NB580_583 := Q.a (Q.nl hg BK580); replace NB583_580 := Q.a (Q.ng hg BK580); replace BK580 := Q.a (Q.bb BK580 hb); replace NB581_583 := Q.a (Q.nl hg BK581); replace NB583_581 := Q.a (Q.ng hg BK581); replace BK581 := Q.a (Q.bb BK581 hb); replace NB582_583 := Q.a (Q.nl hg BK582); replace NB583_582 := Q.a (Q.ng hg BK582); replace BK582 := Q.a (Q.bb BK582 hb); clear hb hbox hg; have hnb158 := NB580_581.out; have hnc158 := NB581_580.out; have hnb159 := NB580_582.out; have hnc159 := NB582_580.out; have hnb160 := NB580_583.out; have hnc160 := NB583_580.out; have hcz161_0 : w157.cell? ⟨gb580, 0, none⟩ = some (.bool a0_0) := (blk_cell BK580.out 0).trans rfl; have hcz161_1 : w157.cell? ⟨gb580, 1, none⟩ = some (.string a0_1) := (blk_cell BK580.out 1).trans rfl; have hfz161_0 := blk_frozen BK580.out 0; have hfz161_1 := blk_frozen BK580.out 1; have hnb162 := NB581_582.out; have hnc162 := NB582_581.out; have hnb163 := NB581_583.out; have hnc163 := NB583_581.out; have hcz164_0 : w157.cell? ⟨gb581, 0, none⟩ = some (.bool a1_0) := (blk_cell BK581.out 0).trans rfl; have hcz164_1 : w157.cell? ⟨gb581, 1, none⟩ = some (.string a1_1) := (blk_cell BK581.out 1).trans rfl; have hfz164_0 := blk_frozen BK581.out 0; have hfz164_1 := blk_frozen BK581.out 1) | ((with_reducible refine gate_callee (f := 23) rfl ?_); refine Q.gl 17 Tryd.func23 #[.string a0_1, .string a1_1] rfl rfl rfl rfl ?_; (with_reducible refine (voussoirref01_Div.calls k a0_1 a1_1 t584 t585 false _ A3.out).mono ?_); rintro e w165 ⟨rfl, hb⟩; refine ⟨_, rfl, ?_⟩; replace BK580 := Q.a (Q.bb BK580 hb); replace BK581 := Q.a (Q.bb BK581 hb); replace BK582 := Q.a (Q.bb BK582 hb); replace BK583 := Q.a (Q.bb BK583 hb); replace HB := Q.a (below_step (Q.bw4 HB GE580 GE581 GE582 GE583) hb); (try clear hb); have hnb166 := NB582_583.out; have hnc166 := NB583_582.out; have hcz167_0 : w165.cell? ⟨gb582, 0, none⟩ = some (.bool false) := (blk_cell BK582.out 0).trans rfl; have hcz167_1 : w165.cell? ⟨gb582, 1, none⟩ = some (.string (⟨#[]⟩ : ByteArray)) := (blk_cell BK582.out 1).trans rfl; have hfz167_0 := blk_frozen BK582.out 0; have hfz167_1 := blk_frozen BK582.out 1; have hcz168_0 : w165.cell? ⟨gb583, 0, none⟩ = some (.bool false) := (blk_cell BK583.out 0).trans rfl; have hcz168_1 : w165.cell? ⟨gb583, 1, none⟩ = some (.string (⟨#[]⟩ : ByteArray)) := (blk_cell BK583.out 1).trans rfl; have hfz168_0 := blk_frozen BK583.out 0; have hfz168_1 := blk_frozen BK583.out 1))
  refine bodyPost_ret (results_list (rs := [.cell 4 36, .cell 5 36, .tmp 6]) rfl (by simp) (.cell gb582 36 #[.bool false, .string (⟨#[]⟩ : ByteArray)] (0, 0) _ rfl (by (with_reducible repeat (first | refine blk_drewN ?_ _ | refine blk_drew ?_ | refine blk_alloc ?_ _)); refine blk_far ?_ NB582_583.out _; (with_reducible repeat (first | refine blk_drewN ?_ _ | refine blk_drew ?_ | refine blk_alloc ?_ _)); refine blk_far ?_ NB582_583.out _; (with_reducible repeat (first | refine blk_drewN ?_ _ | refine blk_drew ?_ | refine blk_alloc ?_ _)); refine blk_put (cs := #[.bool false, .string (⟨#[]⟩ : ByteArray)]) ?_ 1 _ (by first | rfl | (cases a0.toList <;> rfl) | (cases a1.toList <;> rfl)); (with_reducible repeat (first | refine blk_drewN ?_ _ | refine blk_drew ?_ | refine blk_alloc ?_ _)); refine blk_put (cs := #[.bool false, .string (⟨#[]⟩ : ByteArray)]) ?_ 0 _ (by first | rfl | (cases a0.toList <;> rfl) | (cases a1.toList <;> rfl)); (with_reducible repeat (first | refine blk_drewN ?_ _ | refine blk_drew ?_ | refine blk_alloc ?_ _)); exact BK582.out) Tryd.underlying36 rfl (by kernel_rfl) (.cell gb583 36 #[.bool false, .string (⟨#[]⟩ : ByteArray)] (0, 0) _ rfl (by (with_reducible repeat (first | refine blk_drewN ?_ _ | refine blk_drew ?_ | refine blk_alloc ?_ _)); refine blk_put (cs := #[.bool false, .string (⟨#[]⟩ : ByteArray)]) ?_ 1 _ (by first | rfl | (cases a0.toList <;> rfl) | (cases a1.toList <;> rfl)); (with_reducible repeat (first | refine blk_drewN ?_ _ | refine blk_drew ?_ | refine blk_alloc ?_ _)); refine blk_put (cs := #[.bool false, .string (⟨#[]⟩ : ByteArray)]) ?_ 0 _ (by first | rfl | (cases a0.toList <;> rfl) | (cases a1.toList <;> rfl)); (with_reducible repeat (first | refine blk_drewN ?_ _ | refine blk_drew ?_ | refine blk_alloc ?_ _)); refine blk_far ?_ NB583_582.out _; (with_reducible repeat (first | refine blk_drewN ?_ _ | refine blk_drew ?_ | refine blk_alloc ?_ _)); refine blk_far ?_ NB583_582.out _; (with_reducible repeat (first | refine blk_drewN ?_ _ | refine blk_drew ?_ | refine blk_alloc ?_ _)); exact BK583.out) Tryd.underlying36 rfl (by kernel_rfl) (.tmp .nil)))) rfl ?_
  exact ⟨Q.en, Q.bw4 HB GE580 GE581 GE582 GE583⟩
end Go.Proofs.YtpokflilobkoaaaDoor.P
