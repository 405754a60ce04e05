/- Out of what mp.py printed for this seat (squeeze.py, repack.py). Not trusted: Lean checks it. -/
import Derived.Test.YtpokflilobkoaaaDoorPx0
import Derived.Test.YtpokflilobkoaaaDoorPxIA
import Derived.Test.YtpokflilobkoaaaDoorPxNatParse
import Derived.Test.YtpokflilobkoaaaDoorXQ
-- squeezed twice
namespace Go.Proofs.YtpokflilobkoaaaDoor.P
open Go.RowKit Go.Proofs.YtpokflilobkoaaaDoorW.PrintWords Go.Proofs.YtpokflilobkoaaaDoorW.PrintLast Go.Proofs.YtpokflilobkoaaaDoorW.PrintMore
attribute [local go_sem] max2_int min2_int max_two min_two max_three min_three max_four min_four   -- for this text's walks alone
attribute [local go_sem] XW.cell_twice   -- for this text's walks alone
set_option linter.unusedVariables false
set_option linter.unusedSimpArgs false

/-! ### integer_Parse: function 64 -/
mutual
def integer_Parse.j0 : Nat → ByteArray → Bool → Option (Bool × ByteArray × Bool)
 | 0, _, _ => none
 | k + 1, x0, x4 => if x4 = true then (if 1 ≤ (x0.size : Int) then (integer_Parse.j1 k (x0.extract 1 x0.size) x4) else (none)) else (integer_Parse.j1 k x0 x4)
def integer_Parse.j1 : Nat → ByteArray → Bool → Option (Bool × ByteArray × Bool)
 | 0, _, _ => none
 | k + 1, x0, x4 => (nat_Parse.f k x0).bind fun bt930 => (if bt930.2 = true then (if x4 = true then (if bt930.1.toList = ([] : List UInt8) then (some (false, (⟨#[]⟩ : ByteArray), false)) else ((integer_of.f x4 bt930.1).bind fun bt932 => (some (bt932.1, bt932.2, true)))) else ((integer_of.f x4 bt930.1).bind fun bt934 => (some (bt934.1, bt934.2, true)))) else (some (false, (⟨#[]⟩ : ByteArray), false)))
end
def integer_Parse.f (k : Nat) (a0 : ByteArray) : Option (Bool × ByteArray × Bool) := if (a0.size : Int) > 0 then (if 0 < (a0.size : Int) then (integer_Parse.j0 k a0 ((bt a0 0) == 45)) else (none)) else (integer_Parse.j0 k a0 false)
theorem integer_Parse.mono_l : ∀ k, (∀ y0 y1, LeO (integer_Parse.j0 k y0 y1) (integer_Parse.j0 (k + 1) y0 y1)) ∧ (∀ y0 y1, LeO (integer_Parse.j1 k y0 y1) (integer_Parse.j1 (k + 1) y0 y1))
 | 0 => ⟨fun _ _ r h => by simp [integer_Parse.j0] at h, fun _ _ r h => by simp [integer_Parse.j1] at h⟩
 | k + 1 => by
  obtain ⟨ih0, ih1⟩ := integer_Parse.mono_l k
  refine ⟨?_, ?_⟩
  ·intro y0 y1
   unfold integer_Parse.j0
   repeat' first
   | (with_reducible exact ih0 _ _)
   | (with_reducible exact ih1 _ _)
   | (with_reducible exact nat_Parse.mono _ _)
   | (with_reducible exact LeO.refl _)
   | (with_reducible exact LeO.none _)
   | (with_reducible refine LeO.ite ?_ ?_)
   | (with_reducible refine LeO.bind ?_ (fun _ => ?_))
   | exact ih0 _ _
   | exact ih1 _ _
   | exact nat_Parse.mono _ _
   | exact LeO.none _
   | refine LeO.ite ?_ ?_
   | refine LeO.bind ?_ (fun _ => ?_)
  ·intro y0 y1
   unfold integer_Parse.j1
   repeat' first
   | (with_reducible exact ih0 _ _)
   | (with_reducible exact ih1 _ _)
   | (with_reducible exact nat_Parse.mono _ _)
   | (with_reducible exact LeO.refl _)
   | (with_reducible exact LeO.none _)
   | (with_reducible refine LeO.ite ?_ ?_)
   | (with_reducible refine LeO.bind ?_ (fun _ => ?_))
   | exact ih0 _ _
   | exact ih1 _ _
   | exact nat_Parse.mono _ _
   | exact LeO.none _
   | refine LeO.ite ?_ ?_
   | refine LeO.bind ?_ (fun _ => ?_)
theorem integer_Parse.mono : ∀ a0 k, LeO (integer_Parse.f k a0) (integer_Parse.f (k + 1) a0) := by
 intro a0 k
 obtain ⟨ih0, ih1⟩ := integer_Parse.mono_l k
 unfold integer_Parse.f
 repeat' first
   | (with_reducible exact ih0 _ _)
   | (with_reducible exact ih1 _ _)
   | (with_reducible exact nat_Parse.mono _ _)
   | (with_reducible exact LeO.refl _)
   | (with_reducible exact LeO.none _)
   | (with_reducible refine LeO.ite ?_ ?_)
   | (with_reducible refine LeO.bind ?_ (fun _ => ?_))
   | exact ih0 _ _
   | exact ih1 _ _
   | exact nat_Parse.mono _ _
   | exact LeO.none _
   | refine LeO.ite ?_ ?_
   | refine LeO.bind ?_ (fun _ => ?_)
set_option maxHeartbeats 8000000 in
set_option maxRecDepth 100000 in
theorem integer_Parse.calls (k : Nat) (a0 : ByteArray) (r1 : Bool) (r2 : ByteArray) (r3 : Bool) (w : World) (h : integer_Parse.f k a0 = some (r1, r2, r3)) :
  Calls Tryd.prog 64 #[.string a0] w fun e w' => e = .returned (.tuple #[.agg #[.bool r1, .string r2], .bool r3]) ∧ Below w.heap.size w w' := by
 have hu36 := Tryd.underlying36
 have HB := Q.a (Below.refl w.heap.size w)
 have H : (if (a0.size : Int) > 0 then (if 0 < (a0.size : Int) then (integer_Parse.j0 k a0 ((bt a0 0) == 45)) else (none)) else (integer_Parse.j0 k a0 false)) = some (r1, r2, r3) := h
 clear h
 have HC2 := Q.a H
 clear H
 go_enter Tryd.func64, Tryd.ntmps64
 go_upto_region 1 with (first | ((with_reducible refine gate_dst (N := 2) rfl ?_); refine Q.bx 2 #[.bool false, .string (⟨#[]⟩ : ByteArray)] 36 rfl rfl ?_; intro gb929 hg w3 hbox hb; replace BK929 := Q.a (hbox); replace GW929 := Q.a (Q.gs hg (below_size (Q.bw HB))); replace GE929 := GW929; replace HB := Q.a (below_step (Q.bw HB) hb); clear hb hbox hg))
 (try simp only [Act.put, List.setIfInBounds_toArray, List.set_cons_zero, List.set_cons_succ])
 go_cut [4] (fun v4 wc => ∃ (kq : Nat) (x4_1 : Bool), v4 = .bool x4_1 ∧ Aside0 (integer_Parse.j0 kq a0 x4_1 = some (r1, r2, r3)) ∧ Aside0 (kq ≤ k) ∧ Aside0 (wc.heap[gb929]? = some (.cells #[.bool false, .string (⟨#[]⟩ : ByteArray)] 36 (0, 0))) ∧ Aside0 (Below w.heap.size w wc))
 case first =>
  have H := HC2.out
  clear HC2
  by_cases c4 : (a0.size : Int) > 0
  ·rw [if_pos c4] at H
   have c4b0 : decide (0 < (a0.size : Int)) = true := decide_eq_true c4
   have c4b1 : decide (0 < a0.size) = true := decide_eq_true (by omega)
   clear c4
   (first | rw [c4b0] | (simp only [i64_w, i32_w]; rw [c4b0]) | skip)
   by_cases c5 : 0 < (a0.size : Int)
   ·rw [if_pos c5] at H
    have c5b0 : decide (0 < (a0.size : Int)) = true := decide_eq_true c5
    have c5b1 : decide (0 < a0.size) = true := decide_eq_true (by omega)
    clear c5
    have H' := Q.a H
    clear H
    have p6 : 0 ≤ (0 : Int) := (by omega)
    have q6 : 0 < a0.size := (by have : (0 : Int) < (a0.size : Int) := of_decide_eq_true (by first | (with_reducible assumption) | assumption); omega)
    have hx6 : ∀ h : 0 < a0.size, ((a0[0]'h).toNat : Int) = bt a0 0 := bt_at a0 0
    clear p6
    have qi6 : (0 < (a0.size : Int)) = True := eq_true Q.od
    replace q6 := eq_true q6
    go_wp2
    go_meet
    case rel => exact ⟨_, (((bt a0 0) == 45)), Q.rs, H', ⟨by first | omega | exact Nat.le_refl _⟩, ⟨Q.kb BK929⟩, ⟨Q.bw1 HB GE929⟩⟩
   ·rw [if_neg c5] at H
    exact absurd H (by simp)
  ·rw [if_neg c4] at H
   have c4b0 : decide (0 < (a0.size : Int)) = false := decide_eq_false c4
   have c4b1 : decide (0 < a0.size) = false := decide_eq_false (by omega)
   clear c4
   (first | rw [c4b0] | (simp only [i64_w, i32_w]; rw [c4b0]) | skip)
   have H' := Q.a H
   clear H
   go_wp2
   go_meet
   case rel => exact ⟨_, (false), Q.rs, H', ⟨by first | omega | exact Nat.le_refl _⟩, ⟨Q.kb BK929⟩, ⟨Q.bw1 HB GE929⟩⟩
 case rest =>
  clear HC2
  try clear p2
  try clear c4
  try clear c4b0
  try clear c4b1
  try clear c5
  try clear c5b0
  try clear c5b1
  try clear c6
  try clear p6
  try clear q6
  try clear hx6
  try clear qi6
  try clear p6
  try clear q6
  obtain ⟨kq, x4_1, rfl, HA, HJ1, BK929, HB⟩ := hcut
  cases kq with
  | zero => exact absurd HA.out (by simp [integer_Parse.j0])
  | succ kj1 =>
   have H := HA.out
   clear HA
   simp only [integer_Parse.j0] at H
   have HC7 := Q.a H
   clear H
   go_upto_if 15 with (fail)
   go_cut [0] (fun v0 wc => ∃ (kq : Nat) (x0_6 : ByteArray), v0 = .string x0_6 ∧ Aside0 (integer_Parse.j1 kq x0_6 x4_1 = some (r1, r2, r3)) ∧ Aside0 (kq ≤ kj1) ∧ Aside0 (wc.heap[gb929]? = some (.cells #[.bool false, .string (⟨#[]⟩ : ByteArray)] 36 (0, 0))) ∧ Aside0 (Below w.heap.size w wc))
   case first =>
    have H := HC7.out
    clear HC7
    by_cases c8 : x4_1 = true
    ·subst c8
     have H1 : (if 1 ≤ (a0.size : Int) then (integer_Parse.j1 kj1 (a0.extract 1 a0.size) true) else (none)) = some (r1, r2, r3) := by rw [if_pos rfl] at H; exact H
     clear H
     have H := H1
     clear H1
     by_cases c9 : 1 ≤ (a0.size : Int)
     ·rw [if_pos c9] at H
      have c9b0 := eq_true c9
      have c9b1 : decide (1 ≤ (a0.size : Int)) = true := decide_eq_true c9
      clear c9
      have H' := Q.a H
      clear H
      go_wp2
      go_meet
      case rel => exact ⟨_, (a0.extract 1 a0.size), Q.rs, H', ⟨by have := HJ1.out; first | omega | exact Nat.le_refl _⟩, ⟨Q.kb BK929⟩, ⟨Q.bw1 HB GE929⟩⟩
     ·rw [if_neg c9] at H
      exact absurd H (by simp)
    ·replace c8 := Bool.eq_false_iff.mpr c8
     subst c8
     have H1 : (integer_Parse.j1 kj1 a0 false) = some (r1, r2, r3) := by rw [if_neg (show ¬ (false = true) by decide)] at H; exact H
     clear H
     have H := H1
     clear H1
     have H' := Q.a H
     clear H
     go_wp2
     go_meet
     case rel => exact ⟨_, (a0), Q.rs, H', ⟨by have := HJ1.out; first | omega | exact Nat.le_refl _⟩, ⟨Q.kb BK929⟩, ⟨Q.bw1 HB GE929⟩⟩
   case rest =>
    clear HC7
    try clear p2
    try clear c4
    try clear c4b0
    try clear c4b1
    try clear c5
    try clear c5b0
    try clear c5b1
    try clear c6
    try clear p6
    try clear q6
    try clear hx6
    try clear qi6
    try clear c8
    try clear c9
    try clear c9b0
    try clear c9b1
    try clear p2
    try clear p6
    try clear q6
    obtain ⟨kq, x0_6, rfl, HA, HJ6, BK929, HB⟩ := hcut
    cases kq with
    | zero => exact absurd HA.out (by simp [integer_Parse.j1])
    | succ kj6 =>
     have H := HA.out
     clear HA
     simp only [integer_Parse.j1] at H
     replace H := Option.bind_eq_some_iff.mp H
     obtain ⟨⟨t930, t931⟩, A100, H⟩ := H
     try dsimp only at H
     have A10 := Q.a A100
     clear A100
     by_cases c11 : t931 = true
     ·subst c11
      have H1 : (if x4_1 = true then (if t930.toList = ([] : List UInt8) then (some (false, (⟨#[]⟩ : ByteArray), false)) else ((integer_of.f x4_1 t930).bind fun bt932 => (some (bt932.1, bt932.2, true)))) else ((integer_of.f x4_1 t930).bind fun bt934 => (some (bt934.1, bt934.2, true)))) = some (r1, r2, r3) := by rw [if_pos rfl] at H; exact H
      clear H
      have H := H1
      clear H1
      by_cases c12 : x4_1 = true
      ·subst c12
       have H1 : (if t930.toList = ([] : List UInt8) then (some (false, (⟨#[]⟩ : ByteArray), false)) else ((integer_of.f true t930).bind fun bt932 => (some (bt932.1, bt932.2, true)))) = some (r1, r2, r3) := by rw [if_pos rfl] at H; exact H
       clear H
       have H := H1
       clear H1
       by_cases c13 : t930.toList = ([] : List UInt8)
       ·rw [if_pos c13] at H
        have c13b0 : (t930.toList == ([] : List UInt8)) = true := beq_iff_eq.mpr c13
        have c13b1 : (t930.toList != ([] : List UInt8)) = false := bne_eq_false_iff_eq.mpr c13
        clear c13
        simp only [Option.some.injEq, Prod.mk.injEq] at H
        obtain ⟨rfl, rfl, rfl⟩ := H
        go_wp2_with (first | ((with_reducible refine gate_callee (f := 56) rfl ?_); refine Q.gl 20 Tryd.func56 #[.string x0_6] rfl rfl rfl rfl ?_; (with_reducible refine (nat_Parse.calls kj6 x0_6 t930 true _ A10.out).mono ?_); rintro e w14 ⟨rfl, hb⟩; refine ⟨_, rfl, ?_⟩; replace BK929 := Q.a (Q.bb BK929 hb); replace HB := Q.a (below_step (Q.bw1 HB GE929) hb); (try clear hb); have hcz15_0 : w14.cell? ⟨gb929, 0, none⟩ = some (.bool false) := (blk_cell BK929.out 0).trans rfl; have hcz15_1 : w14.cell? ⟨gb929, 1, none⟩ = some (.string (⟨#[]⟩ : ByteArray)) := (blk_cell BK929.out 1).trans rfl; have hfz15_0 := blk_frozen BK929.out 0; have hfz15_1 := blk_frozen BK929.out 1))
        refine bodyPost_ret (results_ct rfl _ _ gb929 36 #[.bool false, .string (⟨#[]⟩ : ByteArray)] (0, 0) _ rfl (by (with_reducible repeat (first | refine blk_drewN ?_ _ | refine blk_drew ?_ | refine blk_alloc ?_ _)); refine blk_put (cs := #[.bool false, .string (⟨#[]⟩ : ByteArray)]) ?_ 1 _ (by first | rfl | (cases a0.toList <;> rfl) | (cases a1.toList <;> rfl)); (with_reducible repeat (first | refine blk_drewN ?_ _ | refine blk_drew ?_ | refine blk_alloc ?_ _)); refine blk_put (cs := #[.bool false, .string (⟨#[]⟩ : ByteArray)]) ?_ 0 _ (by first | rfl | (cases a0.toList <;> rfl) | (cases a1.toList <;> rfl)); (with_reducible repeat (first | refine blk_drewN ?_ _ | refine blk_drew ?_ | refine blk_alloc ?_ _)); exact BK929.out) Tryd.underlying36 rfl (by kernel_rfl)) rfl ?_
        exact ⟨Q.en, Q.bw1 HB GE929⟩
       ·rw [if_neg c13] at H
        have c13b0 : (t930.toList == ([] : List UInt8)) = false := beq_eq_false_iff_ne.mpr c13
        have c13b1 : (t930.toList != ([] : List UInt8)) = true := bne_iff_ne.mpr c13
        replace H := Option.bind_eq_some_iff.mp H
        obtain ⟨⟨t932, t933⟩, A160, H⟩ := H
        try dsimp only at H
        have A16 := Q.a A160
        clear A160
        simp only [Option.some.injEq, Prod.mk.injEq] at H
        obtain ⟨rfl, rfl, rfl⟩ := H
        go_wp2_with (first | ((with_reducible refine gate_callee (f := 56) rfl ?_); refine Q.gl 20 Tryd.func56 #[.string x0_6] rfl rfl rfl rfl ?_; (with_reducible refine (nat_Parse.calls kj6 x0_6 t930 true _ A10.out).mono ?_); rintro e w17 ⟨rfl, hb⟩; refine ⟨_, rfl, ?_⟩; replace BK929 := Q.a (Q.bb BK929 hb); replace HB := Q.a (below_step (Q.bw1 HB GE929) hb); (try clear hb)) | ((with_reducible refine gate_callee (f := 82) rfl ?_); refine Q.gl 35 Tryd.func82 #[.bool true, .string t930] rfl rfl rfl rfl ?_; (with_reducible refine (integer_of.calls true t930 t932 t933 _ A16.out).mono ?_); rintro e w18 ⟨rfl, hb⟩; refine ⟨_, rfl, ?_⟩; replace BK929 := Q.a (Q.bb BK929 hb); replace HB := Q.a (below_step (Q.bw1 HB GE929) hb); (try clear hb); have hcz19_0 : w18.cell? ⟨gb929, 0, none⟩ = some (.bool false) := (blk_cell BK929.out 0).trans rfl; have hcz19_1 : w18.cell? ⟨gb929, 1, none⟩ = some (.string (⟨#[]⟩ : ByteArray)) := (blk_cell BK929.out 1).trans rfl; have hfz19_0 := blk_frozen BK929.out 0; have hfz19_1 := blk_frozen BK929.out 1))
        refine bodyPost_ret (results_ct rfl _ _ gb929 36 #[.bool t932, .string t933] (0, 0) _ rfl (by (with_reducible repeat (first | refine blk_drewN ?_ _ | refine blk_drew ?_ | refine blk_alloc ?_ _)); refine blk_put (cs := #[.bool t932, .string (⟨#[]⟩ : ByteArray)]) ?_ 1 _ (by first | rfl | (cases a0.toList <;> rfl) | (cases a1.toList <;> rfl)); (with_reducible repeat (first | refine blk_drewN ?_ _ | refine blk_drew ?_ | refine blk_alloc ?_ _)); refine blk_put (cs := #[.bool false, .string (⟨#[]⟩ : ByteArray)]) ?_ 0 _ (by first | rfl | (cases a0.toList <;> rfl) | (cases a1.toList <;> rfl)); (with_reducible repeat (first | refine blk_drewN ?_ _ | refine blk_drew ?_ | refine blk_alloc ?_ _)); exact BK929.out) Tryd.underlying36 rfl (by kernel_rfl)) rfl ?_
        exact ⟨Q.en, Q.bw1 HB GE929⟩
      ·replace c12 := Bool.eq_false_iff.mpr c12
       subst c12
       have H1 : ((integer_of.f false t930).bind fun bt934 => (some (bt934.1, bt934.2, true))) = some (r1, r2, r3) := by rw [if_neg (show ¬ (false = true) by decide)] at H; exact H
       clear H
       have H := H1
       clear H1
       replace H := Option.bind_eq_some_iff.mp H
       obtain ⟨⟨t934, t935⟩, A200, H⟩ := H
       try dsimp only at H
       have A20 := Q.a A200
       clear A200
       simp only [Option.some.injEq, Prod.mk.injEq] at H
       obtain ⟨rfl, rfl, rfl⟩ := H
       go_wp2_with (first | ((with_reducible refine gate_callee (f := 56) rfl ?_); refine Q.gl 20 Tryd.func56 #[.string x0_6] rfl rfl rfl rfl ?_; (with_reducible refine (nat_Parse.calls kj6 x0_6 t930 true _ A10.out).mono ?_); rintro e w21 ⟨rfl, hb⟩; refine ⟨_, rfl, ?_⟩; replace BK929 := Q.a (Q.bb BK929 hb); replace HB := Q.a (below_step (Q.bw1 HB GE929) hb); (try clear hb)) | ((with_reducible refine gate_callee (f := 82) rfl ?_); refine Q.gl 35 Tryd.func82 #[.bool false, .string t930] rfl rfl rfl rfl ?_; (with_reducible refine (integer_of.calls false t930 t934 t935 _ A20.out).mono ?_); rintro e w22 ⟨rfl, hb⟩; refine ⟨_, rfl, ?_⟩; replace BK929 := Q.a (Q.bb BK929 hb); replace HB := Q.a (below_step (Q.bw1 HB GE929) hb); (try clear hb); have hcz23_0 : w22.cell? ⟨gb929, 0, none⟩ = some (.bool false) := (blk_cell BK929.out 0).trans rfl; have hcz23_1 : w22.cell? ⟨gb929, 1, none⟩ = some (.string (⟨#[]⟩ : ByteArray)) := (blk_cell BK929.out 1).trans rfl; have hfz23_0 := blk_frozen BK929.out 0; have hfz23_1 := blk_frozen BK929.out 1))
       refine bodyPost_ret (results_ct rfl _ _ gb929 36 #[.bool t934, .string t935] (0, 0) _ rfl (by (with_reducible repeat (first | refine blk_drewN ?_ _ | refine blk_drew ?_ | refine blk_alloc ?_ _)); refine blk_put (cs := #[.bool t934, .string (⟨#[]⟩ : ByteArray)]) ?_ 1 _ (by first | rfl | (cases a0.toList <;> rfl) | (cases a1.toList <;> rfl)); (with_reducible repeat (first | refine blk_drewN ?_ _ | refine blk_drew ?_ | refine blk_alloc ?_ _)); refine blk_put (cs := #[.bool false, .string (⟨#[]⟩ : ByteArray)]) ?_ 0 _ (by first | rfl | (cases a0.toList <;> rfl) | (cases a1.toList <;> rfl)); (with_reducible repeat (first | refine blk_drewN ?_ _ | refine blk_drew ?_ | refine blk_alloc ?_ _)); exact BK929.out) Tryd.underlying36 rfl (by kernel_rfl)) rfl ?_
       exact ⟨Q.en, Q.bw1 HB GE929⟩
     ·replace c11 := Bool.eq_false_iff.mpr c11
      subst c11
      have H1 : (some (false, (⟨#[]⟩ : ByteArray), false)) = some (r1, r2, r3) := by rw [if_neg (show ¬ (false = true) by decide)] at H; exact H
      clear H
      have H := H1
      clear H1
      simp only [Option.some.injEq, Prod.mk.injEq] at H
      obtain ⟨rfl, rfl, rfl⟩ := H
      go_wp2_with (first | ((with_reducible refine gate_callee (f := 56) rfl ?_); refine Q.gl 20 Tryd.func56 #[.string x0_6] rfl rfl rfl rfl ?_; (with_reducible refine (nat_Parse.calls kj6 x0_6 t930 false _ A10.out).mono ?_); rintro e w24 ⟨rfl, hb⟩; refine ⟨_, rfl, ?_⟩; replace BK929 := Q.a (Q.bb BK929 hb); replace HB := Q.a (below_step (Q.bw1 HB GE929) hb); (try clear hb); have hcz25_0 : w24.cell? ⟨gb929, 0, none⟩ = some (.bool false) := (blk_cell BK929.out 0).trans rfl; have hcz25_1 : w24.cell? ⟨gb929, 1, none⟩ = some (.string (⟨#[]⟩ : ByteArray)) := (blk_cell BK929.out 1).trans rfl; have hfz25_0 := blk_frozen BK929.out 0; have hfz25_1 := blk_frozen BK929.out 1))
      refine bodyPost_ret (results_ct rfl _ _ gb929 36 #[.bool false, .string (⟨#[]⟩ : ByteArray)] (0, 0) _ rfl (by (with_reducible repeat (first | refine blk_drewN ?_ _ | refine blk_drew ?_ | refine blk_alloc ?_ _)); refine blk_put (cs := #[.bool false, .string (⟨#[]⟩ : ByteArray)]) ?_ 1 _ (by first | rfl | (cases a0.toList <;> rfl) | (cases a1.toList <;> rfl)); (with_reducible repeat (first | refine blk_drewN ?_ _ | refine blk_drew ?_ | refine blk_alloc ?_ _)); refine blk_put (cs := #[.bool false, .string (⟨#[]⟩ : ByteArray)]) ?_ 0 _ (by first | rfl | (cases a0.toList <;> rfl) | (cases a1.toList <;> rfl)); (with_reducible repeat (first | refine blk_drewN ?_ _ | refine blk_drew ?_ | refine blk_alloc ?_ _)); exact BK929.out) Tryd.underlying36 rfl (by kernel_rfl)) rfl ?_
      exact ⟨Q.en, Q.bw1 HB GE929⟩
end Go.Proofs.YtpokflilobkoaaaDoor.P
