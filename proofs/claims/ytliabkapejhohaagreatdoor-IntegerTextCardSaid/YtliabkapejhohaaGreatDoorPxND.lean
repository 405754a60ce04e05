import Derived.Test.YtliabkapejhohaaGreatDoorPx0
import Derived.Test.YtliabkapejhohaaGreatDoorPxNA
import Derived.Test.YtliabkapejhohaaGreatDoorPxNB
import Derived.Test.YtliabkapejhohaaGreatDoorPxNatLong
import Derived.Test.YtliabkapejhohaaGreatDoorXQ
namespace Go.Proofs.YtliabkapejhohaaGreatDoor.P
open Go.RowKit Go.Proofs.YtliabkapejhohaaGreatDoorW.PrintWords Go.Proofs.YtliabkapejhohaaGreatDoorW.PrintLast Go.Proofs.YtliabkapejhohaaGreatDoorW.PrintMore
attribute [local go_sem] max2_int min2_int max_two min_two max_three min_three max_four min_four
attribute [local go_sem] XW.cell_twice
set_option linter.unusedVariables false
set_option linter.unusedSimpArgs false
def nat_Div.f (k : Nat) (a0 : ByteArray) (a1 : ByteArray) : Option (ByteArray × ByteArray × Bool) := (nat_limbs.f k a1).bind fun t226 => (if (t226.length : Int) = 0 then (some ((⟨#[]⟩ : ByteArray), (⟨#[]⟩ : ByteArray), false)) else ((nat_Cmp.f k a0 a1).bind fun t229 => (if t229 < 0 then ((nat_Normalize.f k a0).bind fun t230 => (some ((⟨#[]⟩ : ByteArray), t230, true))) else (if (t226.length : Int) = 1 then ((nat_limbs.f k a0).bind fun t231 => (if 0 < (t226.length : Int) then ((nat_short.f k t231 (rd t226 0)).bind fun bt235 => ((nat_mag.f k bt235.1).bind fun t239 => ((nat_FromUint64.f k (IntKind.u64.wrap (bt235.2))).bind fun t240 => (some (t239, t240, true))))) else (none))) else ((nat_limbs.f k a0).bind fun t241 => ((nat_long.f k t241 t226).bind fun bt244 => ((nat_mag.f k bt244.1).bind fun t250 => ((nat_mag.f k bt244.2).bind fun t251 => (some (t250, t251, true))))))))))
theorem nat_Div.mono : ∀ a0 a1 k, LeO (nat_Div.f k a0 a1) (nat_Div.f (k + 1) a0 a1) := by
 intro a0 a1 k
 unfold nat_Div.f
 repeat' first
   | (with_reducible exact nat_Cmp.mono _ _ _)
   | (with_reducible exact nat_FromUint64.mono _ _)
   | (with_reducible exact nat_Normalize.mono _ _)
   | (with_reducible exact nat_limbs.mono _ _)
   | (with_reducible exact nat_long.mono _ _ _)
   | (with_reducible exact nat_mag.mono _ _)
   | (with_reducible exact nat_short.mono _ _ _)
   | (with_reducible exact LeO.refl _)
   | (with_reducible exact LeO.none _)
   | (with_reducible refine LeO.ite ?_ ?_)
   | (with_reducible refine LeO.bind ?_ (fun _ => ?_))
   | exact nat_Cmp.mono _ _ _
   | exact nat_FromUint64.mono _ _
   | exact nat_Normalize.mono _ _
   | exact nat_limbs.mono _ _
   | exact nat_long.mono _ _ _
   | exact nat_mag.mono _ _
   | exact nat_short.mono _ _ _
   | exact LeO.none _
   | refine LeO.ite ?_ ?_
   | refine LeO.bind ?_ (fun _ => ?_)
def nat_Div.T7 : Bool × List (List Nat × List Nat) := (true, [([], []), ([0], [0]), ([], []), ([2], [2]), ([3], [3]), ([1, 4, 1], [1, 4]), ([5], [5]), ([6], [6]), ([6], [6]), ([7, 5, 0, 1, 2, 3, 4, 5, 6, 7], [7]), ([8, 9, 0, 1, 2, 3, 4, 5, 6, 7, 8, 9], [8])])
def nat_Div.B7 : List Nat := [0, 1, 0, 4, 12, 31, 63, 127, 127, 255, 1023]
theorem nat_Div.tab7 : rtab .any (opsOf Tryz.f70 7) = nat_Div.T7 := by kernel_rfl
theorem nat_Div.bits7 : waitsOk nat_Div.T7.2 nat_Div.B7 = true := by kernel_rfl
set_option maxHeartbeats 8000000 in
set_option maxRecDepth 100000 in
theorem nat_Div.calls (k : Nat) (a0 : ByteArray) (a1 : ByteArray) (r1 : ByteArray) (r2 : ByteArray) (r3 : Bool) (w : World) (h : nat_Div.f k a0 a1 = some (r1, r2, r3)) :
  Calls Tryz.prog 70 #[.string a0, .string a1] w fun e w' => e = .returned (.tuple #[.string r1, .string r2, .bool r3]) ∧ Below w.heap.size w w' := by
 have HB := Q.a (Below.refl w.heap.size w)
 have H : ((nat_limbs.f k a1).bind fun t226 => (if (t226.length : Int) = 0 then (some ((⟨#[]⟩ : ByteArray), (⟨#[]⟩ : ByteArray), false)) else ((nat_Cmp.f k a0 a1).bind fun t229 => (if t229 < 0 then ((nat_Normalize.f k a0).bind fun t230 => (some ((⟨#[]⟩ : ByteArray), t230, true))) else (if (t226.length : Int) = 1 then ((nat_limbs.f k a0).bind fun t231 => (if 0 < (t226.length : Int) then ((nat_short.f k t231 (rd t226 0)).bind fun bt235 => ((nat_mag.f k bt235.1).bind fun t239 => ((nat_FromUint64.f k (IntKind.u64.wrap (bt235.2))).bind fun t240 => (some (t239, t240, true))))) else (none))) else ((nat_limbs.f k a0).bind fun t241 => ((nat_long.f k t241 t226).bind fun bt244 => ((nat_mag.f k bt244.1).bind fun t250 => ((nat_mag.f k bt244.2).bind fun t251 => (some (t250, t251, true))))))))))) = some (r1, r2, r3) := h
 clear h
 replace H := Option.bind_eq_some_iff.mp H
 obtain ⟨t226, A30, H⟩ := H
 try dsimp only at H
 have A3 := Q.a A30
 clear A30
 by_cases c4 : (t226.length : Int) = 0
 ·rw [if_pos c4] at H
  have c4b0 : ((t226.length : Int) == 0) = true := beq_iff_eq.mpr c4
  have c4b1 : ((t226.length : Int) != 0) = false := bne_eq_false_iff_eq.mpr c4
  clear c4
  simp only [Option.some.injEq, Prod.mk.injEq] at H
  obtain ⟨rfl, rfl, rfl⟩ := H
  go_enter Tryz.func70, Tryz.ntmps70
  go_wp2_with (first | ((with_reducible refine gate_callee (f := 101) rfl ?_); refine Q.gl 13 Tryz.func101 #[.string a1] rfl rfl rfl rfl ?_; (with_reducible refine (nat_limbs.calls k a1 t226 _ A3.out).mono ?_); rintro e w5 ⟨v227, rfl, ho0, hb⟩; refine ⟨_, rfl, ?_⟩; replace HO228 := Q.a (Kd.R_lower ho0 (below_size (Q.bw HB))); replace HB := Q.a (below_step (Q.bw HB) hb); (try clear hb); (try clear ho0); obtain ⟨Ao6, co6, eo6⟩ := Kd.R_slice HO228.out; subst eo6))
  go_ret3
  exact ⟨Q.en, Q.bw HB⟩
 ·rw [if_neg c4] at H
  have c4b0 : ((t226.length : Int) == 0) = false := beq_eq_false_iff_ne.mpr c4
  have c4b1 : ((t226.length : Int) != 0) = true := bne_iff_ne.mpr c4
  have c4b2 : ¬ (t226 = []) := fun h_ => c4 (by rw [h_]; rfl)
  replace H := Option.bind_eq_some_iff.mp H
  obtain ⟨t229, A70, H⟩ := H
  try dsimp only at H
  have A7 := Q.a A70
  clear A70
  by_cases c8 : t229 < 0
  ·rw [if_pos c8] at H
   have c8b0 : decide (t229 < 0) = true := decide_eq_true c8
   clear c8
   replace H := Option.bind_eq_some_iff.mp H
   obtain ⟨t230, A90, H⟩ := H
   try dsimp only at H
   have A9 := Q.a A90
   clear A90
   simp only [Option.some.injEq, Prod.mk.injEq] at H
   obtain ⟨rfl, rfl, rfl⟩ := H
   go_enter Tryz.func70, Tryz.ntmps70
   go_wp2_with (first | ((with_reducible refine gate_callee (f := 101) rfl ?_); refine Q.gl 13 Tryz.func101 #[.string a1] rfl rfl rfl rfl ?_; (with_reducible refine (nat_limbs.calls k a1 t226 _ A3.out).mono ?_); rintro e w10 ⟨v227, rfl, ho0, hb⟩; refine ⟨_, rfl, ?_⟩; replace HO228 := Q.a (Kd.R_lower ho0 (below_size (Q.bw HB))); replace HB := Q.a (below_step (Q.bw HB) hb); (try clear hb); (try clear ho0); obtain ⟨Ao11, co11, eo11⟩ := Kd.R_slice HO228.out; subst eo11) | ((with_reducible refine gate_callee (f := 105) rfl ?_); refine Q.gl 21 Tryz.func105 #[.string a0, .string a1] rfl rfl rfl rfl ?_; (with_reducible refine (nat_Cmp.calls k a0 a1 t229 _ A7.out).mono ?_); rintro e w12 ⟨rfl, hb⟩; refine ⟨_, rfl, ?_⟩; replace HO228 := Q.a (Kd.R_below (Q.kr HO228) hb); replace HB := Q.a (below_step (Q.bw HB) hb); (try clear hb)) | ((with_reducible refine gate_callee (f := 96) rfl ?_); refine Q.gl 24 Tryz.func96 #[.string a0] rfl rfl rfl rfl ?_; (with_reducible refine (nat_Normalize.calls k a0 t230 _ A9.out).mono ?_); rintro e w13 ⟨rfl, hb⟩; refine ⟨_, rfl, ?_⟩; replace HO228 := Q.a (Kd.R_below (Q.kr HO228) hb); replace HB := Q.a (below_step (Q.bw HB) hb); (try clear hb)))
   go_ret3
   exact ⟨Q.en, Q.bw HB⟩
  ·rw [if_neg c8] at H
   have c8b0 : decide (t229 < 0) = false := decide_eq_false c8
   clear c8
   by_cases c14 : (t226.length : Int) = 1
   ·rw [if_pos c14] at H
    have c14b0 : ((t226.length : Int) == 1) = true := beq_iff_eq.mpr c14
    have c14b1 : ((t226.length : Int) != 1) = false := bne_eq_false_iff_eq.mpr c14
    clear c14
    replace H := Option.bind_eq_some_iff.mp H
    obtain ⟨t231, A150, H⟩ := H
    try dsimp only at H
    have A15 := Q.a A150
    clear A150
    by_cases c16 : 0 < (t226.length : Int)
    ·rw [if_pos c16] at H
     have c16b0 : decide (0 < (t226.length : Int)) = true := decide_eq_true c16
     have c16b1 : decide (0 < t226.length) = true := decide_eq_true (by omega)
     clear c16
     replace H := Option.bind_eq_some_iff.mp H
     obtain ⟨⟨t235, t236⟩, A170, H⟩ := H
     try dsimp only at H
     have A17 := Q.a A170
     clear A170
     replace H := Option.bind_eq_some_iff.mp H
     obtain ⟨t239, A180, H⟩ := H
     try dsimp only at H
     have A18 := Q.a A180
     clear A180
     replace H := Option.bind_eq_some_iff.mp H
     obtain ⟨t240, A190, H⟩ := H
     try dsimp only at H
     have A19 := Q.a A190
     clear A190
     simp only [Option.some.injEq, Prod.mk.injEq] at H
     obtain ⟨rfl, rfl, rfl⟩ := H
     go_enter Tryz.func70, Tryz.ntmps70
     try go_wp2_with (first | ((with_reducible refine gate_callee (f := 101) rfl ?_); refine Q.gl 13 Tryz.func101 #[.string a1] rfl rfl rfl rfl ?_; (with_reducible refine (nat_limbs.calls k a1 t226 _ A3.out).mono ?_); rintro e w20 ⟨v227, rfl, ho0, hb⟩; refine ⟨_, rfl, ?_⟩; replace HO228 := Q.a (Kd.R_lower ho0 (below_size (Q.bw HB))); replace HB := Q.a (below_step (Q.bw HB) hb); (try clear hb); (try clear ho0); obtain ⟨Ao21, co21, eo21⟩ := Kd.R_slice HO228.out; subst eo21) | ((with_reducible refine gate_callee (f := 105) rfl ?_); refine Q.gl 21 Tryz.func105 #[.string a0, .string a1] rfl rfl rfl rfl ?_; (with_reducible refine (nat_Cmp.calls k a0 a1 t229 _ A7.out).mono ?_); rintro e w22 ⟨rfl, hb⟩; refine ⟨_, rfl, ?_⟩; replace HO228 := Q.a (Kd.R_below (Q.kr HO228) hb); replace HB := Q.a (below_step (Q.bw HB) hb); (try clear hb)))
     replace HO228 := Q.a (Kd.R_drew HO228.out)
     replace HB := Q.a (below_drew1 HB.out)
     have p234 : 0 ≤ (0 : Int) := (by omega)
     have q234 : 0 < (t226.length : Int) := of_decide_eq_true (by first | (with_reducible assumption) | assumption)
     obtain ⟨ad234, e234, hx234_0⟩ := Kd.at_int (Kd.R_reads' HO228.out).2.2 0 p234 q234
     cases e234
     have qi234 : (0 < t226.length) = True := eq_true (by omega)
     (try rw [show ((0 : Int)).toNat = 0 from rfl] at hx234_0)
     (try rw [Addr.add_zero'] at hx234_0)
     replace p234 := eq_true p234
     replace q234 := eq_true q234
     refine start_ (n := 11) (S := fun w' => w'.cell? ad234 = some (.int .u32 (rd t226 0))) (ds := []) #[false, false, false, false, false, false, false, false, false, false, false] (by kernel_rfl) rfl rfl (hx234_0) (fun hHeld => ?_); refine with_tabW nat_Div.tab7 nat_Div.bits7 (fun HT_ HW_ => ?_)
     generalize w22.drew = w23 at HO228 HB hx234_0 hHeld ⊢
     refine pure_ (i := 0) (N := some 30) (v := ?_) (a' := ?_) #[true, false, false, false, false, false, false, false, false, false, false] rfl rfl (any_of HT_.out (by kernel_rfl)) (fun _ _ _ h => h) (Or.inl ⟨by rfl, ?_⟩) ?_ ?_
     rotate_left
     ·intro w'
      go_simp
      with_reducible rfl
     rotate_left
     ·simp only [Act.put, List.setIfInBounds_toArray, List.set_cons_zero, List.set_cons_succ, i64_w, i32_w]
      rfl
     refine pure_ (i := 2) (N := some 32) (v := ?_) (a' := ?_) #[true, false, true, false, false, false, false, false, false, false, false] rfl rfl (any_of HT_.out (by kernel_rfl)) (fun _ _ _ h => h) (Or.inl ⟨by rfl, ?_⟩) ?_ ?_
     rotate_left
     ·intro w'
      go_simp
      with_reducible rfl
     rotate_left
     ·simp only [Act.put, List.setIfInBounds_toArray, List.set_cons_zero, List.set_cons_succ, i64_w, i32_w]
      rfl
     refine pure_ (i := 3) (N := some 33) (v := ?_) (a' := ?_) #[true, false, true, true, false, false, false, false, false, false, false] rfl rfl (any_of HT_.out (by kernel_rfl)) (fun _ _ _ h => h) (Or.inl ⟨by rfl, ?_⟩) ?_ ?_
     rotate_left
     ·intro w'
      go_simp
      with_reducible rfl
     rotate_left
     ·simp only [Act.put, List.setIfInBounds_toArray, List.set_cons_zero, List.set_cons_succ, i64_w, i32_w]
      rfl
     refine take_ (i := 4) (N := some 34) (v := ?_) (a' := ?_) #[true, false, true, true, true, false, false, false, false, false, false] rfl rfl (take_ofW HT_.out HW_.out (by kernel_rfl)) (fun _ _ _ h => h) (Or.inl ⟨by rfl, ?_⟩) hHeld ?_ ?_
     rotate_left
     ·intro w' s0
      go_simp
      with_reducible rfl
     rotate_left
     ·simp only [Act.put, List.setIfInBounds_toArray, List.set_cons_zero, List.set_cons_succ, i64_w, i32_w]
      rfl
     refine one_ (i := 1) (N := some 31) #[true, true, true, true, true, false, false, false, false, false, false] rfl rfl (one_of HT_.out (by kernel_rfl)) (by decide) (fun K hK => ?_)
     refine goes_ Tryz.func101 (by kernel_rfl) rfl #[.string a0] (by rfl) rfl rfl (by (try simp only [List.map_toArray, List.map_cons, List.map_nil]); first | done | rfl | (simp only [List.length_drop, List.length_take]; rfl)) ?_
     with_reducible refine (nat_limbs.calls k a0 t231 _ A15.out).mono ?_
     rintro e w24 ⟨v232, rfl, ho0, hb⟩
     have HS0_ := (hb.cell (World.block_lt_of_cell? _ _ (hHeld))).trans (hHeld)
     refine ⟨_, rfl, ?_⟩
     replace HO233 := Q.a (Kd.R_lower (Kd.R_new' ho0 (Kd.R_lt (Q.kr HO228))) (below_size (Q.bw HB)))
     replace HO228 := Q.a (Kd.R_elder' (Q.kr HO228) (Kd.R_base ho0) hb)
     replace HB := Q.a (below_step (Q.bw HB) hb)
     (try clear hb)
     (try clear hb2)
     (try clear hk)
     (try clear hi)
     (try clear ho0)
     obtain ⟨Ao25, co25, eo25⟩ := Kd.R_slice HO233.out
     (first | subst eo25 | (injection eo25 with f1_ f2_ f3_; have f4_ := f1_.symm; have f5_ := f3_.symm; clear f1_ f2_ f3_; subst f4_; subst f5_))
     refine hK.out _ _ (HS0_) (fun hHeld => ?_)
     clear hK K
     refine norm_ (a' := ?_) ?_ ?_
     rotate_left
     ·show Act.put _ (some 31) _ = _
      simp only [Act.put, List.setIfInBounds_toArray, List.set_cons_zero, List.set_cons_succ, i64_w, i32_w]
      rfl
     refine one_ (i := 5) (N := some 35) #[true, true, true, true, true, true, false, false, false, false, false] rfl rfl (one_of HT_.out (by kernel_rfl)) (by decide) (fun K hK => ?_)
     refine goes_ Tryz.func102 (by kernel_rfl) rfl #[.slice Ao25 t231.length co25, .int .u32 (rd t226 0)] (by rfl) rfl rfl (by (try simp only [List.map_toArray, List.map_cons, List.map_nil]); first | done | rfl | (simp only [List.length_drop, List.length_take]; rfl)) ?_
     with_reducible refine (nat_short.calls k _ _ t231 (rd t226 0) t235 t236 _ ?side1 ?side2 A17.out).mono ?_
     (case side1 => repeat (first | exact (Kd.R_reads' HO233.out).2.2 | (with_reducible refine Kd.C_alloc ?_ _) | (with_reducible refine Kd.C_drewN ?_ _) | (with_reducible refine Kd.C_drew ?_)))
     (case side2 => exact (Kd.R_reads' HO233.out).2.1)
     rintro e w26 ⟨v237, rfl, ho0, hb⟩
     have HS0_ := (hb.cell (World.block_lt_of_cell? _ _ (hHeld))).trans (hHeld)
     refine ⟨_, rfl, ?_⟩
     replace HO238 := Q.a (Kd.R_lower (Kd.R_new' (Kd.R_new' ho0 (Kd.R_lt (Q.kr HO228))) (Kd.R_lt (Q.kr HO233))) (below_size (Q.bw HB)))
     replace HO228 := Q.a (Kd.R_elder' (Q.kr HO228) (Kd.R_base ho0) hb)
     replace HO233 := Q.a (Kd.R_elder' (Q.kr HO233) (Kd.R_base ho0) hb)
     replace HB := Q.a (below_step (Q.bw HB) hb)
     (try clear hb)
     (try clear hb2)
     (try clear hk)
     (try clear hi)
     (try clear ho0)
     refine hK.out _ _ (HS0_) (fun hHeld => ?_)
     clear hK K
     refine norm_ (a' := ?_) ?_ ?_
     rotate_left
     ·show Act.put _ (some 35) _ = _
      simp only [Act.put, List.setIfInBounds_toArray, List.set_cons_zero, List.set_cons_succ, i64_w, i32_w]
      rfl
     refine pure_ (i := 6) (N := some 29) (v := ?_) (a' := ?_) #[true, true, true, true, true, true, true, false, false, false, false] rfl rfl (any_of HT_.out (by kernel_rfl)) (fun _ _ _ h => h) (Or.inl ⟨by rfl, ?_⟩) ?_ ?_
     rotate_left
     ·intro w'
      go_simp
      with_reducible rfl
     rotate_left
     ·simp only [Act.put, List.setIfInBounds_toArray, List.set_cons_zero, List.set_cons_succ, i64_w, i32_w]
      rfl
     refine pure_ (i := 7) (N := some 36) (v := ?_) (a' := ?_) #[true, true, true, true, true, true, true, true, false, false, false] rfl rfl (any_of HT_.out (by kernel_rfl)) (fun _ _ _ h => h) (Or.inl ⟨by rfl, ?_⟩) ?_ ?_
     rotate_left
     ·intro w'
      go_simp
      with_reducible rfl
     rotate_left
     ·simp only [Act.put, List.setIfInBounds_toArray, List.set_cons_zero, List.set_cons_succ, i64_w, i32_w]
      rfl
     refine pure_ (i := 8) (N := some 37) (v := ?_) (a' := ?_) #[true, true, true, true, true, true, true, true, true, false, false] rfl rfl (any_of HT_.out (by kernel_rfl)) (fun _ _ _ h => h) (Or.inl ⟨by rfl, ?_⟩) ?_ ?_
     rotate_left
     ·intro w'
      go_simp
      with_reducible rfl
     rotate_left
     ·simp only [Act.put, List.setIfInBounds_toArray, List.set_cons_zero, List.set_cons_succ, i64_w, i32_w]
      rfl
     refine pure_ (i := 9) (N := some 8) (v := ?_) (a' := ?_) #[true, true, true, true, true, true, true, true, true, true, false] rfl rfl (any_of HT_.out (by kernel_rfl)) (fun _ _ _ h => h) (Or.inl ⟨by rfl, ?_⟩) ?_ ?_
     rotate_left
     ·intro w'
      go_simp
      with_reducible rfl
     rotate_left
     ·simp only [Act.put, List.setIfInBounds_toArray, List.set_cons_zero, List.set_cons_succ, i64_w, i32_w]
      rfl
     refine pure_ (i := 10) (N := some 9) (v := ?_) (a' := ?_) #[true, true, true, true, true, true, true, true, true, true, true] rfl rfl (any_of HT_.out (by kernel_rfl)) (fun _ _ _ h => h) (Or.inl ⟨by rfl, ?_⟩) ?_ ?_
     rotate_left
     ·intro w'
      go_simp
      with_reducible rfl
     rotate_left
     ·simp only [Act.put, List.setIfInBounds_toArray, List.set_cons_zero, List.set_cons_succ, i64_w, i32_w]
      rfl
     refine done_ (done_of HT_.out (by kernel_rfl)) ?_
     obtain ⟨Ao27, co27, eo27⟩ := Kd.R_slice HO238.out
     subst eo27
     try go_wp2_with (first | ((with_reducible refine gate_callee (f := 106) rfl ?_); refine Q.gl 39 Tryz.func106 #[.slice Ao27 t235.length co27] rfl rfl rfl rfl ?_; (with_reducible refine (nat_mag.calls k _ _ t235 t239 _ ?side1 ?side2 A18.out).mono ?_); (case side1 => repeat (first | exact (Kd.R_reads' HO238.out).2.2 | (with_reducible refine Kd.C_alloc ?_ _) | (with_reducible refine Kd.C_drewN ?_ _) | (with_reducible refine Kd.C_drew ?_))); (case side2 => exact (Kd.R_reads' HO238.out).2.1); rintro e w28 ⟨rfl, hb⟩; refine ⟨_, rfl, ?_⟩; replace HO228 := Q.a (Kd.R_below (Q.kr HO228) hb); replace HO233 := Q.a (Kd.R_below (Q.kr HO233) hb); replace HO238 := Q.a (Kd.R_below (Q.kr HO238) hb); replace HB := Q.a (below_step (Q.bw HB) hb); (try clear hb)) | ((with_reducible refine gate_callee (f := 89) rfl ?_); refine Q.gl 42 Tryz.func89 #[.int .u64 (IntKind.u64.wrap (t236))] rfl rfl rfl rfl ?_; (with_reducible refine (nat_FromUint64.calls k (IntKind.u64.wrap (t236)) t240 _ A19.out).mono ?_); rintro e w29 ⟨rfl, hb⟩; refine ⟨_, rfl, ?_⟩; replace HO228 := Q.a (Kd.R_below (Q.kr HO228) hb); replace HO233 := Q.a (Kd.R_below (Q.kr HO233) hb); replace HO238 := Q.a (Kd.R_below (Q.kr HO238) hb); replace HB := Q.a (below_step (Q.bw HB) hb); (try clear hb)))
     go_ret3
     exact ⟨Q.en, Q.bw HB⟩
    ·rw [if_neg c16] at H
     exact absurd H (by simp)
   ·rw [if_neg c14] at H
    have c14b0 : ((t226.length : Int) == 1) = false := beq_eq_false_iff_ne.mpr c14
    have c14b1 : ((t226.length : Int) != 1) = true := bne_iff_ne.mpr c14
    replace H := Option.bind_eq_some_iff.mp H
    obtain ⟨t241, A300, H⟩ := H
    try dsimp only at H
    have A30 := Q.a A300
    clear A300
    replace H := Option.bind_eq_some_iff.mp H
    obtain ⟨⟨t244, t245⟩, A310, H⟩ := H
    try dsimp only at H
    have A31 := Q.a A310
    clear A310
    replace H := Option.bind_eq_some_iff.mp H
    obtain ⟨t250, A320, H⟩ := H
    try dsimp only at H
    have A32 := Q.a A320
    clear A320
    replace H := Option.bind_eq_some_iff.mp H
    obtain ⟨t251, A330, H⟩ := H
    try dsimp only at H
    have A33 := Q.a A330
    clear A330
    simp only [Option.some.injEq, Prod.mk.injEq] at H
    obtain ⟨rfl, rfl, rfl⟩ := H
    go_enter Tryz.func70, Tryz.ntmps70
    go_wp2_with (first | ((with_reducible refine gate_callee (f := 101) rfl ?_); refine Q.gl 13 Tryz.func101 #[.string a1] rfl rfl rfl rfl ?_; (with_reducible refine (nat_limbs.calls k a1 t226 _ A3.out).mono ?_); rintro e w34 ⟨v227, rfl, ho0, hb⟩; refine ⟨_, rfl, ?_⟩; replace HO228 := Q.a (Kd.R_lower ho0 (below_size (Q.bw HB))); replace HB := Q.a (below_step (Q.bw HB) hb); (try clear hb); (try clear ho0); obtain ⟨Ao35, co35, eo35⟩ := Kd.R_slice HO228.out; subst eo35) | ((with_reducible refine gate_callee (f := 105) rfl ?_); refine Q.gl 21 Tryz.func105 #[.string a0, .string a1] rfl rfl rfl rfl ?_; (with_reducible refine (nat_Cmp.calls k a0 a1 t229 _ A7.out).mono ?_); rintro e w36 ⟨rfl, hb⟩; refine ⟨_, rfl, ?_⟩; replace HO228 := Q.a (Kd.R_below (Q.kr HO228) hb); replace HB := Q.a (below_step (Q.bw HB) hb); (try clear hb)) | ((with_reducible refine gate_callee (f := 101) rfl ?_); refine Q.gl 45 Tryz.func101 #[.string a0] rfl rfl rfl rfl ?_; (with_reducible refine (nat_limbs.calls k a0 t241 _ A30.out).mono ?_); rintro e w37 ⟨v242, rfl, ho0, hb⟩; refine ⟨_, rfl, ?_⟩; replace HO243 := Q.a (Kd.R_lower (Kd.R_new' ho0 (Kd.R_lt (Q.kr HO228))) (below_size (Q.bw HB))); replace HO228 := Q.a (Kd.R_elder' (Q.kr HO228) (Kd.R_base ho0) hb); replace HB := Q.a (below_step (Q.bw HB) hb); (try clear hb); (try clear ho0); obtain ⟨Ao38, co38, eo38⟩ := Kd.R_slice HO243.out; subst eo38) | ((with_reducible refine gate_callee (f := 107) rfl ?_); refine Q.gl 47 Tryz.func107 #[.slice Ao38 t241.length co38, .slice Ao35 t226.length co35] rfl rfl rfl rfl ?_; (with_reducible refine (nat_long.calls k _ _ t241 _ _ t226 t244 t245 _ ?side1 ?side2 ?side3 ?side4 A31.out).mono ?_); (case side1 => repeat (first | exact (Kd.R_reads' HO243.out).2.2 | (with_reducible refine Kd.C_alloc ?_ _) | (with_reducible refine Kd.C_drewN ?_ _) | (with_reducible refine Kd.C_drew ?_))); (case side2 => exact (Kd.R_reads' HO243.out).2.1); (case side3 => repeat (first | exact (Kd.R_reads' HO228.out).2.2 | (with_reducible refine Kd.C_alloc ?_ _) | (with_reducible refine Kd.C_drewN ?_ _) | (with_reducible refine Kd.C_drew ?_))); (case side4 => exact (Kd.R_reads' HO228.out).2.1); rintro e w39 ⟨v246, v248, rfl, ho0, ho1, hb⟩; refine ⟨_, rfl, ?_⟩; replace HO247 := Q.a (Kd.R_lower (Kd.R_new' (Kd.R_new' ho0 (Kd.R_lt (Q.kr HO228))) (Kd.R_lt (Q.kr HO243))) (below_size (Q.bw HB))); replace HO249 := Q.a (Kd.R_lower (Kd.R_new' (Kd.R_new' ho1 (Kd.R_lt (Q.kr HO228))) (Kd.R_lt (Q.kr HO243))) (below_size (Q.bw HB))); replace HO228 := Q.a (Kd.R_mono (Kd.R_told (Kd.R_told (Kd.R_old (Q.kr HO228) hb) (Kd.R_base ho0)) (Kd.R_base ho1)) (fun _ h_ => h_.1)); replace HO243 := Q.a (Kd.R_mono (Kd.R_told (Kd.R_told (Kd.R_old (Q.kr HO243) hb) (Kd.R_base ho0)) (Kd.R_base ho1)) (fun _ h_ => h_.1)); replace HB := Q.a (below_step (Q.bw HB) hb); (try clear hb); (try clear ho0); (try clear ho1); obtain ⟨Ao40, co40, eo40⟩ := Kd.R_slice HO247.out; subst eo40) | ((with_reducible refine gate_callee (f := 106) rfl ?_); refine Q.gl 51 Tryz.func106 #[.slice Ao40 t244.length co40] rfl rfl rfl rfl ?_; (with_reducible refine (nat_mag.calls k _ _ t244 t250 _ ?side1 ?side2 A32.out).mono ?_); (case side1 => repeat (first | exact (Kd.R_reads' HO247.out).2.2 | (with_reducible refine Kd.C_alloc ?_ _) | (with_reducible refine Kd.C_drewN ?_ _) | (with_reducible refine Kd.C_drew ?_))); (case side2 => exact (Kd.R_reads' HO247.out).2.1); rintro e w41 ⟨rfl, hb⟩; refine ⟨_, rfl, ?_⟩; replace HO228 := Q.a (Kd.R_below (Q.kr HO228) hb); replace HO243 := Q.a (Kd.R_below (Q.kr HO243) hb); replace HO247 := Q.a (Kd.R_below (Q.kr HO247) hb); replace HO249 := Q.a (Kd.R_below (Q.kr HO249) hb); replace HB := Q.a (below_step (Q.bw HB) hb); (try clear hb); obtain ⟨Ao42, co42, eo42⟩ := Kd.R_slice HO249.out; subst eo42) | ((with_reducible refine gate_callee (f := 106) rfl ?_); refine Q.gl 53 Tryz.func106 #[.slice Ao42 t245.length co42] rfl rfl rfl rfl ?_; (with_reducible refine (nat_mag.calls k _ _ t245 t251 _ ?side1 ?side2 A33.out).mono ?_); (case side1 => repeat (first | exact (Kd.R_reads' HO249.out).2.2 | (with_reducible refine Kd.C_alloc ?_ _) | (with_reducible refine Kd.C_drewN ?_ _) | (with_reducible refine Kd.C_drew ?_))); (case side2 => exact (Kd.R_reads' HO249.out).2.1); rintro e w43 ⟨rfl, hb⟩; refine ⟨_, rfl, ?_⟩; replace HO228 := Q.a (Kd.R_below (Q.kr HO228) hb); replace HO243 := Q.a (Kd.R_below (Q.kr HO243) hb); replace HO247 := Q.a (Kd.R_below (Q.kr HO247) hb); replace HO249 := Q.a (Kd.R_below (Q.kr HO249) hb); replace HB := Q.a (below_step (Q.bw HB) hb); (try clear hb)))
    go_ret3
    exact ⟨Q.en, Q.bw HB⟩
end Go.Proofs.YtliabkapejhohaaGreatDoor.P
