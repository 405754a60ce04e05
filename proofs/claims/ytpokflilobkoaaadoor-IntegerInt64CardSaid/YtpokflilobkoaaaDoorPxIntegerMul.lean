/- Out of what mp.py printed for this seat (squeeze.py, repack.py). Not trusted: Lean checks it. -/
import Derived.Test.YtpokflilobkoaaaDoorPx0
import Derived.Test.YtpokflilobkoaaaDoorPxIA
import Derived.Test.YtpokflilobkoaaaDoorPxNatMul
import Derived.Test.YtpokflilobkoaaaDoorXQ
-- squeezed twice
namespace Go.Proofs.YtpokflilobkoaaaDoor.P
open Go.RowKit Go.Proofs.YtpokflilobkoaaaDoorW.PrintWords Go.Proofs.YtpokflilobkoaaaDoorW.PrintLast Go.Proofs.YtpokflilobkoaaaDoorW.PrintMore
attribute [local go_sem] max2_int min2_int max_two min_two max_three min_three max_four min_four   -- for this text's walks alone
attribute [local go_sem] XW.cell_twice   -- for this text's walks alone
set_option linter.unusedVariables false
set_option linter.unusedSimpArgs false

/-! ### integer_Mul: function 40 -/
def integer_Mul.f (k : Nat) (a0_0 : Bool) (a0_1 : ByteArray) (a1_0 : Bool) (a1_1 : ByteArray) : Option (Bool × ByteArray) := (integer_Normalize.f k a0_0 a0_1).bind fun bt610 => ((integer_Normalize.f k a1_0 a1_1).bind fun bt612 => ((nat_Mul.f k bt610.2 bt612.2).bind fun t614 => ((integer_of.f (bt610.1 != bt612.1) t614).bind fun bt615 => (some (bt615.1, bt615.2)))))
theorem integer_Mul.mono : ∀ a0 a1 a2 a3 k, LeO (integer_Mul.f k a0 a1 a2 a3) (integer_Mul.f (k + 1) a0 a1 a2 a3) := by
 intro a0 a1 a2 a3 k
 unfold integer_Mul.f
 repeat' first
   | (with_reducible exact integer_Normalize.mono _ _ _)
   | (with_reducible exact nat_Mul.mono _ _ _)
   | (with_reducible exact LeO.refl _)
   | (with_reducible exact LeO.none _)
   | (with_reducible refine LeO.ite ?_ ?_)
   | (with_reducible refine LeO.bind ?_ (fun _ => ?_))
   | exact integer_Normalize.mono _ _ _
   | exact nat_Mul.mono _ _ _
   | exact LeO.none _
   | refine LeO.ite ?_ ?_
   | refine LeO.bind ?_ (fun _ => ?_)
def integer_Mul.T2 : Bool × List (List Nat × List Nat) := (true, [([], []), ([0], [0]), ([], []), ([2], [2]), ([1, 3], [1, 3]), ([], []), ([5], [5]), ([], []), ([7], [7]), ([6, 8], [6, 8]), ([4, 9, 9], [4, 9]), ([10, 10, 0, 1, 2, 3, 4, 5, 6, 7, 8, 9, 10], [10])])
def integer_Mul.B2 : List Nat := [0, 1, 0, 4, 15, 0, 32, 0, 128, 480, 1023, 2047]
theorem integer_Mul.tab2 : rtab .any (opsOf Tryd.f40 2) = integer_Mul.T2 := by kernel_rfl
theorem integer_Mul.bits2 : waitsOk integer_Mul.T2.2 integer_Mul.B2 = true := by kernel_rfl
set_option maxHeartbeats 8000000 in
set_option maxRecDepth 100000 in
theorem integer_Mul.calls (k : Nat) (a0_0 : Bool) (a0_1 : ByteArray) (a1_0 : Bool) (a1_1 : ByteArray) (r1 : Bool) (r2 : ByteArray) (w : World) (h : integer_Mul.f k a0_0 a0_1 a1_0 a1_1 = some (r1, r2)) :
  Calls Tryd.prog 40 #[.agg #[.bool a0_0, .string a0_1], .agg #[.bool a1_0, .string a1_1]] w fun e w' => e = .returned (.agg #[.bool r1, .string r2]) ∧ Below w.heap.size w w' := by
 have hu36 := Tryd.underlying36
 have HB := Q.a (Below.refl w.heap.size w)
 have H : ((integer_Normalize.f k a0_0 a0_1).bind fun bt610 => ((integer_Normalize.f k a1_0 a1_1).bind fun bt612 => ((nat_Mul.f k bt610.2 bt612.2).bind fun t614 => ((integer_of.f (bt610.1 != bt612.1) t614).bind fun bt615 => (some (bt615.1, bt615.2)))))) = some (r1, r2) := h
 clear h
 replace H := Option.bind_eq_some_iff.mp H
 obtain ⟨⟨t610, t611⟩, A30, H⟩ := H
 try dsimp only at H
 have A3 := Q.a A30
 clear A30
 replace H := Option.bind_eq_some_iff.mp H
 obtain ⟨⟨t612, t613⟩, A40, H⟩ := H
 try dsimp only at H
 have A4 := Q.a A40
 clear A40
 replace H := Option.bind_eq_some_iff.mp H
 obtain ⟨t614, A50, H⟩ := H
 try dsimp only at H
 have A5 := Q.a A50
 clear A50
 replace H := Option.bind_eq_some_iff.mp H
 obtain ⟨⟨t615, t616⟩, A60, H⟩ := H
 try dsimp only at H
 have A6 := Q.a A60
 clear A60
 simp only [Option.some.injEq, Prod.mk.injEq] at H
 obtain ⟨rfl, rfl⟩ := H
 go_enter Tryd.func40, Tryd.ntmps40
 try go_wp2_with (first | ((with_reducible refine gate_dst (N := 2) rfl ?_); refine Q.bx 2 #[.bool a0_0, .string a0_1] 36 rfl rfl ?_; intro gb607 hg w7 hbox hb; replace BK607 := Q.a (hbox); replace GW607 := Q.a (Q.gs hg (below_size (Q.bw HB))); replace GE607 := GW607; replace HB := Q.a (below_step (Q.bw HB) hb); clear hb hbox hg) | ((with_reducible refine gate_dst (N := 3) rfl ?_); refine Q.bx 3 #[.bool a1_0, .string a1_1] 36 rfl rfl ?_; intro gb608 hg w8 hbox hb; replace BK608 := Q.a (hbox); replace GW608 := Q.a (Q.gs hg (below_size (Q.bw1 HB GE607))); replace GE608 := GW608; replace HB := Q.a (below_step (Q.bw1 HB GE607) hb); replace NB607_608 := Q.a (Q.nl hg BK607); replace NB608_607 := Q.a (Q.ng hg BK607); replace BK607 := Q.a (Q.bb BK607 hb); clear hb hbox hg) | ((with_reducible refine gate_dst (N := 4) rfl ?_); refine Q.bx 4 #[.bool false, .string (⟨#[]⟩ : ByteArray)] 36 rfl rfl ?_; intro gb609 hg w9 hbox hb; replace BK609 := Q.a (hbox); replace GW609 := Q.a (Q.gs hg (below_size (Q.bw2 HB GE607 GE608))); replace GE609 := GW609; replace HB := Q.a (below_step (Q.bw2 HB GE607 GE608) hb); replace NB607_609 := Q.a (Q.nl hg BK607); replace NB609_607 := Q.a (Q.ng hg BK607); replace BK607 := Q.a (Q.bb BK607 hb); replace NB608_609 := Q.a (Q.nl hg BK608); replace NB609_608 := Q.a (Q.ng hg BK608); replace BK608 := Q.a (Q.bb BK608 hb); clear hb hbox hg))
 replace BK607 := Q.a (blk_drew BK607.out)
 replace BK608 := Q.a (blk_drew BK608.out)
 replace BK609 := Q.a (blk_drew BK609.out)
 replace HB := Q.a (below_drew1 HB.out)
 refine start_ (n := 6) (S := fun w' => w'.cell? ⟨gb607, 0, none⟩ = some (.bool a0_0) ∧ w'.cell? ⟨gb607, 1, none⟩ = some (.string a0_1) ∧ w'.cell? ⟨gb608, 0, none⟩ = some (.bool a1_0) ∧ w'.cell? ⟨gb608, 1, none⟩ = some (.string a1_1)) (ds := [4, 5]) #[false, false, false, false, false, false] (by kernel_rfl) rfl rfl ⟨(blk_cell BK607.out 0).trans rfl, (blk_cell BK607.out 1).trans rfl, (blk_cell BK608.out 0).trans rfl, (blk_cell BK608.out 1).trans rfl⟩ (fun hHeld => ?_)
 generalize w9.drew = w10 at BK607 BK608 BK609 HB hHeld ⊢
 refine take_ (i := 0) (N := some 5) (v := ?_) (a' := ?_) #[true, false, false, false, false, false] rfl rfl (by kernel_rfl) (fun _ _ _ h => h) (Or.inl ⟨by rfl, ?_⟩) hHeld ?_ ?_
 rotate_left
 ·rintro w' ⟨s0, s1, s2, s3⟩
  go_simp
  with_reducible rfl
 rotate_left
 ·simp only [Act.put, List.setIfInBounds_toArray, List.set_cons_zero, List.set_cons_succ, i64_w, i32_w]
  rfl
 refine take_ (i := 2) (N := some 7) (v := ?_) (a' := ?_) #[true, false, true, false, false, false] rfl rfl (by kernel_rfl) (fun _ _ _ h => h) (Or.inl ⟨by rfl, ?_⟩) hHeld ?_ ?_
 rotate_left
 ·rintro w' ⟨s0, s1, s2, s3⟩
  go_simp
  with_reducible rfl
 rotate_left
 ·simp only [Act.put, List.setIfInBounds_toArray, List.set_cons_zero, List.set_cons_succ, i64_w, i32_w]
  rfl
 refine one_ (i := 1) (N := some 6) #[true, true, true, false, false, false] rfl rfl (by kernel_rfl) (by decide) (fun K hK => ?_)
 refine goes_ Tryd.func52 (by kernel_rfl) rfl #[.agg #[.bool a0_0, .string a0_1]] (by rfl) rfl rfl (by (try simp only [List.map_toArray, List.map_cons, List.map_nil]); first | done | rfl | (simp only [List.length_drop, List.length_take]; rfl)) ?_
 with_reducible refine (integer_Normalize.calls k a0_0 a0_1 t610 t611 _ A3.out).mono ?_
 rintro e w11 ⟨rfl, hb⟩
 refine ⟨_, rfl, ?_⟩
 replace BK607 := Q.a (Q.bb BK607 hb)
 replace BK608 := Q.a (Q.bb BK608 hb)
 replace BK609 := Q.a (Q.bb BK609 hb)
 replace HB := Q.a (below_step (Q.bw3 HB GE607 GE608 GE609) hb)
 (try clear hb)
 (try clear hb2)
 (try clear hk)
 (try clear hi)
 refine hK.out _ _ ⟨(blk_cell BK607.out 0).trans rfl, (blk_cell BK607.out 1).trans rfl, (blk_cell BK608.out 0).trans rfl, (blk_cell BK608.out 1).trans rfl⟩ (fun hHeld => ?_)
 clear hK K
 refine norm_ (a' := ?_) ?_ ?_
 rotate_left
 ·show Act.put _ (some 6) _ = _
  simp only [Act.put, List.setIfInBounds_toArray, List.set_cons_zero, List.set_cons_succ, i64_w, i32_w]
  rfl
 refine one_ (i := 3) (N := some 8) #[true, true, true, true, false, false] rfl rfl (by kernel_rfl) (by decide) (fun K hK => ?_)
 refine goes_ Tryd.func52 (by kernel_rfl) rfl #[.agg #[.bool a1_0, .string a1_1]] (by rfl) rfl rfl (by (try simp only [List.map_toArray, List.map_cons, List.map_nil]); first | done | rfl | (simp only [List.length_drop, List.length_take]; rfl)) ?_
 with_reducible refine (integer_Normalize.calls k a1_0 a1_1 t612 t613 _ A4.out).mono ?_
 rintro e w12 ⟨rfl, hb⟩
 refine ⟨_, rfl, ?_⟩
 replace BK607 := Q.a (Q.bb BK607 hb)
 replace BK608 := Q.a (Q.bb BK608 hb)
 replace BK609 := Q.a (Q.bb BK609 hb)
 replace HB := Q.a (below_step (Q.bw3 HB GE607 GE608 GE609) hb)
 (try clear hb)
 (try clear hb2)
 (try clear hk)
 (try clear hi)
 refine hK.out _ _ ⟨(blk_cell BK607.out 0).trans rfl, (blk_cell BK607.out 1).trans rfl, (blk_cell BK608.out 0).trans rfl, (blk_cell BK608.out 1).trans rfl⟩ (fun hHeld => ?_)
 clear hK K
 refine norm_ (a' := ?_) ?_ ?_
 rotate_left
 ·show Act.put _ (some 8) _ = _
  simp only [Act.put, List.setIfInBounds_toArray, List.set_cons_zero, List.set_cons_succ, i64_w, i32_w]
  rfl
 refine last_ (i := 4) (N := none) #[true, true, true, true, true, false] rfl rfl (by kernel_rfl) (by decide) (fun K hK => ?_)
 have hs13 : w12.cell? ⟨gb607, 0, none⟩ = some (.bool a0_0) := (blk_cell BK607.out 0).trans rfl
 have hfs13 := blk_frozen BK607.out 0
 have hns13_1 := NB608_607.out
 have hns13_2 := NB609_607.out
 have hms13_1 := NB607_608.out
 have hms13_2 := NB607_609.out
 have hs14 : w12.cell? ⟨gb607, 1, none⟩ = some (.string a0_1) := (blk_cell BK607.out 1).trans rfl
 have hfs14 := blk_frozen BK607.out 1
 have hns14_1 := NB608_607.out
 have hns14_2 := NB609_607.out
 have hms14_1 := NB607_608.out
 have hms14_2 := NB607_609.out
 refine skip_ (w1 := ?_) (by rfl) rfl ?_ ?_
 rotate_left
 ·go_simp
  rfl
 refine hK.out _ _ ?_
 clear hK K
 refine last_ (i := 5) (N := none) #[true, true, true, true, true, true] rfl rfl (by kernel_rfl) (by decide) (fun K hK => ?_)
 have hs15 : w12.cell? ⟨gb608, 0, none⟩ = some (.bool a1_0) := (blk_cell BK608.out 0).trans rfl
 have hfs15 := blk_frozen BK608.out 0
 have hns15_0 := NB607_608.out
 have hns15_2 := NB609_608.out
 have hms15_0 := NB608_607.out
 have hms15_2 := NB608_609.out
 have hs16 : w12.cell? ⟨gb608, 1, none⟩ = some (.string a1_1) := (blk_cell BK608.out 1).trans rfl
 have hfs16 := blk_frozen BK608.out 1
 have hns16_0 := NB607_608.out
 have hns16_2 := NB609_608.out
 have hms16_0 := NB608_607.out
 have hms16_2 := NB608_609.out
 refine skip_ (w1 := ?_) (by rfl) rfl ?_ ?_
 rotate_left
 ·go_simp
  rfl
 refine hK.out _ _ ?_
 clear hK K
 refine done_ (by kernel_rfl) ?_
 try go_wp2
 have n0_ : Aside0 (((((w12.setCell ⟨gb607, 0, none⟩ (.bool t610)).setCell ⟨gb607, 1, none⟩ (.string t611)).setCell ⟨gb608, 0, none⟩ (.bool t612)).setCell ⟨gb608, 1, none⟩ (.string t613)).heap[gb607]? = some (.cells #[.bool t610, .string t611] 36 (0, 0))) := ⟨by (with_reducible repeat (first | refine blk_drewN ?_ _ | refine blk_drew ?_ | refine blk_alloc ?_ _)); refine blk_far ?_ NB607_608.out _; (with_reducible repeat (first | refine blk_drewN ?_ _ | refine blk_drew ?_ | refine blk_alloc ?_ _)); refine blk_far ?_ NB607_608.out _; (with_reducible repeat (first | refine blk_drewN ?_ _ | refine blk_drew ?_ | refine blk_alloc ?_ _)); refine blk_put (cs := #[.bool t610, .string a0_1]) ?_ 1 _ (by first | rfl | (cases a0.toList <;> rfl) | (cases a1.toList <;> rfl)); (with_reducible repeat (first | refine blk_drewN ?_ _ | refine blk_drew ?_ | refine blk_alloc ?_ _)); refine blk_put (cs := #[.bool a0_0, .string a0_1]) ?_ 0 _ (by first | rfl | (cases a0.toList <;> rfl) | (cases a1.toList <;> rfl)); (with_reducible repeat (first | refine blk_drewN ?_ _ | refine blk_drew ?_ | refine blk_alloc ?_ _)); exact BK607.out⟩
 have n1_ : Aside0 (((((w12.setCell ⟨gb607, 0, none⟩ (.bool t610)).setCell ⟨gb607, 1, none⟩ (.string t611)).setCell ⟨gb608, 0, none⟩ (.bool t612)).setCell ⟨gb608, 1, none⟩ (.string t613)).heap[gb608]? = some (.cells #[.bool t612, .string t613] 36 (0, 0))) := ⟨by (with_reducible repeat (first | refine blk_drewN ?_ _ | refine blk_drew ?_ | refine blk_alloc ?_ _)); refine blk_put (cs := #[.bool t612, .string a1_1]) ?_ 1 _ (by first | rfl | (cases a0.toList <;> rfl) | (cases a1.toList <;> rfl)); (with_reducible repeat (first | refine blk_drewN ?_ _ | refine blk_drew ?_ | refine blk_alloc ?_ _)); refine blk_put (cs := #[.bool a1_0, .string a1_1]) ?_ 0 _ (by first | rfl | (cases a0.toList <;> rfl) | (cases a1.toList <;> rfl)); (with_reducible repeat (first | refine blk_drewN ?_ _ | refine blk_drew ?_ | refine blk_alloc ?_ _)); refine blk_far ?_ NB608_607.out _; (with_reducible repeat (first | refine blk_drewN ?_ _ | refine blk_drew ?_ | refine blk_alloc ?_ _)); refine blk_far ?_ NB608_607.out _; (with_reducible repeat (first | refine blk_drewN ?_ _ | refine blk_drew ?_ | refine blk_alloc ?_ _)); exact BK608.out⟩
 have n2_ : Aside0 (((((w12.setCell ⟨gb607, 0, none⟩ (.bool t610)).setCell ⟨gb607, 1, none⟩ (.string t611)).setCell ⟨gb608, 0, none⟩ (.bool t612)).setCell ⟨gb608, 1, none⟩ (.string t613)).heap[gb609]? = some (.cells #[.bool false, .string (⟨#[]⟩ : ByteArray)] 36 (0, 0))) := ⟨by (with_reducible repeat (first | refine blk_drewN ?_ _ | refine blk_drew ?_ | refine blk_alloc ?_ _)); refine blk_far ?_ NB609_608.out _; (with_reducible repeat (first | refine blk_drewN ?_ _ | refine blk_drew ?_ | refine blk_alloc ?_ _)); refine blk_far ?_ NB609_608.out _; (with_reducible repeat (first | refine blk_drewN ?_ _ | refine blk_drew ?_ | refine blk_alloc ?_ _)); refine blk_far ?_ NB609_607.out _; (with_reducible repeat (first | refine blk_drewN ?_ _ | refine blk_drew ?_ | refine blk_alloc ?_ _)); refine blk_far ?_ NB609_607.out _; (with_reducible repeat (first | refine blk_drewN ?_ _ | refine blk_drew ?_ | refine blk_alloc ?_ _)); exact BK609.out⟩
 have n3_ : Aside0 (Below w.heap.size w ((((w12.setCell ⟨gb607, 0, none⟩ (.bool t610)).setCell ⟨gb607, 1, none⟩ (.string t611)).setCell ⟨gb608, 0, none⟩ (.bool t612)).setCell ⟨gb608, 1, none⟩ (.string t613))) := ⟨Q.bw3 HB GE607 GE608 GE609⟩
 (try clear BK607)
 (try clear BK608)
 (try clear BK609)
 (try clear HB)
 generalize ((((w12.setCell ⟨gb607, 0, none⟩ (.bool t610)).setCell ⟨gb607, 1, none⟩ (.string t611)).setCell ⟨gb608, 0, none⟩ (.bool t612)).setCell ⟨gb608, 1, none⟩ (.string t613)) = w17 at n0_ n1_ n2_ n3_ ⊢
 have BK607 := n0_
 have BK608 := n1_
 have BK609 := n2_
 have HB := n3_
 clear n0_ n1_ n2_ n3_
 replace BK607 := Q.a (blk_drew BK607.out)
 replace BK608 := Q.a (blk_drew BK608.out)
 replace BK609 := Q.a (blk_drew BK609.out)
 replace HB := Q.a (below_drew1 HB.out)
 refine start_ (n := 12) (S := fun w' => w'.cell? ⟨gb607, 0, none⟩ = some (.bool t610) ∧ w'.cell? ⟨gb607, 1, none⟩ = some (.string t611) ∧ w'.cell? ⟨gb608, 0, none⟩ = some (.bool t612) ∧ w'.cell? ⟨gb608, 1, none⟩ = some (.string t613)) (ds := []) #[false, false, false, false, false, false, false, false, false, false, false, false] (by kernel_rfl) rfl rfl ⟨(blk_cell BK607.out 0).trans rfl, (blk_cell BK607.out 1).trans rfl, (blk_cell BK608.out 0).trans rfl, (blk_cell BK608.out 1).trans rfl⟩ (fun hHeld => ?_); refine with_tabW integer_Mul.tab2 integer_Mul.bits2 (fun HT_ HW_ => ?_)
 generalize w17.drew = w18 at BK607 BK608 BK609 HB hHeld ⊢
 refine pure_ (i := 0) (N := some 9) (v := ?_) (a' := ?_) #[true, false, false, false, false, false, false, false, false, false, false, false] rfl rfl (any_of HT_.out (by kernel_rfl)) (fun _ _ _ h => h) (Or.inl ⟨by rfl, ?_⟩) ?_ ?_
 rotate_left
 ·intro w'
  go_simp
  with_reducible rfl
 rotate_left
 ·simp only [Act.put, List.setIfInBounds_toArray, List.set_cons_zero, List.set_cons_succ, i64_w, i32_w]
  rfl
 refine pure_ (i := 2) (N := some 11) (v := ?_) (a' := ?_) #[true, false, true, false, false, false, false, false, false, false, false, false] rfl rfl (any_of HT_.out (by kernel_rfl)) (fun _ _ _ h => h) (Or.inl ⟨by rfl, ?_⟩) ?_ ?_
 rotate_left
 ·intro w'
  go_simp
  with_reducible rfl
 rotate_left
 ·simp only [Act.put, List.setIfInBounds_toArray, List.set_cons_zero, List.set_cons_succ, i64_w, i32_w]
  rfl
 refine pure_ (i := 5) (N := some 14) (v := ?_) (a' := ?_) #[true, false, true, false, false, true, false, false, false, false, false, false] rfl rfl (any_of HT_.out (by kernel_rfl)) (fun _ _ _ h => h) (Or.inl ⟨by rfl, ?_⟩) ?_ ?_
 rotate_left
 ·intro w'
  go_simp
  with_reducible rfl
 rotate_left
 ·simp only [Act.put, List.setIfInBounds_toArray, List.set_cons_zero, List.set_cons_succ, i64_w, i32_w]
  rfl
 refine pure_ (i := 7) (N := some 16) (v := ?_) (a' := ?_) #[true, false, true, false, false, true, false, true, false, false, false, false] rfl rfl (any_of HT_.out (by kernel_rfl)) (fun _ _ _ h => h) (Or.inl ⟨by rfl, ?_⟩) ?_ ?_
 rotate_left
 ·intro w'
  go_simp
  with_reducible rfl
 rotate_left
 ·simp only [Act.put, List.setIfInBounds_toArray, List.set_cons_zero, List.set_cons_succ, i64_w, i32_w]
  rfl
 refine take_ (i := 1) (N := some 10) (v := ?_) (a' := ?_) #[true, true, true, false, false, true, false, true, false, false, false, false] rfl rfl (take_ofW HT_.out HW_.out (by kernel_rfl)) (fun _ _ _ h => h) (Or.inl ⟨by rfl, ?_⟩) hHeld ?_ ?_
 rotate_left
 ·rintro w' ⟨s0, s1, s2, s3⟩
  go_simp
  with_reducible rfl
 rotate_left
 ·simp only [Act.put, List.setIfInBounds_toArray, List.set_cons_zero, List.set_cons_succ, i64_w, i32_w]
  rfl
 refine take_ (i := 3) (N := some 12) (v := ?_) (a' := ?_) #[true, true, true, true, false, true, false, true, false, false, false, false] rfl rfl (take_ofW HT_.out HW_.out (by kernel_rfl)) (fun _ _ _ h => h) (Or.inl ⟨by rfl, ?_⟩) hHeld ?_ ?_
 rotate_left
 ·rintro w' ⟨s0, s1, s2, s3⟩
  go_simp
  with_reducible rfl
 rotate_left
 ·simp only [Act.put, List.setIfInBounds_toArray, List.set_cons_zero, List.set_cons_succ, i64_w, i32_w]
  rfl
 refine pure_ (i := 4) (N := some 13) (v := ?_) (a' := ?_) #[true, true, true, true, true, true, false, true, false, false, false, false] rfl rfl (any_of HT_.out (by kernel_rfl)) (fun _ _ _ h => h) (Or.inl ⟨by rfl, ?_⟩) ?_ ?_
 rotate_left
 ·intro w'
  go_simp
  with_reducible rfl
 rotate_left
 ·simp only [Act.put, List.setIfInBounds_toArray, List.set_cons_zero, List.set_cons_succ, i64_w, i32_w]
  rfl
 refine take_ (i := 6) (N := some 15) (v := ?_) (a' := ?_) #[true, true, true, true, true, true, true, true, false, false, false, false] rfl rfl (take_ofW HT_.out HW_.out (by kernel_rfl)) (fun _ _ _ h => h) (Or.inl ⟨by rfl, ?_⟩) hHeld ?_ ?_
 rotate_left
 ·rintro w' ⟨s0, s1, s2, s3⟩
  go_simp
  with_reducible rfl
 rotate_left
 ·simp only [Act.put, List.setIfInBounds_toArray, List.set_cons_zero, List.set_cons_succ, i64_w, i32_w]
  rfl
 refine take_ (i := 8) (N := some 17) (v := ?_) (a' := ?_) #[true, true, true, true, true, true, true, true, true, false, false, false] rfl rfl (take_ofW HT_.out HW_.out (by kernel_rfl)) (fun _ _ _ h => h) (Or.inl ⟨by rfl, ?_⟩) hHeld ?_ ?_
 rotate_left
 ·rintro w' ⟨s0, s1, s2, s3⟩
  go_simp
  with_reducible rfl
 rotate_left
 ·simp only [Act.put, List.setIfInBounds_toArray, List.set_cons_zero, List.set_cons_succ, i64_w, i32_w]
  rfl
 refine one_ (i := 9) (N := some 18) #[true, true, true, true, true, true, true, true, true, true, false, false] rfl rfl (one_of HT_.out (by kernel_rfl)) (by decide) (fun K hK => ?_)
 refine goes_ Tryd.func24 (by kernel_rfl) rfl #[.string t611, .string t613] (by rfl) rfl rfl (by (try simp only [List.map_toArray, List.map_cons, List.map_nil]); first | done | rfl | (simp only [List.length_drop, List.length_take]; rfl)) ?_
 with_reducible refine (nat_Mul.calls k t611 t613 t614 _ A5.out).mono ?_
 rintro e w19 ⟨rfl, hb⟩
 refine ⟨_, rfl, ?_⟩
 replace BK607 := Q.a (Q.bb BK607 hb)
 replace BK608 := Q.a (Q.bb BK608 hb)
 replace BK609 := Q.a (Q.bb BK609 hb)
 replace HB := Q.a (below_step (Q.bw3 HB GE607 GE608 GE609) hb)
 (try clear hb)
 (try clear hb2)
 (try clear hk)
 (try clear hi)
 refine hK.out _ _ ⟨(blk_cell BK607.out 0).trans rfl, (blk_cell BK607.out 1).trans rfl, (blk_cell BK608.out 0).trans rfl, (blk_cell BK608.out 1).trans rfl⟩ (fun hHeld => ?_)
 clear hK K
 refine norm_ (a' := ?_) ?_ ?_
 rotate_left
 ·show Act.put _ (some 18) _ = _
  simp only [Act.put, List.setIfInBounds_toArray, List.set_cons_zero, List.set_cons_succ, i64_w, i32_w]
  rfl
 refine one_ (i := 10) (N := some 19) #[true, true, true, true, true, true, true, true, true, true, true, false] rfl rfl (one_of HT_.out (by kernel_rfl)) (by decide) (fun K hK => ?_)
 refine goes_ Tryd.func82 (by kernel_rfl) rfl #[.bool (t610 != t612), .string t614] (by rfl) rfl rfl (by (try simp only [List.map_toArray, List.map_cons, List.map_nil]); first | done | rfl | (simp only [List.length_drop, List.length_take]; rfl)) ?_
 with_reducible refine (integer_of.calls (t610 != t612) t614 t615 t616 _ A6.out).mono ?_
 rintro e w20 ⟨rfl, hb⟩
 refine ⟨_, rfl, ?_⟩
 replace BK607 := Q.a (Q.bb BK607 hb)
 replace BK608 := Q.a (Q.bb BK608 hb)
 replace BK609 := Q.a (Q.bb BK609 hb)
 replace HB := Q.a (below_step (Q.bw3 HB GE607 GE608 GE609) hb)
 (try clear hb)
 (try clear hb2)
 (try clear hk)
 (try clear hi)
 refine hK.out _ _ ⟨(blk_cell BK607.out 0).trans rfl, (blk_cell BK607.out 1).trans rfl, (blk_cell BK608.out 0).trans rfl, (blk_cell BK608.out 1).trans rfl⟩ (fun hHeld => ?_)
 clear hK K
 refine norm_ (a' := ?_) ?_ ?_
 rotate_left
 ·show Act.put _ (some 19) _ = _
  simp only [Act.put, List.setIfInBounds_toArray, List.set_cons_zero, List.set_cons_succ, i64_w, i32_w]
  rfl
 refine one_ (i := 11) (N := none) #[true, true, true, true, true, true, true, true, true, true, true, true] rfl rfl (one_of HT_.out (by kernel_rfl)) (by decide) (fun K hK => ?_)
 have hs21 : w20.cell? ⟨gb609, 0, none⟩ = some (.bool false) := (blk_cell BK609.out 0).trans rfl
 have hfs21 := blk_frozen BK609.out 0
 have hns21_0 := NB607_609.out
 have hns21_1 := NB608_609.out
 have hms21_0 := NB609_607.out
 have hms21_1 := NB609_608.out
 have hs22 : w20.cell? ⟨gb609, 1, none⟩ = some (.string (⟨#[]⟩ : ByteArray)) := (blk_cell BK609.out 1).trans rfl
 have hfs22 := blk_frozen BK609.out 1
 have hns22_0 := NB607_609.out
 have hns22_1 := NB608_609.out
 have hms22_0 := NB609_607.out
 have hms22_1 := NB609_608.out
 refine skip_ (w1 := ?_) (by rfl) rfl ?_ ?_
 rotate_left
 ·go_simp
  rfl
 refine hK.out _ _ ⟨((cell_far (p := ⟨gb609, _, none⟩) NB607_609.out _).trans (((cell_far (p := ⟨gb609, _, none⟩) NB607_609.out _).trans (hHeld.1)))), ((cell_far (p := ⟨gb609, _, none⟩) NB607_609.out _).trans (((cell_far (p := ⟨gb609, _, none⟩) NB607_609.out _).trans (hHeld.2.1)))), ((cell_far (p := ⟨gb609, _, none⟩) NB608_609.out _).trans (((cell_far (p := ⟨gb609, _, none⟩) NB608_609.out _).trans (hHeld.2.2.1)))), ((cell_far (p := ⟨gb609, _, none⟩) NB608_609.out _).trans (((cell_far (p := ⟨gb609, _, none⟩) NB608_609.out _).trans (hHeld.2.2.2))))⟩ (fun hHeld => ?_)
 clear hK K
 refine done_ (done_of HT_.out (by kernel_rfl)) ?_
 try go_wp2
 refine bodyPost_ret (results_cell_row rfl _ _ gb609 36 #[.bool t615, .string t616] (0, 0) _ rfl (by (with_reducible repeat (first | refine blk_drewN ?_ _ | refine blk_drew ?_ | refine blk_alloc ?_ _)); refine blk_put (cs := #[.bool t615, .string (⟨#[]⟩ : ByteArray)]) ?_ 1 _ (by first | rfl | (cases a0.toList <;> rfl) | (cases a1.toList <;> rfl)); (with_reducible repeat (first | refine blk_drewN ?_ _ | refine blk_drew ?_ | refine blk_alloc ?_ _)); refine blk_put (cs := #[.bool false, .string (⟨#[]⟩ : ByteArray)]) ?_ 0 _ (by first | rfl | (cases a0.toList <;> rfl) | (cases a1.toList <;> rfl)); (with_reducible repeat (first | refine blk_drewN ?_ _ | refine blk_drew ?_ | refine blk_alloc ?_ _)); exact BK609.out) Tryd.underlying36 rfl (by kernel_rfl)) rfl ?_
 exact ⟨Q.en, Q.bw3 HB GE607 GE608 GE609⟩
end Go.Proofs.YtpokflilobkoaaaDoor.P
