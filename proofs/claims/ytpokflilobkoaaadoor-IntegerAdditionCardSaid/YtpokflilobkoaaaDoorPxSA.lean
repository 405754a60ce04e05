/- Out of what mp.py printed for this seat (squeeze.py, repack.py). Not trusted: Lean checks it. -/
import Derived.Test.YtpokflilobkoaaaDoorPx0
import Derived.Test.YtpokflilobkoaaaDoorPxRA
import Derived.Test.YtpokflilobkoaaaDoorXQ
-- squeezed twice
namespace Go.Proofs.YtpokflilobkoaaaDoor.P
open Go.RowKit Go.Proofs.YtpokflilobkoaaaDoorW.PrintWords Go.Proofs.YtpokflilobkoaaaDoorW.PrintLast Go.Proofs.YtpokflilobkoaaaDoorW.PrintMore
attribute [local go_sem] max2_int min2_int max_two min_two max_three min_three max_four min_four   -- for this text's walks alone
attribute [local go_sem] XW.cell_twice   -- for this text's walks alone
set_option linter.unusedVariables false
set_option linter.unusedSimpArgs false

/-! ### voussoirref02_of: function 83 -/
def voussoirref02_of.f (k : Nat) (a0 : Bool) (a1 : ByteArray) : Option (Bool × ByteArray) := (voussoirref01_Norm.f k a1).bind fun t539 => (if a0 = true then (some ((t539.toList != ([] : List UInt8)), t539)) else (some (false, t539)))
theorem voussoirref02_of.mono : ∀ a0 a1 k, LeO (voussoirref02_of.f k a0 a1) (voussoirref02_of.f (k + 1) a0 a1) := by
 intro a0 a1 k
 unfold voussoirref02_of.f
 repeat' first
   | (with_reducible exact voussoirref01_Norm.mono _ _)
   | (with_reducible exact LeO.refl _)
   | (with_reducible exact LeO.none _)
   | (with_reducible refine LeO.ite ?_ ?_)
   | (with_reducible refine LeO.bind ?_ (fun _ => ?_))
   | exact voussoirref01_Norm.mono _ _
   | exact LeO.none _
   | refine LeO.ite ?_ ?_
   | refine LeO.bind ?_ (fun _ => ?_)
set_option maxHeartbeats 8000000 in
set_option maxRecDepth 100000 in
theorem voussoirref02_of.calls (k : Nat) (a0 : Bool) (a1 : ByteArray) (r1 : Bool) (r2 : ByteArray) (w : World) (h : voussoirref02_of.f k a0 a1 = some (r1, r2)) :
  Calls Tryd.prog 83 #[.bool a0, .string a1] w fun e w' => e = .returned (.agg #[.bool r1, .string r2]) ∧ Below w.heap.size w w' := by
 have hu36 := Tryd.underlying36
 have HB := Q.a (Below.refl w.heap.size w)
 have H : ((voussoirref01_Norm.f k a1).bind fun t539 => (if a0 = true then (some ((t539.toList != ([] : List UInt8)), t539)) else (some (false, t539)))) = some (r1, r2) := h
 clear h
 replace H := Option.bind_eq_some_iff.mp H
 obtain ⟨t539, A30, H⟩ := H
 try dsimp only at H
 have A3 := Q.a A30
 clear A30
 by_cases c4 : a0 = true
 ·subst c4
  have H1 : (some ((t539.toList != ([] : List UInt8)), t539)) = some (r1, r2) := by rw [if_pos rfl] at H; exact H
  clear H
  have H := H1
  clear H1
  simp only [Option.some.injEq, Prod.mk.injEq] at H
  obtain ⟨rfl, rfl⟩ := H
  go_enter Tryd.func83, Tryd.ntmps83
  go_wp2_with (first | ((with_reducible refine gate_dst (N := 4) rfl ?_); refine Q.bx 4 #[.bool false, .string (⟨#[]⟩ : ByteArray)] 36 rfl rfl ?_; intro gb538 hg w5 hbox hb; replace BK538 := Q.a (hbox); replace GW538 := Q.a (Q.gs hg (below_size (Q.bw HB))); replace GE538 := GW538; replace HB := Q.a (below_step (Q.bw HB) hb); clear hb hbox hg) | ((with_reducible refine gate_callee (f := 31) rfl ?_); refine Q.gl 7 Tryd.func31 #[.string a1] rfl rfl rfl rfl ?_; (with_reducible refine (voussoirref01_Norm.calls k a1 t539 _ A3.out).mono ?_); rintro e w' ⟨rfl, ⟨nd, rfl⟩⟩; refine ⟨_, rfl, ?_⟩; (try (rw [drewN_self w5]; generalize hq_ : World.drewN w5 _ = w5; have n0_ : Aside0 (w5.heap[gb538]? = some (.cells #[.bool false, .string (⟨#[]⟩ : ByteArray)] 36 (0, 0))) := ⟨by rw [← hq_]; exact (Q.kb BK538)⟩; have n1_ : Aside0 (Below w.heap.size w w5) := ⟨by rw [← hq_]; exact (Q.bw1 HB GE538)⟩; clear BK538 HB hq_; have BK538 := n0_; have HB := n1_; clear n0_ n1_)); have hcz6_0 : w5.cell? ⟨gb538, 0, none⟩ = some (.bool false) := (blk_cell BK538.out 0).trans rfl; have hcz6_1 : w5.cell? ⟨gb538, 1, none⟩ = some (.string (⟨#[]⟩ : ByteArray)) := (blk_cell BK538.out 1).trans rfl; have hfz6_0 := blk_frozen BK538.out 0; have hfz6_1 := blk_frozen BK538.out 1))
  refine bodyPost_ret (results_cell_row rfl _ _ gb538 36 #[.bool (t539.toList != ([] : List UInt8)), .string t539] (0, 0) _ rfl (by (with_reducible repeat (first | refine blk_drewN ?_ _ | refine blk_drew ?_ | refine blk_alloc ?_ _)); refine blk_put (cs := #[.bool (t539.toList != ([] : List UInt8)), .string (⟨#[]⟩ : ByteArray)]) ?_ 1 _ rfl; (with_reducible repeat (first | refine blk_drewN ?_ _ | refine blk_drew ?_ | refine blk_alloc ?_ _)); refine blk_put (cs := #[.bool false, .string (⟨#[]⟩ : ByteArray)]) ?_ 0 _ (by first | rfl | (cases t539.toList <;> rfl)); (with_reducible repeat (first | refine blk_drewN ?_ _ | refine blk_drew ?_ | refine blk_alloc ?_ _)); exact BK538.out) Tryd.underlying36 rfl (by kernel_rfl)) rfl ?_
  exact ⟨Q.en, Q.bw1 HB GE538⟩
 ·replace c4 := Bool.eq_false_iff.mpr c4
  subst c4
  have H1 : (some (false, t539)) = some (r1, r2) := by rw [if_neg (show ¬ (false = true) by decide)] at H; exact H
  clear H
  have H := H1
  clear H1
  simp only [Option.some.injEq, Prod.mk.injEq] at H
  obtain ⟨rfl, rfl⟩ := H
  go_enter Tryd.func83, Tryd.ntmps83
  go_wp2_with (first | ((with_reducible refine gate_dst (N := 4) rfl ?_); refine Q.bx 4 #[.bool false, .string (⟨#[]⟩ : ByteArray)] 36 rfl rfl ?_; intro gb538 hg w7 hbox hb; replace BK538 := Q.a (hbox); replace GW538 := Q.a (Q.gs hg (below_size (Q.bw HB))); replace GE538 := GW538; replace HB := Q.a (below_step (Q.bw HB) hb); clear hb hbox hg) | ((with_reducible refine gate_callee (f := 31) rfl ?_); refine Q.gl 7 Tryd.func31 #[.string a1] rfl rfl rfl rfl ?_; (with_reducible refine (voussoirref01_Norm.calls k a1 t539 _ A3.out).mono ?_); rintro e w' ⟨rfl, ⟨nd, rfl⟩⟩; refine ⟨_, rfl, ?_⟩; (try (rw [drewN_self w7]; generalize hq_ : World.drewN w7 _ = w7; have n0_ : Aside0 (w7.heap[gb538]? = some (.cells #[.bool false, .string (⟨#[]⟩ : ByteArray)] 36 (0, 0))) := ⟨by rw [← hq_]; exact (Q.kb BK538)⟩; have n1_ : Aside0 (Below w.heap.size w w7) := ⟨by rw [← hq_]; exact (Q.bw1 HB GE538)⟩; clear BK538 HB hq_; have BK538 := n0_; have HB := n1_; clear n0_ n1_)); have hcz8_0 : w7.cell? ⟨gb538, 0, none⟩ = some (.bool false) := (blk_cell BK538.out 0).trans rfl; have hcz8_1 : w7.cell? ⟨gb538, 1, none⟩ = some (.string (⟨#[]⟩ : ByteArray)) := (blk_cell BK538.out 1).trans rfl; have hfz8_0 := blk_frozen BK538.out 0; have hfz8_1 := blk_frozen BK538.out 1))
  refine bodyPost_ret (results_cell_row rfl _ _ gb538 36 #[.bool false, .string t539] (0, 0) _ rfl (by (with_reducible repeat (first | refine blk_drewN ?_ _ | refine blk_drew ?_ | refine blk_alloc ?_ _)); refine blk_put (cs := #[.bool false, .string (⟨#[]⟩ : ByteArray)]) ?_ 1 _ (by first | rfl | (cases a0.toList <;> rfl) | (cases a1.toList <;> rfl)); (with_reducible repeat (first | refine blk_drewN ?_ _ | refine blk_drew ?_ | refine blk_alloc ?_ _)); refine blk_put (cs := #[.bool false, .string (⟨#[]⟩ : ByteArray)]) ?_ 0 _ (by first | rfl | (cases a0.toList <;> rfl) | (cases a1.toList <;> rfl)); (with_reducible repeat (first | refine blk_drewN ?_ _ | refine blk_drew ?_ | refine blk_alloc ?_ _)); exact BK538.out) Tryd.underlying36 rfl (by kernel_rfl)) rfl ?_
  exact ⟨Q.en, Q.bw1 HB GE538⟩

/-! ### voussoirref02_Add: function 43 -/
def voussoirref02_Add.f (k : Nat) (a0_0 : Bool) (a0_1 : ByteArray) (a1_0 : Bool) (a1_1 : ByteArray) : Option (Bool × ByteArray) := if (a0_0 == a1_0) = true then ((voussoirref01_Add.f k a0_1 a1_1).bind fun t543 => ((voussoirref02_of.f k a0_0 t543).bind fun bt544 => (some (bt544.1, bt544.2)))) else ((voussoirref01_Sub.f k a0_1 a1_1).bind fun bt546 => (if bt546.2 = true then ((voussoirref02_of.f k a0_0 bt546.1).bind fun bt548 => (some (bt548.1, bt548.2))) else ((voussoirref01_Sub.f k a1_1 a0_1).bind fun bt550 => ((voussoirref02_of.f k a1_0 bt550.1).bind fun bt552 => (some (bt552.1, bt552.2))))))
theorem voussoirref02_Add.mono : ∀ a0 a1 a2 a3 k, LeO (voussoirref02_Add.f k a0 a1 a2 a3) (voussoirref02_Add.f (k + 1) a0 a1 a2 a3) := by
 intro a0 a1 a2 a3 k
 unfold voussoirref02_Add.f
 repeat' first
   | (with_reducible exact voussoirref01_Add.mono _ _ _)
   | (with_reducible exact voussoirref01_Sub.mono _ _ _)
   | (with_reducible exact voussoirref02_of.mono _ _ _)
   | (with_reducible exact LeO.refl _)
   | (with_reducible exact LeO.none _)
   | (with_reducible refine LeO.ite ?_ ?_)
   | (with_reducible refine LeO.bind ?_ (fun _ => ?_))
   | exact voussoirref01_Add.mono _ _ _
   | exact voussoirref01_Sub.mono _ _ _
   | exact voussoirref02_of.mono _ _ _
   | exact LeO.none _
   | refine LeO.ite ?_ ?_
   | refine LeO.bind ?_ (fun _ => ?_)
def voussoirref02_Add.T2 : Bool × List (List Nat × List Nat) := (true, [([], []), ([0], [0]), ([], []), ([2], [2]), ([], []), ([4], [4]), ([3, 5], [3, 5]), ([1, 6, 6], [1, 6]), ([7, 7, 0, 1, 2, 3, 4, 5, 6, 7], [7])])
def voussoirref02_Add.B2 : List Nat := [0, 1, 0, 4, 0, 16, 60, 127, 255]
theorem voussoirref02_Add.tab2 : rtab .any (opsOf Tryd.f43 2) = voussoirref02_Add.T2 := by kernel_rfl
theorem voussoirref02_Add.bits2 : waitsOk voussoirref02_Add.T2.2 voussoirref02_Add.B2 = true := by kernel_rfl
set_option maxHeartbeats 8000000 in
set_option maxRecDepth 100000 in
theorem voussoirref02_Add.calls (k : Nat) (a0_0 : Bool) (a0_1 : ByteArray) (a1_0 : Bool) (a1_1 : ByteArray) (r1 : Bool) (r2 : ByteArray) (w : World) (h : voussoirref02_Add.f k a0_0 a0_1 a1_0 a1_1 = some (r1, r2)) :
  Calls Tryd.prog 43 #[.agg #[.bool a0_0, .string a0_1], .agg #[.bool a1_0, .string a1_1]] w fun e w' => e = .returned (.agg #[.bool r1, .string r2]) ∧ Below w.heap.size w w' := by
 have hu36 := Tryd.underlying36
 have HB := Q.a (Below.refl w.heap.size w)
 have H : (if (a0_0 == a1_0) = true then ((voussoirref01_Add.f k a0_1 a1_1).bind fun t543 => ((voussoirref02_of.f k a0_0 t543).bind fun bt544 => (some (bt544.1, bt544.2)))) else ((voussoirref01_Sub.f k a0_1 a1_1).bind fun bt546 => (if bt546.2 = true then ((voussoirref02_of.f k a0_0 bt546.1).bind fun bt548 => (some (bt548.1, bt548.2))) else ((voussoirref01_Sub.f k a1_1 a0_1).bind fun bt550 => ((voussoirref02_of.f k a1_0 bt550.1).bind fun bt552 => (some (bt552.1, bt552.2))))))) = some (r1, r2) := h
 clear h
 by_cases c3 : (a0_0 == a1_0) = true
 ·rw [if_pos c3] at H
  have c3b0 : (a0_0 == a1_0) = true := c3
  (try (have c3b1 : decide (a0_0 = a1_0) = true := by simpa using c3))
  (try (have c3b2 : (a0_0 == a1_0) = true := by simpa using c3))
  clear c3
  replace H := Option.bind_eq_some_iff.mp H
  obtain ⟨t543, A40, H⟩ := H
  try dsimp only at H
  have A4 := Q.a A40
  clear A40
  replace H := Option.bind_eq_some_iff.mp H
  obtain ⟨⟨t544, t545⟩, A50, H⟩ := H
  try dsimp only at H
  have A5 := Q.a A50
  clear A50
  simp only [Option.some.injEq, Prod.mk.injEq] at H
  obtain ⟨rfl, rfl⟩ := H
  go_enter Tryd.func43, Tryd.ntmps43
  try go_wp2_with (first | ((with_reducible refine gate_dst (N := 2) rfl ?_); refine Q.bx 2 #[.bool a0_0, .string a0_1] 36 rfl rfl ?_; intro gb540 hg w6 hbox hb; replace BK540 := Q.a (hbox); replace GW540 := Q.a (Q.gs hg (below_size (Q.bw HB))); replace GE540 := GW540; replace HB := Q.a (below_step (Q.bw HB) hb); clear hb hbox hg) | ((with_reducible refine gate_dst (N := 3) rfl ?_); refine Q.bx 3 #[.bool a1_0, .string a1_1] 36 rfl rfl ?_; intro gb541 hg w7 hbox hb; replace BK541 := Q.a (hbox); replace GW541 := Q.a (Q.gs hg (below_size (Q.bw1 HB GE540))); replace GE541 := GW541; replace HB := Q.a (below_step (Q.bw1 HB GE540) hb); replace NB540_541 := Q.a (Q.nl hg BK540); replace NB541_540 := Q.a (Q.ng hg BK540); replace BK540 := Q.a (Q.bb BK540 hb); clear hb hbox hg) | ((with_reducible refine gate_dst (N := 4) rfl ?_); refine Q.bx 4 #[.bool false, .string (⟨#[]⟩ : ByteArray)] 36 rfl rfl ?_; intro gb542 hg w8 hbox hb; replace BK542 := Q.a (hbox); replace GW542 := Q.a (Q.gs hg (below_size (Q.bw2 HB GE540 GE541))); replace GE542 := GW542; replace HB := Q.a (below_step (Q.bw2 HB GE540 GE541) hb); replace NB540_542 := Q.a (Q.nl hg BK540); replace NB542_540 := Q.a (Q.ng hg BK540); replace BK540 := Q.a (Q.bb BK540 hb); replace NB541_542 := Q.a (Q.nl hg BK541); replace NB542_541 := Q.a (Q.ng hg BK541); replace BK541 := Q.a (Q.bb BK541 hb); clear hb hbox hg; have hnb9 := NB540_541.out; have hnc9 := NB541_540.out; have hnb10 := NB540_542.out; have hnc10 := NB542_540.out; have hcz11_0 : w8.cell? ⟨gb540, 0, none⟩ = some (.bool a0_0) := (blk_cell BK540.out 0).trans rfl; have hcz11_1 : w8.cell? ⟨gb540, 1, none⟩ = some (.string a0_1) := (blk_cell BK540.out 1).trans rfl; have hfz11_0 := blk_frozen BK540.out 0; have hfz11_1 := blk_frozen BK540.out 1; have hnb12 := NB541_542.out; have hnc12 := NB542_541.out; have hcz13_0 : w8.cell? ⟨gb541, 0, none⟩ = some (.bool a1_0) := (blk_cell BK541.out 0).trans rfl; have hcz13_1 : w8.cell? ⟨gb541, 1, none⟩ = some (.string a1_1) := (blk_cell BK541.out 1).trans rfl; have hfz13_0 := blk_frozen BK541.out 0; have hfz13_1 := blk_frozen BK541.out 1))
  replace BK540 := Q.a (blk_drew BK540.out)
  replace BK541 := Q.a (blk_drew BK541.out)
  replace BK542 := Q.a (blk_drew BK542.out)
  replace HB := Q.a (below_drew1 HB.out)
  refine start_ (n := 9) (S := fun w' => w'.cell? ⟨gb540, 0, none⟩ = some (.bool a0_0) ∧ w'.cell? ⟨gb540, 1, none⟩ = some (.string a0_1) ∧ w'.cell? ⟨gb541, 0, none⟩ = some (.bool a1_0) ∧ w'.cell? ⟨gb541, 1, none⟩ = some (.string a1_1)) (ds := []) #[false, false, false, false, false, false, false, false, false] (by kernel_rfl) rfl rfl ⟨(blk_cell BK540.out 0).trans rfl, (blk_cell BK540.out 1).trans rfl, (blk_cell BK541.out 0).trans rfl, (blk_cell BK541.out 1).trans rfl⟩ (fun hHeld => ?_); refine with_tabW voussoirref02_Add.tab2 voussoirref02_Add.bits2 (fun HT_ HW_ => ?_)
  generalize w8.drew = w14 at BK540 BK541 BK542 HB hHeld ⊢
  refine pure_ (i := 0) (N := some 12) (v := ?_) (a' := ?_) #[true, false, false, false, false, false, false, false, false] rfl rfl (any_of HT_.out (by kernel_rfl)) (fun _ _ _ h => h) (Or.inl ⟨by rfl, ?_⟩) ?_ ?_
  rotate_left
  ·intro w'
   go_simp
   with_reducible rfl
  rotate_left
  ·simp only [Act.put, List.setIfInBounds_toArray, List.set_cons_zero, List.set_cons_succ, i64_w, i32_w]
   rfl
  refine pure_ (i := 2) (N := some 14) (v := ?_) (a' := ?_) #[true, false, true, false, false, false, false, false, false] rfl rfl (any_of HT_.out (by kernel_rfl)) (fun _ _ _ h => h) (Or.inl ⟨by rfl, ?_⟩) ?_ ?_
  rotate_left
  ·intro w'
   go_simp
   with_reducible rfl
  rotate_left
  ·simp only [Act.put, List.setIfInBounds_toArray, List.set_cons_zero, List.set_cons_succ, i64_w, i32_w]
   rfl
  refine pure_ (i := 4) (N := some 16) (v := ?_) (a' := ?_) #[true, false, true, false, true, false, false, false, false] rfl rfl (any_of HT_.out (by kernel_rfl)) (fun _ _ _ h => h) (Or.inl ⟨by rfl, ?_⟩) ?_ ?_
  rotate_left
  ·intro w'
   go_simp
   with_reducible rfl
  rotate_left
  ·simp only [Act.put, List.setIfInBounds_toArray, List.set_cons_zero, List.set_cons_succ, i64_w, i32_w]
   rfl
  refine take_ (i := 1) (N := some 13) (v := ?_) (a' := ?_) #[true, true, true, false, true, false, false, false, false] rfl rfl (take_ofW HT_.out HW_.out (by kernel_rfl)) (fun _ _ _ h => h) (Or.inl ⟨by rfl, ?_⟩) hHeld ?_ ?_
  rotate_left
  ·rintro w' ⟨s0, s1, s2, s3⟩
   go_simp
   with_reducible rfl
  rotate_left
  ·simp only [Act.put, List.setIfInBounds_toArray, List.set_cons_zero, List.set_cons_succ, i64_w, i32_w]
   rfl
  refine take_ (i := 3) (N := some 15) (v := ?_) (a' := ?_) #[true, true, true, true, true, false, false, false, false] rfl rfl (take_ofW HT_.out HW_.out (by kernel_rfl)) (fun _ _ _ h => h) (Or.inl ⟨by rfl, ?_⟩) hHeld ?_ ?_
  rotate_left
  ·rintro w' ⟨s0, s1, s2, s3⟩
   go_simp
   with_reducible rfl
  rotate_left
  ·simp only [Act.put, List.setIfInBounds_toArray, List.set_cons_zero, List.set_cons_succ, i64_w, i32_w]
   rfl
  refine take_ (i := 5) (N := some 17) (v := ?_) (a' := ?_) #[true, true, true, true, true, true, false, false, false] rfl rfl (take_ofW HT_.out HW_.out (by kernel_rfl)) (fun _ _ _ h => h) (Or.inl ⟨by rfl, ?_⟩) hHeld ?_ ?_
  rotate_left
  ·rintro w' ⟨s0, s1, s2, s3⟩
   go_simp
   with_reducible rfl
  rotate_left
  ·simp only [Act.put, List.setIfInBounds_toArray, List.set_cons_zero, List.set_cons_succ, i64_w, i32_w]
   rfl
  refine one_ (i := 6) (N := some 18) #[true, true, true, true, true, true, true, false, false] rfl rfl (one_of HT_.out (by kernel_rfl)) (by decide) (fun K hK => ?_)
  refine goes_ Tryd.func33 (by kernel_rfl) rfl #[.string a0_1, .string a1_1] (by rfl) rfl rfl (by (try simp only [List.map_toArray, List.map_cons, List.map_nil]); first | done | rfl | (simp only [List.length_drop, List.length_take]; rfl)) ?_
  with_reducible refine (voussoirref01_Add.calls k a0_1 a1_1 t543 _ A4.out).mono ?_
  rintro e w15 ⟨rfl, hb⟩
  refine ⟨_, rfl, ?_⟩
  replace BK540 := Q.a (Q.bb BK540 hb)
  replace BK541 := Q.a (Q.bb BK541 hb)
  replace BK542 := Q.a (Q.bb BK542 hb)
  replace HB := Q.a (below_step (Q.bw3 HB GE540 GE541 GE542) hb)
  (try clear hb)
  (try clear hb2)
  (try clear hk)
  (try clear hi)
  refine hK.out _ _ ⟨(blk_cell BK540.out 0).trans rfl, (blk_cell BK540.out 1).trans rfl, (blk_cell BK541.out 0).trans rfl, (blk_cell BK541.out 1).trans rfl⟩ (fun hHeld => ?_)
  clear hK K
  refine norm_ (a' := ?_) ?_ ?_
  rotate_left
  ·show Act.put _ (some 18) _ = _
   simp only [Act.put, List.setIfInBounds_toArray, List.set_cons_zero, List.set_cons_succ, i64_w, i32_w]
   rfl
  refine one_ (i := 7) (N := some 19) #[true, true, true, true, true, true, true, true, false] rfl rfl (one_of HT_.out (by kernel_rfl)) (by decide) (fun K hK => ?_)
  refine goes_ Tryd.func83 (by kernel_rfl) rfl #[.bool a0_0, .string t543] (by rfl) rfl rfl (by (try simp only [List.map_toArray, List.map_cons, List.map_nil]); first | done | rfl | (simp only [List.length_drop, List.length_take]; rfl)) ?_
  with_reducible refine (voussoirref02_of.calls k a0_0 t543 t544 t545 _ A5.out).mono ?_
  rintro e w16 ⟨rfl, hb⟩
  refine ⟨_, rfl, ?_⟩
  replace BK540 := Q.a (Q.bb BK540 hb)
  replace BK541 := Q.a (Q.bb BK541 hb)
  replace BK542 := Q.a (Q.bb BK542 hb)
  replace HB := Q.a (below_step (Q.bw3 HB GE540 GE541 GE542) hb)
  (try clear hb)
  (try clear hb2)
  (try clear hk)
  (try clear hi)
  refine hK.out _ _ ⟨(blk_cell BK540.out 0).trans rfl, (blk_cell BK540.out 1).trans rfl, (blk_cell BK541.out 0).trans rfl, (blk_cell BK541.out 1).trans rfl⟩ (fun hHeld => ?_)
  clear hK K
  refine norm_ (a' := ?_) ?_ ?_
  rotate_left
  ·show Act.put _ (some 19) _ = _
   simp only [Act.put, List.setIfInBounds_toArray, List.set_cons_zero, List.set_cons_succ, i64_w, i32_w]
   rfl
  refine one_ (i := 8) (N := none) #[true, true, true, true, true, true, true, true, true] rfl rfl (one_of HT_.out (by kernel_rfl)) (by decide) (fun K hK => ?_)
  have hs17 : w16.cell? ⟨gb542, 0, none⟩ = some (.bool false) := (blk_cell BK542.out 0).trans rfl
  have hfs17 := blk_frozen BK542.out 0
  have hns17_0 := NB540_542.out
  have hns17_1 := NB541_542.out
  have hms17_0 := NB542_540.out
  have hms17_1 := NB542_541.out
  have hs18 : w16.cell? ⟨gb542, 1, none⟩ = some (.string (⟨#[]⟩ : ByteArray)) := (blk_cell BK542.out 1).trans rfl
  have hfs18 := blk_frozen BK542.out 1
  have hns18_0 := NB540_542.out
  have hns18_1 := NB541_542.out
  have hms18_0 := NB542_540.out
  have hms18_1 := NB542_541.out
  refine skip_ (w1 := ?_) (by rfl) rfl ?_ ?_
  rotate_left
  ·go_simp
   rfl
  refine hK.out _ _ ⟨((cell_far (p := ⟨gb542, _, none⟩) NB540_542.out _).trans (((cell_far (p := ⟨gb542, _, none⟩) NB540_542.out _).trans (hHeld.1)))), ((cell_far (p := ⟨gb542, _, none⟩) NB540_542.out _).trans (((cell_far (p := ⟨gb542, _, none⟩) NB540_542.out _).trans (hHeld.2.1)))), ((cell_far (p := ⟨gb542, _, none⟩) NB541_542.out _).trans (((cell_far (p := ⟨gb542, _, none⟩) NB541_542.out _).trans (hHeld.2.2.1)))), ((cell_far (p := ⟨gb542, _, none⟩) NB541_542.out _).trans (((cell_far (p := ⟨gb542, _, none⟩) NB541_542.out _).trans (hHeld.2.2.2))))⟩ (fun hHeld => ?_)
  clear hK K
  refine done_ (done_of HT_.out (by kernel_rfl)) ?_
  try go_wp2
  refine bodyPost_ret (results_cell_row rfl _ _ gb542 36 #[.bool t544, .string t545] (0, 0) _ rfl (by (with_reducible repeat (first | refine blk_drewN ?_ _ | refine blk_drew ?_ | refine blk_alloc ?_ _)); refine blk_put (cs := #[.bool t544, .string (⟨#[]⟩ : ByteArray)]) ?_ 1 _ (by first | rfl | (cases a0.toList <;> rfl) | (cases a1.toList <;> rfl)); (with_reducible repeat (first | refine blk_drewN ?_ _ | refine blk_drew ?_ | refine blk_alloc ?_ _)); refine blk_put (cs := #[.bool false, .string (⟨#[]⟩ : ByteArray)]) ?_ 0 _ (by first | rfl | (cases a0.toList <;> rfl) | (cases a1.toList <;> rfl)); (with_reducible repeat (first | refine blk_drewN ?_ _ | refine blk_drew ?_ | refine blk_alloc ?_ _)); exact BK542.out) Tryd.underlying36 rfl (by kernel_rfl)) rfl ?_
  exact ⟨Q.en, Q.bw3 HB GE540 GE541 GE542⟩
 ·rw [if_neg c3] at H
  have c3b0 : (a0_0 == a1_0) = false := by simpa using c3
  (try (have c3b1 : decide (a0_0 = a1_0) = false := by simpa using c3))
  (try (have c3b2 : (a0_0 == a1_0) = false := by simpa using c3))
  (try (have c3b3 : ¬ (a0_0 = a1_0) := by simpa using c3))
  clear c3
  replace H := Option.bind_eq_some_iff.mp H
  obtain ⟨⟨t546, t547⟩, A190, H⟩ := H
  try dsimp only at H
  have A19 := Q.a A190
  clear A190
  by_cases c20 : t547 = true
  ·subst c20
   have H1 : ((voussoirref02_of.f k a0_0 t546).bind fun bt548 => (some (bt548.1, bt548.2))) = some (r1, r2) := by rw [if_pos rfl] at H; exact H
   clear H
   have H := H1
   clear H1
   replace H := Option.bind_eq_some_iff.mp H
   obtain ⟨⟨t548, t549⟩, A210, H⟩ := H
   try dsimp only at H
   have A21 := Q.a A210
   clear A210
   simp only [Option.some.injEq, Prod.mk.injEq] at H
   obtain ⟨rfl, rfl⟩ := H
   go_enter Tryd.func43, Tryd.ntmps43
   go_wp2_with (first | ((with_reducible refine gate_dst (N := 2) rfl ?_); refine Q.bx 2 #[.bool a0_0, .string a0_1] 36 rfl rfl ?_; intro gb540 hg w22 hbox hb; replace BK540 := Q.a (hbox); replace GW540 := Q.a (Q.gs hg (below_size (Q.bw HB))); replace GE540 := GW540; replace HB := Q.a (below_step (Q.bw HB) hb); clear hb hbox hg) | ((with_reducible refine gate_dst (N := 3) rfl ?_); refine Q.bx 3 #[.bool a1_0, .string a1_1] 36 rfl rfl ?_; intro gb541 hg w23 hbox hb; replace BK541 := Q.a (hbox); replace GW541 := Q.a (Q.gs hg (below_size (Q.bw1 HB GE540))); replace GE541 := GW541; replace HB := Q.a (below_step (Q.bw1 HB GE540) hb); replace NB540_541 := Q.a (Q.nl hg BK540); replace NB541_540 := Q.a (Q.ng hg BK540); replace BK540 := Q.a (Q.bb BK540 hb); clear hb hbox hg) | ((with_reducible refine gate_dst (N := 4) rfl ?_); refine Q.bx 4 #[.bool false, .string (⟨#[]⟩ : ByteArray)] 36 rfl rfl ?_; intro gb542 hg w24 hbox hb; replace BK542 := Q.a (hbox); replace GW542 := Q.a (Q.gs hg (below_size (Q.bw2 HB GE540 GE541))); replace GE542 := GW542; replace HB := Q.a (below_step (Q.bw2 HB GE540 GE541) hb); replace NB540_542 := Q.a (Q.nl hg BK540); replace NB542_540 := Q.a (Q.ng hg BK540); replace BK540 := Q.a (Q.bb BK540 hb); replace NB541_542 := Q.a (Q.nl hg BK541); replace NB542_541 := Q.a (Q.ng hg BK541); replace BK541 := Q.a (Q.bb BK541 hb); clear hb hbox hg; have hnb25 := NB540_541.out; have hnc25 := NB541_540.out; have hnb26 := NB540_542.out; have hnc26 := NB542_540.out; have hcz27_0 : w24.cell? ⟨gb540, 0, none⟩ = some (.bool a0_0) := (blk_cell BK540.out 0).trans rfl; have hcz27_1 : w24.cell? ⟨gb540, 1, none⟩ = some (.string a0_1) := (blk_cell BK540.out 1).trans rfl; have hfz27_0 := blk_frozen BK540.out 0; have hfz27_1 := blk_frozen BK540.out 1; have hnb28 := NB541_542.out; have hnc28 := NB542_541.out; have hcz29_0 : w24.cell? ⟨gb541, 0, none⟩ = some (.bool a1_0) := (blk_cell BK541.out 0).trans rfl; have hcz29_1 : w24.cell? ⟨gb541, 1, none⟩ = some (.string a1_1) := (blk_cell BK541.out 1).trans rfl; have hfz29_0 := blk_frozen BK541.out 0; have hfz29_1 := blk_frozen BK541.out 1) | ((with_reducible refine gate_callee (f := 30) rfl ?_); refine Q.gl 25 Tryd.func30 #[.string a0_1, .string a1_1] rfl rfl rfl rfl ?_; (with_reducible refine (voussoirref01_Sub.calls k a0_1 a1_1 t546 true _ A19.out).mono ?_); rintro e w30 ⟨rfl, hb⟩; refine ⟨_, rfl, ?_⟩; replace BK540 := Q.a (Q.bb BK540 hb); replace BK541 := Q.a (Q.bb BK541 hb); replace BK542 := Q.a (Q.bb BK542 hb); replace HB := Q.a (below_step (Q.bw3 HB GE540 GE541 GE542) hb); (try clear hb); have hcz31_0 : w30.cell? ⟨gb540, 0, none⟩ = some (.bool a0_0) := (blk_cell BK540.out 0).trans rfl; have hcz31_1 : w30.cell? ⟨gb540, 1, none⟩ = some (.string a0_1) := (blk_cell BK540.out 1).trans rfl; have hfz31_0 := blk_frozen BK540.out 0; have hfz31_1 := blk_frozen BK540.out 1) | ((with_reducible refine gate_callee (f := 83) rfl ?_); refine Q.gl 32 Tryd.func83 #[.bool a0_0, .string t546] rfl rfl rfl rfl ?_; (with_reducible refine (voussoirref02_of.calls k a0_0 t546 t548 t549 _ A21.out).mono ?_); rintro e w32 ⟨rfl, hb⟩; refine ⟨_, rfl, ?_⟩; replace BK540 := Q.a (Q.bb BK540 hb); replace BK541 := Q.a (Q.bb BK541 hb); replace BK542 := Q.a (Q.bb BK542 hb); replace HB := Q.a (below_step (Q.bw3 HB GE540 GE541 GE542) hb); (try clear hb); have hcz33_0 : w32.cell? ⟨gb542, 0, none⟩ = some (.bool false) := (blk_cell BK542.out 0).trans rfl; have hcz33_1 : w32.cell? ⟨gb542, 1, none⟩ = some (.string (⟨#[]⟩ : ByteArray)) := (blk_cell BK542.out 1).trans rfl; have hfz33_0 := blk_frozen BK542.out 0; have hfz33_1 := blk_frozen BK542.out 1))
   refine bodyPost_ret (results_cell_row rfl _ _ gb542 36 #[.bool t548, .string t549] (0, 0) _ rfl (by (with_reducible repeat (first | refine blk_drewN ?_ _ | refine blk_drew ?_ | refine blk_alloc ?_ _)); refine blk_put (cs := #[.bool t548, .string (⟨#[]⟩ : ByteArray)]) ?_ 1 _ (by first | rfl | (cases a0.toList <;> rfl) | (cases a1.toList <;> rfl)); (with_reducible repeat (first | refine blk_drewN ?_ _ | refine blk_drew ?_ | refine blk_alloc ?_ _)); refine blk_put (cs := #[.bool false, .string (⟨#[]⟩ : ByteArray)]) ?_ 0 _ (by first | rfl | (cases a0.toList <;> rfl) | (cases a1.toList <;> rfl)); (with_reducible repeat (first | refine blk_drewN ?_ _ | refine blk_drew ?_ | refine blk_alloc ?_ _)); exact BK542.out) Tryd.underlying36 rfl (by kernel_rfl)) rfl ?_
   exact ⟨Q.en, Q.bw3 HB GE540 GE541 GE542⟩
  ·replace c20 := Bool.eq_false_iff.mpr c20
   subst c20
   have H1 : ((voussoirref01_Sub.f k a1_1 a0_1).bind fun bt550 => ((voussoirref02_of.f k a1_0 bt550.1).bind fun bt552 => (some (bt552.1, bt552.2)))) = some (r1, r2) := by rw [if_neg (show ¬ (false = true) by decide)] at H; exact H
   clear H
   have H := H1
   clear H1
   replace H := Option.bind_eq_some_iff.mp H
   obtain ⟨⟨t550, t551⟩, A340, H⟩ := H
   try dsimp only at H
   have A34 := Q.a A340
   clear A340
   replace H := Option.bind_eq_some_iff.mp H
   obtain ⟨⟨t552, t553⟩, A350, H⟩ := H
   try dsimp only at H
   have A35 := Q.a A350
   clear A350
   simp only [Option.some.injEq, Prod.mk.injEq] at H
   obtain ⟨rfl, rfl⟩ := H
   go_enter Tryd.func43, Tryd.ntmps43
   go_wp2_with (first | ((with_reducible refine gate_dst (N := 2) rfl ?_); refine Q.bx 2 #[.bool a0_0, .string a0_1] 36 rfl rfl ?_; intro gb540 hg w36 hbox hb; replace BK540 := Q.a (hbox); replace GW540 := Q.a (Q.gs hg (below_size (Q.bw HB))); replace GE540 := GW540; replace HB := Q.a (below_step (Q.bw HB) hb); clear hb hbox hg) | ((with_reducible refine gate_dst (N := 3) rfl ?_); refine Q.bx 3 #[.bool a1_0, .string a1_1] 36 rfl rfl ?_; intro gb541 hg w37 hbox hb; replace BK541 := Q.a (hbox); replace GW541 := Q.a (Q.gs hg (below_size (Q.bw1 HB GE540))); replace GE541 := GW541; replace HB := Q.a (below_step (Q.bw1 HB GE540) hb); replace NB540_541 := Q.a (Q.nl hg BK540); replace NB541_540 := Q.a (Q.ng hg BK540); replace BK540 := Q.a (Q.bb BK540 hb); clear hb hbox hg) | ((with_reducible refine gate_dst (N := 4) rfl ?_); refine Q.bx 4 #[.bool false, .string (⟨#[]⟩ : ByteArray)] 36 rfl rfl ?_; intro gb542 hg w38 hbox hb; replace BK542 := Q.a (hbox); replace GW542 := Q.a (Q.gs hg (below_size (Q.bw2 HB GE540 GE541))); replace GE542 := GW542; replace HB := Q.a (below_step (Q.bw2 HB GE540 GE541) hb); replace NB540_542 := Q.a (Q.nl hg BK540); replace NB542_540 := Q.a (Q.ng hg BK540); replace BK540 := Q.a (Q.bb BK540 hb); replace NB541_542 := Q.a (Q.nl hg BK541); replace NB542_541 := Q.a (Q.ng hg BK541); replace BK541 := Q.a (Q.bb BK541 hb); clear hb hbox hg; have hnb39 := NB540_541.out; have hnc39 := NB541_540.out; have hnb40 := NB540_542.out; have hnc40 := NB542_540.out; have hcz41_0 : w38.cell? ⟨gb540, 0, none⟩ = some (.bool a0_0) := (blk_cell BK540.out 0).trans rfl; have hcz41_1 : w38.cell? ⟨gb540, 1, none⟩ = some (.string a0_1) := (blk_cell BK540.out 1).trans rfl; have hfz41_0 := blk_frozen BK540.out 0; have hfz41_1 := blk_frozen BK540.out 1; have hnb42 := NB541_542.out; have hnc42 := NB542_541.out; have hcz43_0 : w38.cell? ⟨gb541, 0, none⟩ = some (.bool a1_0) := (blk_cell BK541.out 0).trans rfl; have hcz43_1 : w38.cell? ⟨gb541, 1, none⟩ = some (.string a1_1) := (blk_cell BK541.out 1).trans rfl; have hfz43_0 := blk_frozen BK541.out 0; have hfz43_1 := blk_frozen BK541.out 1) | ((with_reducible refine gate_callee (f := 30) rfl ?_); refine Q.gl 25 Tryd.func30 #[.string a0_1, .string a1_1] rfl rfl rfl rfl ?_; (with_reducible refine (voussoirref01_Sub.calls k a0_1 a1_1 t546 false _ A19.out).mono ?_); rintro e w44 ⟨rfl, hb⟩; refine ⟨_, rfl, ?_⟩; replace BK540 := Q.a (Q.bb BK540 hb); replace BK541 := Q.a (Q.bb BK541 hb); replace BK542 := Q.a (Q.bb BK542 hb); replace HB := Q.a (below_step (Q.bw3 HB GE540 GE541 GE542) hb); (try clear hb); have hcz45_0 : w44.cell? ⟨gb541, 0, none⟩ = some (.bool a1_0) := (blk_cell BK541.out 0).trans rfl; have hcz45_1 : w44.cell? ⟨gb541, 1, none⟩ = some (.string a1_1) := (blk_cell BK541.out 1).trans rfl; have hfz45_0 := blk_frozen BK541.out 0; have hfz45_1 := blk_frozen BK541.out 1; have hcz46_0 : w44.cell? ⟨gb540, 0, none⟩ = some (.bool a0_0) := (blk_cell BK540.out 0).trans rfl; have hcz46_1 : w44.cell? ⟨gb540, 1, none⟩ = some (.string a0_1) := (blk_cell BK540.out 1).trans rfl; have hfz46_0 := blk_frozen BK540.out 0; have hfz46_1 := blk_frozen BK540.out 1) | ((with_reducible refine gate_callee (f := 30) rfl ?_); refine Q.gl 38 Tryd.func30 #[.string a1_1, .string a0_1] rfl rfl rfl rfl ?_; (with_reducible refine (voussoirref01_Sub.calls k a1_1 a0_1 t550 t551 _ A34.out).mono ?_); rintro e w47 ⟨rfl, hb⟩; refine ⟨_, rfl, ?_⟩; replace BK540 := Q.a (Q.bb BK540 hb); replace BK541 := Q.a (Q.bb BK541 hb); replace BK542 := Q.a (Q.bb BK542 hb); replace HB := Q.a (below_step (Q.bw3 HB GE540 GE541 GE542) hb); (try clear hb); have hcz48_0 : w47.cell? ⟨gb541, 0, none⟩ = some (.bool a1_0) := (blk_cell BK541.out 0).trans rfl; have hcz48_1 : w47.cell? ⟨gb541, 1, none⟩ = some (.string a1_1) := (blk_cell BK541.out 1).trans rfl; have hfz48_0 := blk_frozen BK541.out 0; have hfz48_1 := blk_frozen BK541.out 1) | ((with_reducible refine gate_callee (f := 83) rfl ?_); refine Q.gl 44 Tryd.func83 #[.bool a1_0, .string t550] rfl rfl rfl rfl ?_; (with_reducible refine (voussoirref02_of.calls k a1_0 t550 t552 t553 _ A35.out).mono ?_); rintro e w49 ⟨rfl, hb⟩; refine ⟨_, rfl, ?_⟩; replace BK540 := Q.a (Q.bb BK540 hb); replace BK541 := Q.a (Q.bb BK541 hb); replace BK542 := Q.a (Q.bb BK542 hb); replace HB := Q.a (below_step (Q.bw3 HB GE540 GE541 GE542) hb); (try clear hb); have hcz50_0 : w49.cell? ⟨gb542, 0, none⟩ = some (.bool false) := (blk_cell BK542.out 0).trans rfl; have hcz50_1 : w49.cell? ⟨gb542, 1, none⟩ = some (.string (⟨#[]⟩ : ByteArray)) := (blk_cell BK542.out 1).trans rfl; have hfz50_0 := blk_frozen BK542.out 0; have hfz50_1 := blk_frozen BK542.out 1))
   refine bodyPost_ret (results_cell_row rfl _ _ gb542 36 #[.bool t552, .string t553] (0, 0) _ rfl (by (with_reducible repeat (first | refine blk_drewN ?_ _ | refine blk_drew ?_ | refine blk_alloc ?_ _)); refine blk_put (cs := #[.bool t552, .string (⟨#[]⟩ : ByteArray)]) ?_ 1 _ (by first | rfl | (cases a0.toList <;> rfl) | (cases a1.toList <;> rfl)); (with_reducible repeat (first | refine blk_drewN ?_ _ | refine blk_drew ?_ | refine blk_alloc ?_ _)); refine blk_put (cs := #[.bool false, .string (⟨#[]⟩ : ByteArray)]) ?_ 0 _ (by first | rfl | (cases a0.toList <;> rfl) | (cases a1.toList <;> rfl)); (with_reducible repeat (first | refine blk_drewN ?_ _ | refine blk_drew ?_ | refine blk_alloc ?_ _)); exact BK542.out) Tryd.underlying36 rfl (by kernel_rfl)) rfl ?_
   exact ⟨Q.en, Q.bw3 HB GE540 GE541 GE542⟩

/-! ### voussoirref02_Neg: function 47 -/
def voussoirref02_Neg.f (k : Nat) (a0_0 : Bool) (a0_1 : ByteArray) : Option (Bool × ByteArray) := (voussoirref02_of.f k (!a0_0) a0_1).bind fun bt556 => (some (bt556.1, bt556.2))
theorem voussoirref02_Neg.mono : ∀ a0 a1 k, LeO (voussoirref02_Neg.f k a0 a1) (voussoirref02_Neg.f (k + 1) a0 a1) := by
 intro a0 a1 k
 unfold voussoirref02_Neg.f
 repeat' first
   | (with_reducible exact voussoirref02_of.mono _ _ _)
   | (with_reducible exact LeO.refl _)
   | (with_reducible exact LeO.none _)
   | (with_reducible refine LeO.ite ?_ ?_)
   | (with_reducible refine LeO.bind ?_ (fun _ => ?_))
   | exact voussoirref02_of.mono _ _ _
   | exact LeO.none _
   | refine LeO.ite ?_ ?_
   | refine LeO.bind ?_ (fun _ => ?_)
set_option maxHeartbeats 8000000 in
set_option maxRecDepth 100000 in
theorem voussoirref02_Neg.calls (k : Nat) (a0_0 : Bool) (a0_1 : ByteArray) (r1 : Bool) (r2 : ByteArray) (w : World) (h : voussoirref02_Neg.f k a0_0 a0_1 = some (r1, r2)) :
  Calls Tryd.prog 47 #[.agg #[.bool a0_0, .string a0_1]] w fun e w' => e = .returned (.agg #[.bool r1, .string r2]) ∧ Below w.heap.size w w' := by
 have hu36 := Tryd.underlying36
 have HB := Q.a (Below.refl w.heap.size w)
 have H : ((voussoirref02_of.f k (!a0_0) a0_1).bind fun bt556 => (some (bt556.1, bt556.2))) = some (r1, r2) := h
 clear h
 replace H := Option.bind_eq_some_iff.mp H
 obtain ⟨⟨t556, t557⟩, A20, H⟩ := H
 try dsimp only at H
 have A2 := Q.a A20
 clear A20
 simp only [Option.some.injEq, Prod.mk.injEq] at H
 obtain ⟨rfl, rfl⟩ := H
 go_enter Tryd.func47, Tryd.ntmps47
 go_wp2_with (first | ((with_reducible refine gate_dst (N := 1) rfl ?_); refine Q.bx 1 #[.bool a0_0, .string a0_1] 36 rfl rfl ?_; intro gb554 hg w3 hbox hb; replace BK554 := Q.a (hbox); replace GW554 := Q.a (Q.gs hg (below_size (Q.bw HB))); replace GE554 := GW554; replace HB := Q.a (below_step (Q.bw HB) hb); clear hb hbox hg) | ((with_reducible refine gate_dst (N := 2) rfl ?_); refine Q.bx 2 #[.bool false, .string (⟨#[]⟩ : ByteArray)] 36 rfl rfl ?_; intro gb555 hg w4 hbox hb; replace BK555 := Q.a (hbox); replace GW555 := Q.a (Q.gs hg (below_size (Q.bw1 HB GE554))); replace GE555 := GW555; replace HB := Q.a (below_step (Q.bw1 HB GE554) hb); replace NB554_555 := Q.a (Q.nl hg BK554); replace NB555_554 := Q.a (Q.ng hg BK554); replace BK554 := Q.a (Q.bb BK554 hb); clear hb hbox hg; have hnb5 := NB554_555.out; have hnc5 := NB555_554.out; have hcz6_0 : w4.cell? ⟨gb554, 0, none⟩ = some (.bool a0_0) := (blk_cell BK554.out 0).trans rfl; have hcz6_1 : w4.cell? ⟨gb554, 1, none⟩ = some (.string a0_1) := (blk_cell BK554.out 1).trans rfl; have hfz6_0 := blk_frozen BK554.out 0; have hfz6_1 := blk_frozen BK554.out 1) | ((with_reducible refine gate_callee (f := 83) rfl ?_); refine Q.gl 8 Tryd.func83 #[.bool (!a0_0), .string a0_1] rfl rfl rfl rfl ?_; (with_reducible refine (voussoirref02_of.calls k (!a0_0) a0_1 t556 t557 _ A2.out).mono ?_); rintro e w7 ⟨rfl, hb⟩; refine ⟨_, rfl, ?_⟩; replace BK554 := Q.a (Q.bb BK554 hb); replace BK555 := Q.a (Q.bb BK555 hb); replace HB := Q.a (below_step (Q.bw2 HB GE554 GE555) hb); (try clear hb); have hcz8_0 : w7.cell? ⟨gb555, 0, none⟩ = some (.bool false) := (blk_cell BK555.out 0).trans rfl; have hcz8_1 : w7.cell? ⟨gb555, 1, none⟩ = some (.string (⟨#[]⟩ : ByteArray)) := (blk_cell BK555.out 1).trans rfl; have hfz8_0 := blk_frozen BK555.out 0; have hfz8_1 := blk_frozen BK555.out 1))
 refine bodyPost_ret (results_cell_row rfl _ _ gb555 36 #[.bool t556, .string t557] (0, 0) _ rfl (by (with_reducible repeat (first | refine blk_drewN ?_ _ | refine blk_drew ?_ | refine blk_alloc ?_ _)); refine blk_put (cs := #[.bool t556, .string (⟨#[]⟩ : ByteArray)]) ?_ 1 _ (by first | rfl | (cases a0.toList <;> rfl) | (cases a1.toList <;> rfl)); (with_reducible repeat (first | refine blk_drewN ?_ _ | refine blk_drew ?_ | refine blk_alloc ?_ _)); refine blk_put (cs := #[.bool false, .string (⟨#[]⟩ : ByteArray)]) ?_ 0 _ (by first | rfl | (cases a0.toList <;> rfl) | (cases a1.toList <;> rfl)); (with_reducible repeat (first | refine blk_drewN ?_ _ | refine blk_drew ?_ | refine blk_alloc ?_ _)); exact BK555.out) Tryd.underlying36 rfl (by kernel_rfl)) rfl ?_
 exact ⟨Q.en, Q.bw2 HB GE554 GE555⟩

/-! ### voussoirref02_Sub: function 45 -/
def voussoirref02_Sub.f (k : Nat) (a0_0 : Bool) (a0_1 : ByteArray) (a1_0 : Bool) (a1_1 : ByteArray) : Option (Bool × ByteArray) := (voussoirref02_Neg.f k a1_0 a1_1).bind fun bt561 => ((voussoirref02_Add.f k a0_0 a0_1 bt561.1 bt561.2).bind fun bt563 => (some (bt563.1, bt563.2)))
theorem voussoirref02_Sub.mono : ∀ a0 a1 a2 a3 k, LeO (voussoirref02_Sub.f k a0 a1 a2 a3) (voussoirref02_Sub.f (k + 1) a0 a1 a2 a3) := by
 intro a0 a1 a2 a3 k
 unfold voussoirref02_Sub.f
 repeat' first
   | (with_reducible exact voussoirref02_Add.mono _ _ _ _ _)
   | (with_reducible exact voussoirref02_Neg.mono _ _ _)
   | (with_reducible exact LeO.refl _)
   | (with_reducible exact LeO.none _)
   | (with_reducible refine LeO.ite ?_ ?_)
   | (with_reducible refine LeO.bind ?_ (fun _ => ?_))
   | exact voussoirref02_Add.mono _ _ _ _ _
   | exact voussoirref02_Neg.mono _ _ _
   | exact LeO.none _
   | refine LeO.ite ?_ ?_
   | refine LeO.bind ?_ (fun _ => ?_)
set_option maxHeartbeats 8000000 in
set_option maxRecDepth 100000 in
theorem voussoirref02_Sub.calls (k : Nat) (a0_0 : Bool) (a0_1 : ByteArray) (a1_0 : Bool) (a1_1 : ByteArray) (r1 : Bool) (r2 : ByteArray) (w : World) (h : voussoirref02_Sub.f k a0_0 a0_1 a1_0 a1_1 = some (r1, r2)) :
  Calls Tryd.prog 45 #[.agg #[.bool a0_0, .string a0_1], .agg #[.bool a1_0, .string a1_1]] w fun e w' => e = .returned (.agg #[.bool r1, .string r2]) ∧ Below w.heap.size w w' := by
 have hu36 := Tryd.underlying36
 have HB := Q.a (Below.refl w.heap.size w)
 have H : ((voussoirref02_Neg.f k a1_0 a1_1).bind fun bt561 => ((voussoirref02_Add.f k a0_0 a0_1 bt561.1 bt561.2).bind fun bt563 => (some (bt563.1, bt563.2)))) = some (r1, r2) := h
 clear h
 replace H := Option.bind_eq_some_iff.mp H
 obtain ⟨⟨t561, t562⟩, A30, H⟩ := H
 try dsimp only at H
 have A3 := Q.a A30
 clear A30
 replace H := Option.bind_eq_some_iff.mp H
 obtain ⟨⟨t563, t564⟩, A40, H⟩ := H
 try dsimp only at H
 have A4 := Q.a A40
 clear A40
 simp only [Option.some.injEq, Prod.mk.injEq] at H
 obtain ⟨rfl, rfl⟩ := H
 go_enter Tryd.func45, Tryd.ntmps45
 try go_wp2_with (first | ((with_reducible refine gate_dst (N := 2) rfl ?_); refine Q.bx 2 #[.bool a0_0, .string a0_1] 36 rfl rfl ?_; intro gb558 hg w5 hbox hb; replace BK558 := Q.a (hbox); replace GW558 := Q.a (Q.gs hg (below_size (Q.bw HB))); replace GE558 := GW558; replace HB := Q.a (below_step (Q.bw HB) hb); clear hb hbox hg) | ((with_reducible refine gate_dst (N := 3) rfl ?_); refine Q.bx 3 #[.bool a1_0, .string a1_1] 36 rfl rfl ?_; intro gb559 hg w6 hbox hb; replace BK559 := Q.a (hbox); replace GW559 := Q.a (Q.gs hg (below_size (Q.bw1 HB GE558))); replace GE559 := GW559; replace HB := Q.a (below_step (Q.bw1 HB GE558) hb); replace NB558_559 := Q.a (Q.nl hg BK558); replace NB559_558 := Q.a (Q.ng hg BK558); replace BK558 := Q.a (Q.bb BK558 hb); clear hb hbox hg) | ((with_reducible refine gate_dst (N := 4) rfl ?_); refine Q.bx 4 #[.bool false, .string (⟨#[]⟩ : ByteArray)] 36 rfl rfl ?_; intro gb560 hg w7 hbox hb; replace BK560 := Q.a (hbox); replace GW560 := Q.a (Q.gs hg (below_size (Q.bw2 HB GE558 GE559))); replace GE560 := GW560; replace HB := Q.a (below_step (Q.bw2 HB GE558 GE559) hb); replace NB558_560 := Q.a (Q.nl hg BK558); replace NB560_558 := Q.a (Q.ng hg BK558); replace BK558 := Q.a (Q.bb BK558 hb); replace NB559_560 := Q.a (Q.nl hg BK559); replace NB560_559 := Q.a (Q.ng hg BK559); replace BK559 := Q.a (Q.bb BK559 hb); clear hb hbox hg))
 replace BK558 := Q.a (blk_drew BK558.out)
 replace BK559 := Q.a (blk_drew BK559.out)
 replace BK560 := Q.a (blk_drew BK560.out)
 replace HB := Q.a (below_drew1 HB.out)
 refine start_ (n := 5) (S := fun w' => w'.cell? ⟨gb558, 0, none⟩ = some (.bool a0_0) ∧ w'.cell? ⟨gb558, 1, none⟩ = some (.string a0_1) ∧ w'.cell? ⟨gb559, 0, none⟩ = some (.bool a1_0) ∧ w'.cell? ⟨gb559, 1, none⟩ = some (.string a1_1)) (ds := []) #[false, false, false, false, false] (by kernel_rfl) rfl rfl ⟨(blk_cell BK558.out 0).trans rfl, (blk_cell BK558.out 1).trans rfl, (blk_cell BK559.out 0).trans rfl, (blk_cell BK559.out 1).trans rfl⟩ (fun hHeld => ?_)
 generalize w7.drew = w8 at BK558 BK559 BK560 HB hHeld ⊢
 refine take_ (i := 0) (N := some 5) (v := ?_) (a' := ?_) #[true, false, false, false, false] rfl rfl (by kernel_rfl) (fun _ _ _ h => h) (Or.inl ⟨by rfl, ?_⟩) hHeld ?_ ?_
 rotate_left
 ·rintro w' ⟨s0, s1, s2, s3⟩
  go_simp
  with_reducible rfl
 rotate_left
 ·simp only [Act.put, List.setIfInBounds_toArray, List.set_cons_zero, List.set_cons_succ, i64_w, i32_w]
  rfl
 refine take_ (i := 1) (N := some 6) (v := ?_) (a' := ?_) #[true, true, false, false, false] rfl rfl (by kernel_rfl) (fun _ _ _ h => h) (Or.inl ⟨by rfl, ?_⟩) hHeld ?_ ?_
 rotate_left
 ·rintro w' ⟨s0, s1, s2, s3⟩
  go_simp
  with_reducible rfl
 rotate_left
 ·simp only [Act.put, List.setIfInBounds_toArray, List.set_cons_zero, List.set_cons_succ, i64_w, i32_w]
  rfl
 refine one_ (i := 2) (N := some 7) #[true, true, true, false, false] rfl rfl (by kernel_rfl) (by decide) (fun K hK => ?_)
 refine goes_ Tryd.func47 (by kernel_rfl) rfl #[.agg #[.bool a1_0, .string a1_1]] (by rfl) rfl rfl (by (try simp only [List.map_toArray, List.map_cons, List.map_nil]); first | done | rfl | (simp only [List.length_drop, List.length_take]; rfl)) ?_
 with_reducible refine (voussoirref02_Neg.calls k a1_0 a1_1 t561 t562 _ A3.out).mono ?_
 rintro e w9 ⟨rfl, hb⟩
 refine ⟨_, rfl, ?_⟩
 replace BK558 := Q.a (Q.bb BK558 hb)
 replace BK559 := Q.a (Q.bb BK559 hb)
 replace BK560 := Q.a (Q.bb BK560 hb)
 replace HB := Q.a (below_step (Q.bw3 HB GE558 GE559 GE560) hb)
 (try clear hb)
 (try clear hb2)
 (try clear hk)
 (try clear hi)
 refine hK.out _ _ ⟨(blk_cell BK558.out 0).trans rfl, (blk_cell BK558.out 1).trans rfl, (blk_cell BK559.out 0).trans rfl, (blk_cell BK559.out 1).trans rfl⟩ (fun hHeld => ?_)
 clear hK K
 refine norm_ (a' := ?_) ?_ ?_
 rotate_left
 ·show Act.put _ (some 7) _ = _
  simp only [Act.put, List.setIfInBounds_toArray, List.set_cons_zero, List.set_cons_succ, i64_w, i32_w]
  rfl
 refine one_ (i := 3) (N := some 8) #[true, true, true, true, false] rfl rfl (by kernel_rfl) (by decide) (fun K hK => ?_)
 refine goes_ Tryd.func43 (by kernel_rfl) rfl #[.agg #[.bool a0_0, .string a0_1], .agg #[.bool t561, .string t562]] (by rfl) rfl rfl (by (try simp only [List.map_toArray, List.map_cons, List.map_nil]); first | done | rfl | (simp only [List.length_drop, List.length_take]; rfl)) ?_
 with_reducible refine (voussoirref02_Add.calls k a0_0 a0_1 t561 t562 t563 t564 _ A4.out).mono ?_
 rintro e w10 ⟨rfl, hb⟩
 refine ⟨_, rfl, ?_⟩
 replace BK558 := Q.a (Q.bb BK558 hb)
 replace BK559 := Q.a (Q.bb BK559 hb)
 replace BK560 := Q.a (Q.bb BK560 hb)
 replace HB := Q.a (below_step (Q.bw3 HB GE558 GE559 GE560) hb)
 (try clear hb)
 (try clear hb2)
 (try clear hk)
 (try clear hi)
 refine hK.out _ _ ⟨(blk_cell BK558.out 0).trans rfl, (blk_cell BK558.out 1).trans rfl, (blk_cell BK559.out 0).trans rfl, (blk_cell BK559.out 1).trans rfl⟩ (fun hHeld => ?_)
 clear hK K
 refine norm_ (a' := ?_) ?_ ?_
 rotate_left
 ·show Act.put _ (some 8) _ = _
  simp only [Act.put, List.setIfInBounds_toArray, List.set_cons_zero, List.set_cons_succ, i64_w, i32_w]
  rfl
 refine one_ (i := 4) (N := none) #[true, true, true, true, true] rfl rfl (by kernel_rfl) (by decide) (fun K hK => ?_)
 have hs11 : w10.cell? ⟨gb560, 0, none⟩ = some (.bool false) := (blk_cell BK560.out 0).trans rfl
 have hfs11 := blk_frozen BK560.out 0
 have hns11_0 := NB558_560.out
 have hns11_1 := NB559_560.out
 have hms11_0 := NB560_558.out
 have hms11_1 := NB560_559.out
 have hs12 : w10.cell? ⟨gb560, 1, none⟩ = some (.string (⟨#[]⟩ : ByteArray)) := (blk_cell BK560.out 1).trans rfl
 have hfs12 := blk_frozen BK560.out 1
 have hns12_0 := NB558_560.out
 have hns12_1 := NB559_560.out
 have hms12_0 := NB560_558.out
 have hms12_1 := NB560_559.out
 refine skip_ (w1 := ?_) (by rfl) rfl ?_ ?_
 rotate_left
 ·go_simp
  rfl
 refine hK.out _ _ ⟨((cell_far (p := ⟨gb560, _, none⟩) NB558_560.out _).trans (((cell_far (p := ⟨gb560, _, none⟩) NB558_560.out _).trans (hHeld.1)))), ((cell_far (p := ⟨gb560, _, none⟩) NB558_560.out _).trans (((cell_far (p := ⟨gb560, _, none⟩) NB558_560.out _).trans (hHeld.2.1)))), ((cell_far (p := ⟨gb560, _, none⟩) NB559_560.out _).trans (((cell_far (p := ⟨gb560, _, none⟩) NB559_560.out _).trans (hHeld.2.2.1)))), ((cell_far (p := ⟨gb560, _, none⟩) NB559_560.out _).trans (((cell_far (p := ⟨gb560, _, none⟩) NB559_560.out _).trans (hHeld.2.2.2))))⟩ (fun hHeld => ?_)
 clear hK K
 refine done_ (by kernel_rfl) ?_
 try go_wp2
 refine bodyPost_ret (results_cell_row rfl _ _ gb560 36 #[.bool t563, .string t564] (0, 0) _ rfl (by (with_reducible repeat (first | refine blk_drewN ?_ _ | refine blk_drew ?_ | refine blk_alloc ?_ _)); refine blk_put (cs := #[.bool t563, .string (⟨#[]⟩ : ByteArray)]) ?_ 1 _ (by first | rfl | (cases a0.toList <;> rfl) | (cases a1.toList <;> rfl)); (with_reducible repeat (first | refine blk_drewN ?_ _ | refine blk_drew ?_ | refine blk_alloc ?_ _)); refine blk_put (cs := #[.bool false, .string (⟨#[]⟩ : ByteArray)]) ?_ 0 _ (by first | rfl | (cases a0.toList <;> rfl) | (cases a1.toList <;> rfl)); (with_reducible repeat (first | refine blk_drewN ?_ _ | refine blk_drew ?_ | refine blk_alloc ?_ _)); exact BK560.out) Tryd.underlying36 rfl (by kernel_rfl)) rfl ?_
 exact ⟨Q.en, Q.bw3 HB GE558 GE559 GE560⟩

/-! ### voussoirref02_Sign: function 51 -/
def voussoirref02_Sign.f (k : Nat) (a0_0 : Bool) (a0_1 : ByteArray) : Option (Int) := (voussoirref01_Norm.f k a0_1).bind fun t566 => (if t566.toList = ([] : List UInt8) then (some 0) else (if a0_0 = true then (some (-1)) else (some 1)))
theorem voussoirref02_Sign.mono : ∀ a0 a1 k, LeO (voussoirref02_Sign.f k a0 a1) (voussoirref02_Sign.f (k + 1) a0 a1) := by
 intro a0 a1 k
 unfold voussoirref02_Sign.f
 repeat' first
   | (with_reducible exact voussoirref01_Norm.mono _ _)
   | (with_reducible exact LeO.refl _)
   | (with_reducible exact LeO.none _)
   | (with_reducible refine LeO.ite ?_ ?_)
   | (with_reducible refine LeO.bind ?_ (fun _ => ?_))
   | exact voussoirref01_Norm.mono _ _
   | exact LeO.none _
   | refine LeO.ite ?_ ?_
   | refine LeO.bind ?_ (fun _ => ?_)
set_option maxHeartbeats 8000000 in
set_option maxRecDepth 100000 in
theorem voussoirref02_Sign.calls (k : Nat) (a0_0 : Bool) (a0_1 : ByteArray) (r : Int) (w : World) (h : voussoirref02_Sign.f k a0_0 a0_1 = some r) :
  Calls Tryd.prog 51 #[.agg #[.bool a0_0, .string a0_1]] w fun e w' => e = .returned (.int .i64 r) ∧ Below w.heap.size w w' := by
 have hu36 := Tryd.underlying36
 have HB := Q.a (Below.refl w.heap.size w)
 have H : ((voussoirref01_Norm.f k a0_1).bind fun t566 => (if t566.toList = ([] : List UInt8) then (some 0) else (if a0_0 = true then (some (-1)) else (some 1)))) = some r := h
 clear h
 replace H := Option.bind_eq_some_iff.mp H
 obtain ⟨t566, A20, H⟩ := H
 try dsimp only at H
 have A2 := Q.a A20
 clear A20
 by_cases c3 : t566.toList = ([] : List UInt8)
 ·rw [if_pos c3] at H
  have c3b0 : (t566.toList == ([] : List UInt8)) = true := beq_iff_eq.mpr c3
  have c3b1 : (t566.toList != ([] : List UInt8)) = false := bne_eq_false_iff_eq.mpr c3
  clear c3
  obtain rfl := Option.some.inj H
  go_enter Tryd.func51, Tryd.ntmps51
  go_wp2_with (first | ((with_reducible refine gate_dst (N := 1) rfl ?_); refine Q.bx 1 #[.bool a0_0, .string a0_1] 36 rfl rfl ?_; intro gb565 hg w4 hbox hb; replace BK565 := Q.a (hbox); replace GW565 := Q.a (Q.gs hg (below_size (Q.bw HB))); replace GE565 := GW565; replace HB := Q.a (below_step (Q.bw HB) hb); clear hb hbox hg; have hcz5_0 : w4.cell? ⟨gb565, 0, none⟩ = some (.bool a0_0) := (blk_cell BK565.out 0).trans rfl; have hcz5_1 : w4.cell? ⟨gb565, 1, none⟩ = some (.string a0_1) := (blk_cell BK565.out 1).trans rfl; have hfz5_0 := blk_frozen BK565.out 0; have hfz5_1 := blk_frozen BK565.out 1) | ((with_reducible refine gate_callee (f := 31) rfl ?_); refine Q.gl 5 Tryd.func31 #[.string a0_1] rfl rfl rfl rfl ?_; (with_reducible refine (voussoirref01_Norm.calls k a0_1 t566 _ A2.out).mono ?_); rintro e w' ⟨rfl, ⟨nd, rfl⟩⟩; refine ⟨_, rfl, ?_⟩))
  go_ret
  exact ⟨Q.en, Q.bw1 HB GE565⟩
 ·rw [if_neg c3] at H
  have c3b0 : (t566.toList == ([] : List UInt8)) = false := beq_eq_false_iff_ne.mpr c3
  have c3b1 : (t566.toList != ([] : List UInt8)) = true := bne_iff_ne.mpr c3
  by_cases c6 : a0_0 = true
  ·subst c6
   rw [if_pos rfl] at H
   obtain rfl := Option.some.inj H
   go_enter Tryd.func51, Tryd.ntmps51
   go_wp2_with (first | ((with_reducible refine gate_dst (N := 1) rfl ?_); refine Q.bx 1 #[.bool true, .string a0_1] 36 rfl rfl ?_; intro gb565 hg w7 hbox hb; replace BK565 := Q.a (hbox); replace GW565 := Q.a (Q.gs hg (below_size (Q.bw HB))); replace GE565 := GW565; replace HB := Q.a (below_step (Q.bw HB) hb); clear hb hbox hg; have hcz8_0 : w7.cell? ⟨gb565, 0, none⟩ = some (.bool true) := (blk_cell BK565.out 0).trans rfl; have hcz8_1 : w7.cell? ⟨gb565, 1, none⟩ = some (.string a0_1) := (blk_cell BK565.out 1).trans rfl; have hfz8_0 := blk_frozen BK565.out 0; have hfz8_1 := blk_frozen BK565.out 1) | ((with_reducible refine gate_callee (f := 31) rfl ?_); refine Q.gl 5 Tryd.func31 #[.string a0_1] rfl rfl rfl rfl ?_; (with_reducible refine (voussoirref01_Norm.calls k a0_1 t566 _ A2.out).mono ?_); rintro e w' ⟨rfl, ⟨nd, rfl⟩⟩; refine ⟨_, rfl, ?_⟩))
   go_ret
   exact ⟨Q.en, Q.bw1 HB GE565⟩
  ·replace c6 := Bool.eq_false_iff.mpr c6
   subst c6
   rw [if_neg (show ¬ (false = true) by decide)] at H
   obtain rfl := Option.some.inj H
   go_enter Tryd.func51, Tryd.ntmps51
   go_wp2_with (first | ((with_reducible refine gate_dst (N := 1) rfl ?_); refine Q.bx 1 #[.bool false, .string a0_1] 36 rfl rfl ?_; intro gb565 hg w9 hbox hb; replace BK565 := Q.a (hbox); replace GW565 := Q.a (Q.gs hg (below_size (Q.bw HB))); replace GE565 := GW565; replace HB := Q.a (below_step (Q.bw HB) hb); clear hb hbox hg; have hcz10_0 : w9.cell? ⟨gb565, 0, none⟩ = some (.bool false) := (blk_cell BK565.out 0).trans rfl; have hcz10_1 : w9.cell? ⟨gb565, 1, none⟩ = some (.string a0_1) := (blk_cell BK565.out 1).trans rfl; have hfz10_0 := blk_frozen BK565.out 0; have hfz10_1 := blk_frozen BK565.out 1) | ((with_reducible refine gate_callee (f := 31) rfl ?_); refine Q.gl 5 Tryd.func31 #[.string a0_1] rfl rfl rfl rfl ?_; (with_reducible refine (voussoirref01_Norm.calls k a0_1 t566 _ A2.out).mono ?_); rintro e w' ⟨rfl, ⟨nd, rfl⟩⟩; refine ⟨_, rfl, ?_⟩))
   go_ret
   exact ⟨Q.en, Q.bw1 HB GE565⟩
end Go.Proofs.YtpokflilobkoaaaDoor.P
