/- Out of what mp.py printed for this seat (squeeze.py, repack.py). Not trusted: Lean checks it. -/
import Derived.Test.YtpokflilobkoaaaDoorPx0
import Derived.Test.YtpokflilobkoaaaDoorPxIA
import Derived.Test.YtpokflilobkoaaaDoorPxNatAdd
import Derived.Test.YtpokflilobkoaaaDoorPxNatSub
import Derived.Test.YtpokflilobkoaaaDoorXQ
-- squeezed twice
namespace Go.Proofs.YtpokflilobkoaaaDoor.P
open Go.RowKit Go.Proofs.YtpokflilobkoaaaDoorW.PrintWords Go.Proofs.YtpokflilobkoaaaDoorW.PrintLast Go.Proofs.YtpokflilobkoaaaDoorW.PrintMore
attribute [local go_sem] max2_int min2_int max_two min_two max_three min_three max_four min_four   -- for this text's walks alone
attribute [local go_sem] XW.cell_twice   -- for this text's walks alone
set_option linter.unusedVariables false
set_option linter.unusedSimpArgs false

/-! ### integer_Add: function 42 -/
def integer_Add.f (k : Nat) (a0_0 : Bool) (a0_1 : ByteArray) (a1_0 : Bool) (a1_1 : ByteArray) : Option (Bool × ByteArray) := (integer_Normalize.f k a0_0 a0_1).bind fun bt652 => ((integer_Normalize.f k a1_0 a1_1).bind fun bt654 => (if (bt652.1 == bt654.1) = true then ((nat_Add.f k bt652.2 bt654.2).bind fun t656 => ((integer_of.f bt652.1 t656).bind fun bt657 => (some (bt657.1, bt657.2)))) else ((nat_Sub.f k bt652.2 bt654.2).bind fun bt659 => (if bt659.2 = true then ((integer_of.f bt652.1 bt659.1).bind fun bt661 => (some (bt661.1, bt661.2))) else ((nat_Sub.f k bt654.2 bt652.2).bind fun bt663 => ((integer_of.f bt654.1 bt663.1).bind fun bt665 => (some (bt665.1, bt665.2))))))))
theorem integer_Add.mono : ∀ a0 a1 a2 a3 k, LeO (integer_Add.f k a0 a1 a2 a3) (integer_Add.f (k + 1) a0 a1 a2 a3) := by
 intro a0 a1 a2 a3 k
 unfold integer_Add.f
 repeat' first
   | (with_reducible exact integer_Normalize.mono _ _ _)
   | (with_reducible exact nat_Add.mono _ _ _)
   | (with_reducible exact nat_Sub.mono _ _ _)
   | (with_reducible exact LeO.refl _)
   | (with_reducible exact LeO.none _)
   | (with_reducible refine LeO.ite ?_ ?_)
   | (with_reducible refine LeO.bind ?_ (fun _ => ?_))
   | exact integer_Normalize.mono _ _ _
   | exact nat_Add.mono _ _ _
   | exact nat_Sub.mono _ _ _
   | exact LeO.none _
   | refine LeO.ite ?_ ?_
   | refine LeO.bind ?_ (fun _ => ?_)
def integer_Add.T3 : Bool × List (List Nat × List Nat) := (true, [([], []), ([0], [0]), ([], []), ([2], [2]), ([], []), ([4], [4]), ([3, 5], [3, 5]), ([1, 6, 6], [1, 6]), ([7, 7, 0, 1, 2, 3, 4, 5, 6, 7], [7])])
def integer_Add.B3 : List Nat := [0, 1, 0, 4, 0, 16, 60, 127, 255]
theorem integer_Add.tab3 : rtab .any (opsOf Tryd.f42 3) = integer_Add.T3 := by kernel_rfl
theorem integer_Add.bits3 : waitsOk integer_Add.T3.2 integer_Add.B3 = true := by kernel_rfl
set_option maxHeartbeats 8000000 in
set_option maxRecDepth 100000 in
theorem integer_Add.calls (k : Nat) (a0_0 : Bool) (a0_1 : ByteArray) (a1_0 : Bool) (a1_1 : ByteArray) (r1 : Bool) (r2 : ByteArray) (w : World) (h : integer_Add.f k a0_0 a0_1 a1_0 a1_1 = some (r1, r2)) :
  Calls Tryd.prog 42 #[.agg #[.bool a0_0, .string a0_1], .agg #[.bool a1_0, .string a1_1]] w fun e w' => e = .returned (.agg #[.bool r1, .string r2]) ∧ Below w.heap.size w w' := by
 have hu36 := Tryd.underlying36
 have HB := Q.a (Below.refl w.heap.size w)
 have H : ((integer_Normalize.f k a0_0 a0_1).bind fun bt652 => ((integer_Normalize.f k a1_0 a1_1).bind fun bt654 => (if (bt652.1 == bt654.1) = true then ((nat_Add.f k bt652.2 bt654.2).bind fun t656 => ((integer_of.f bt652.1 t656).bind fun bt657 => (some (bt657.1, bt657.2)))) else ((nat_Sub.f k bt652.2 bt654.2).bind fun bt659 => (if bt659.2 = true then ((integer_of.f bt652.1 bt659.1).bind fun bt661 => (some (bt661.1, bt661.2))) else ((nat_Sub.f k bt654.2 bt652.2).bind fun bt663 => ((integer_of.f bt654.1 bt663.1).bind fun bt665 => (some (bt665.1, bt665.2))))))))) = some (r1, r2) := h
 clear h
 replace H := Option.bind_eq_some_iff.mp H
 obtain ⟨⟨t652, t653⟩, A30, H⟩ := H
 try dsimp only at H
 have A3 := Q.a A30
 clear A30
 replace H := Option.bind_eq_some_iff.mp H
 obtain ⟨⟨t654, t655⟩, A40, H⟩ := H
 try dsimp only at H
 have A4 := Q.a A40
 clear A40
 by_cases c5 : (t652 == t654) = true
 ·rw [if_pos c5] at H
  have c5b0 : (t652 == t654) = true := c5
  (try (have c5b1 : decide (t652 = t654) = true := by simpa using c5))
  (try (have c5b2 : (t652 == t654) = true := by simpa using c5))
  clear c5
  replace H := Option.bind_eq_some_iff.mp H
  obtain ⟨t656, A60, H⟩ := H
  try dsimp only at H
  have A6 := Q.a A60
  clear A60
  replace H := Option.bind_eq_some_iff.mp H
  obtain ⟨⟨t657, t658⟩, A70, H⟩ := H
  try dsimp only at H
  have A7 := Q.a A70
  clear A70
  simp only [Option.some.injEq, Prod.mk.injEq] at H
  obtain ⟨rfl, rfl⟩ := H
  go_enter Tryd.func42, Tryd.ntmps42
  try go_wp2_with (first | ((with_reducible refine gate_dst (N := 2) rfl ?_); refine Q.bx 2 #[.bool a0_0, .string a0_1] 36 rfl rfl ?_; intro gb649 hg w8 hbox hb; replace BK649 := Q.a (hbox); replace GW649 := Q.a (Q.gs hg (below_size (Q.bw HB))); replace GE649 := GW649; replace HB := Q.a (below_step (Q.bw HB) hb); clear hb hbox hg) | ((with_reducible refine gate_dst (N := 3) rfl ?_); refine Q.bx 3 #[.bool a1_0, .string a1_1] 36 rfl rfl ?_; intro gb650 hg w9 hbox hb; replace BK650 := Q.a (hbox); replace GW650 := Q.a (Q.gs hg (below_size (Q.bw1 HB GE649))); replace GE650 := GW650; replace HB := Q.a (below_step (Q.bw1 HB GE649) hb); replace NB649_650 := Q.a (Q.nl hg BK649); replace NB650_649 := Q.a (Q.ng hg BK649); replace BK649 := Q.a (Q.bb BK649 hb); clear hb hbox hg) | ((with_reducible refine gate_dst (N := 4) rfl ?_); refine Q.bx 4 #[.bool false, .string (⟨#[]⟩ : ByteArray)] 36 rfl rfl ?_; intro gb651 hg w10 hbox hb; replace BK651 := Q.a (hbox); replace GW651 := Q.a (Q.gs hg (below_size (Q.bw2 HB GE649 GE650))); replace GE651 := GW651; replace HB := Q.a (below_step (Q.bw2 HB GE649 GE650) hb); replace NB649_651 := Q.a (Q.nl hg BK649); replace NB651_649 := Q.a (Q.ng hg BK649); replace BK649 := Q.a (Q.bb BK649 hb); replace NB650_651 := Q.a (Q.nl hg BK650); replace NB651_650 := Q.a (Q.ng hg BK650); replace BK650 := Q.a (Q.bb BK650 hb); clear hb hbox hg))
  replace BK649 := Q.a (blk_drew BK649.out)
  replace BK650 := Q.a (blk_drew BK650.out)
  replace BK651 := Q.a (blk_drew BK651.out)
  replace HB := Q.a (below_drew1 HB.out)
  refine start_ (n := 6) (S := fun w' => w'.cell? ⟨gb649, 0, none⟩ = some (.bool a0_0) ∧ w'.cell? ⟨gb649, 1, none⟩ = some (.string a0_1) ∧ w'.cell? ⟨gb650, 0, none⟩ = some (.bool a1_0) ∧ w'.cell? ⟨gb650, 1, none⟩ = some (.string a1_1)) (ds := [4, 5]) #[false, false, false, false, false, false] (by kernel_rfl) rfl rfl ⟨(blk_cell BK649.out 0).trans rfl, (blk_cell BK649.out 1).trans rfl, (blk_cell BK650.out 0).trans rfl, (blk_cell BK650.out 1).trans rfl⟩ (fun hHeld => ?_)
  generalize w10.drew = w11 at BK649 BK650 BK651 HB hHeld ⊢
  refine take_ (i := 0) (N := some 9) (v := ?_) (a' := ?_) #[true, false, false, false, false, false] rfl rfl (by kernel_rfl) (fun _ _ _ h => h) (Or.inl ⟨by rfl, ?_⟩) hHeld ?_ ?_
  rotate_left
  ·rintro w' ⟨s0, s1, s2, s3⟩
   go_simp
   with_reducible rfl
  rotate_left
  ·simp only [Act.put, List.setIfInBounds_toArray, List.set_cons_zero, List.set_cons_succ, i64_w, i32_w]
   rfl
  refine take_ (i := 2) (N := some 11) (v := ?_) (a' := ?_) #[true, false, true, false, false, false] rfl rfl (by kernel_rfl) (fun _ _ _ h => h) (Or.inl ⟨by rfl, ?_⟩) hHeld ?_ ?_
  rotate_left
  ·rintro w' ⟨s0, s1, s2, s3⟩
   go_simp
   with_reducible rfl
  rotate_left
  ·simp only [Act.put, List.setIfInBounds_toArray, List.set_cons_zero, List.set_cons_succ, i64_w, i32_w]
   rfl
  refine one_ (i := 1) (N := some 10) #[true, true, true, false, false, false] rfl rfl (by kernel_rfl) (by decide) (fun K hK => ?_)
  refine goes_ Tryd.func52 (by kernel_rfl) rfl #[.agg #[.bool a0_0, .string a0_1]] (by rfl) rfl rfl (by (try simp only [List.map_toArray, List.map_cons, List.map_nil]); first | done | rfl | (simp only [List.length_drop, List.length_take]; rfl)) ?_
  with_reducible refine (integer_Normalize.calls k a0_0 a0_1 t652 t653 _ A3.out).mono ?_
  rintro e w12 ⟨rfl, hb⟩
  refine ⟨_, rfl, ?_⟩
  replace BK649 := Q.a (Q.bb BK649 hb)
  replace BK650 := Q.a (Q.bb BK650 hb)
  replace BK651 := Q.a (Q.bb BK651 hb)
  replace HB := Q.a (below_step (Q.bw3 HB GE649 GE650 GE651) hb)
  (try clear hb)
  (try clear hb2)
  (try clear hk)
  (try clear hi)
  refine hK.out _ _ ⟨(blk_cell BK649.out 0).trans rfl, (blk_cell BK649.out 1).trans rfl, (blk_cell BK650.out 0).trans rfl, (blk_cell BK650.out 1).trans rfl⟩ (fun hHeld => ?_)
  clear hK K
  refine norm_ (a' := ?_) ?_ ?_
  rotate_left
  ·show Act.put _ (some 10) _ = _
   simp only [Act.put, List.setIfInBounds_toArray, List.set_cons_zero, List.set_cons_succ, i64_w, i32_w]
   rfl
  refine one_ (i := 3) (N := some 12) #[true, true, true, true, false, false] rfl rfl (by kernel_rfl) (by decide) (fun K hK => ?_)
  refine goes_ Tryd.func52 (by kernel_rfl) rfl #[.agg #[.bool a1_0, .string a1_1]] (by rfl) rfl rfl (by (try simp only [List.map_toArray, List.map_cons, List.map_nil]); first | done | rfl | (simp only [List.length_drop, List.length_take]; rfl)) ?_
  with_reducible refine (integer_Normalize.calls k a1_0 a1_1 t654 t655 _ A4.out).mono ?_
  rintro e w13 ⟨rfl, hb⟩
  refine ⟨_, rfl, ?_⟩
  replace BK649 := Q.a (Q.bb BK649 hb)
  replace BK650 := Q.a (Q.bb BK650 hb)
  replace BK651 := Q.a (Q.bb BK651 hb)
  replace HB := Q.a (below_step (Q.bw3 HB GE649 GE650 GE651) hb)
  (try clear hb)
  (try clear hb2)
  (try clear hk)
  (try clear hi)
  refine hK.out _ _ ⟨(blk_cell BK649.out 0).trans rfl, (blk_cell BK649.out 1).trans rfl, (blk_cell BK650.out 0).trans rfl, (blk_cell BK650.out 1).trans rfl⟩ (fun hHeld => ?_)
  clear hK K
  refine norm_ (a' := ?_) ?_ ?_
  rotate_left
  ·show Act.put _ (some 12) _ = _
   simp only [Act.put, List.setIfInBounds_toArray, List.set_cons_zero, List.set_cons_succ, i64_w, i32_w]
   rfl
  refine last_ (i := 4) (N := none) #[true, true, true, true, true, false] rfl rfl (by kernel_rfl) (by decide) (fun K hK => ?_)
  have hs14 : w13.cell? ⟨gb649, 0, none⟩ = some (.bool a0_0) := (blk_cell BK649.out 0).trans rfl
  have hfs14 := blk_frozen BK649.out 0
  have hns14_1 := NB650_649.out
  have hns14_2 := NB651_649.out
  have hms14_1 := NB649_650.out
  have hms14_2 := NB649_651.out
  have hs15 : w13.cell? ⟨gb649, 1, none⟩ = some (.string a0_1) := (blk_cell BK649.out 1).trans rfl
  have hfs15 := blk_frozen BK649.out 1
  have hns15_1 := NB650_649.out
  have hns15_2 := NB651_649.out
  have hms15_1 := NB649_650.out
  have hms15_2 := NB649_651.out
  refine skip_ (w1 := ?_) (by rfl) rfl ?_ ?_
  rotate_left
  ·go_simp
   rfl
  refine hK.out _ _ ?_
  clear hK K
  refine last_ (i := 5) (N := none) #[true, true, true, true, true, true] rfl rfl (by kernel_rfl) (by decide) (fun K hK => ?_)
  have hs16 : w13.cell? ⟨gb650, 0, none⟩ = some (.bool a1_0) := (blk_cell BK650.out 0).trans rfl
  have hfs16 := blk_frozen BK650.out 0
  have hns16_0 := NB649_650.out
  have hns16_2 := NB651_650.out
  have hms16_0 := NB650_649.out
  have hms16_2 := NB650_651.out
  have hs17 : w13.cell? ⟨gb650, 1, none⟩ = some (.string a1_1) := (blk_cell BK650.out 1).trans rfl
  have hfs17 := blk_frozen BK650.out 1
  have hns17_0 := NB649_650.out
  have hns17_2 := NB651_650.out
  have hms17_0 := NB650_649.out
  have hms17_2 := NB650_651.out
  refine skip_ (w1 := ?_) (by rfl) rfl ?_ ?_
  rotate_left
  ·go_simp
   rfl
  refine hK.out _ _ ?_
  clear hK K
  refine done_ (by kernel_rfl) ?_
  have hnb18 := NB649_650.out
  have hnc18 := NB650_649.out
  have hnb19 := NB649_651.out
  have hnc19 := NB651_649.out
  have hcz20_0 : w13.cell? ⟨gb649, 0, none⟩ = some (.bool a0_0) := (blk_cell BK649.out 0).trans rfl
  have hcz20_1 : w13.cell? ⟨gb649, 1, none⟩ = some (.string a0_1) := (blk_cell BK649.out 1).trans rfl
  have hfz20_0 := blk_frozen BK649.out 0
  have hfz20_1 := blk_frozen BK649.out 1
  have hnb21 := NB650_651.out
  have hnc21 := NB651_650.out
  have hcz22_0 : w13.cell? ⟨gb650, 0, none⟩ = some (.bool a1_0) := (blk_cell BK650.out 0).trans rfl
  have hcz22_1 : w13.cell? ⟨gb650, 1, none⟩ = some (.string a1_1) := (blk_cell BK650.out 1).trans rfl
  have hfz22_0 := blk_frozen BK650.out 0
  have hfz22_1 := blk_frozen BK650.out 1
  try go_wp2
  have n0_ : Aside0 (((((w13.setCell ⟨gb649, 0, none⟩ (.bool t652)).setCell ⟨gb649, 1, none⟩ (.string t653)).setCell ⟨gb650, 0, none⟩ (.bool t654)).setCell ⟨gb650, 1, none⟩ (.string t655)).heap[gb649]? = some (.cells #[.bool t652, .string t653] 36 (0, 0))) := ⟨by (with_reducible repeat (first | refine blk_drewN ?_ _ | refine blk_drew ?_ | refine blk_alloc ?_ _)); refine blk_far ?_ NB649_650.out _; (with_reducible repeat (first | refine blk_drewN ?_ _ | refine blk_drew ?_ | refine blk_alloc ?_ _)); refine blk_far ?_ NB649_650.out _; (with_reducible repeat (first | refine blk_drewN ?_ _ | refine blk_drew ?_ | refine blk_alloc ?_ _)); refine blk_put (cs := #[.bool t652, .string a0_1]) ?_ 1 _ (by first | rfl | (cases a0.toList <;> rfl) | (cases a1.toList <;> rfl)); (with_reducible repeat (first | refine blk_drewN ?_ _ | refine blk_drew ?_ | refine blk_alloc ?_ _)); refine blk_put (cs := #[.bool a0_0, .string a0_1]) ?_ 0 _ (by first | rfl | (cases a0.toList <;> rfl) | (cases a1.toList <;> rfl)); (with_reducible repeat (first | refine blk_drewN ?_ _ | refine blk_drew ?_ | refine blk_alloc ?_ _)); exact BK649.out⟩
  have n1_ : Aside0 (((((w13.setCell ⟨gb649, 0, none⟩ (.bool t652)).setCell ⟨gb649, 1, none⟩ (.string t653)).setCell ⟨gb650, 0, none⟩ (.bool t654)).setCell ⟨gb650, 1, none⟩ (.string t655)).heap[gb650]? = some (.cells #[.bool t654, .string t655] 36 (0, 0))) := ⟨by (with_reducible repeat (first | refine blk_drewN ?_ _ | refine blk_drew ?_ | refine blk_alloc ?_ _)); refine blk_put (cs := #[.bool t654, .string a1_1]) ?_ 1 _ (by first | rfl | (cases a0.toList <;> rfl) | (cases a1.toList <;> rfl)); (with_reducible repeat (first | refine blk_drewN ?_ _ | refine blk_drew ?_ | refine blk_alloc ?_ _)); refine blk_put (cs := #[.bool a1_0, .string a1_1]) ?_ 0 _ (by first | rfl | (cases a0.toList <;> rfl) | (cases a1.toList <;> rfl)); (with_reducible repeat (first | refine blk_drewN ?_ _ | refine blk_drew ?_ | refine blk_alloc ?_ _)); refine blk_far ?_ NB650_649.out _; (with_reducible repeat (first | refine blk_drewN ?_ _ | refine blk_drew ?_ | refine blk_alloc ?_ _)); refine blk_far ?_ NB650_649.out _; (with_reducible repeat (first | refine blk_drewN ?_ _ | refine blk_drew ?_ | refine blk_alloc ?_ _)); exact BK650.out⟩
  have n2_ : Aside0 (((((w13.setCell ⟨gb649, 0, none⟩ (.bool t652)).setCell ⟨gb649, 1, none⟩ (.string t653)).setCell ⟨gb650, 0, none⟩ (.bool t654)).setCell ⟨gb650, 1, none⟩ (.string t655)).heap[gb651]? = some (.cells #[.bool false, .string (⟨#[]⟩ : ByteArray)] 36 (0, 0))) := ⟨by (with_reducible repeat (first | refine blk_drewN ?_ _ | refine blk_drew ?_ | refine blk_alloc ?_ _)); refine blk_far ?_ NB651_650.out _; (with_reducible repeat (first | refine blk_drewN ?_ _ | refine blk_drew ?_ | refine blk_alloc ?_ _)); refine blk_far ?_ NB651_650.out _; (with_reducible repeat (first | refine blk_drewN ?_ _ | refine blk_drew ?_ | refine blk_alloc ?_ _)); refine blk_far ?_ NB651_649.out _; (with_reducible repeat (first | refine blk_drewN ?_ _ | refine blk_drew ?_ | refine blk_alloc ?_ _)); refine blk_far ?_ NB651_649.out _; (with_reducible repeat (first | refine blk_drewN ?_ _ | refine blk_drew ?_ | refine blk_alloc ?_ _)); exact BK651.out⟩
  have n3_ : Aside0 (Below w.heap.size w ((((w13.setCell ⟨gb649, 0, none⟩ (.bool t652)).setCell ⟨gb649, 1, none⟩ (.string t653)).setCell ⟨gb650, 0, none⟩ (.bool t654)).setCell ⟨gb650, 1, none⟩ (.string t655))) := ⟨Q.bw3 HB GE649 GE650 GE651⟩
  (try clear BK649)
  (try clear BK650)
  (try clear BK651)
  (try clear HB)
  generalize ((((w13.setCell ⟨gb649, 0, none⟩ (.bool t652)).setCell ⟨gb649, 1, none⟩ (.string t653)).setCell ⟨gb650, 0, none⟩ (.bool t654)).setCell ⟨gb650, 1, none⟩ (.string t655)) = w23 at n0_ n1_ n2_ n3_ ⊢
  have BK649 := n0_
  have BK650 := n1_
  have BK651 := n2_
  have HB := n3_
  clear n0_ n1_ n2_ n3_
  replace BK649 := Q.a (blk_drew BK649.out)
  replace BK650 := Q.a (blk_drew BK650.out)
  replace BK651 := Q.a (blk_drew BK651.out)
  replace HB := Q.a (below_drew1 HB.out)
  refine start_ (n := 9) (S := fun w' => w'.cell? ⟨gb649, 0, none⟩ = some (.bool t652) ∧ w'.cell? ⟨gb649, 1, none⟩ = some (.string t653) ∧ w'.cell? ⟨gb650, 0, none⟩ = some (.bool t654) ∧ w'.cell? ⟨gb650, 1, none⟩ = some (.string t655)) (ds := []) #[false, false, false, false, false, false, false, false, false] (by kernel_rfl) rfl rfl ⟨(blk_cell BK649.out 0).trans rfl, (blk_cell BK649.out 1).trans rfl, (blk_cell BK650.out 0).trans rfl, (blk_cell BK650.out 1).trans rfl⟩ (fun hHeld => ?_); refine with_tabW integer_Add.tab3 integer_Add.bits3 (fun HT_ HW_ => ?_)
  generalize w23.drew = w24 at BK649 BK650 BK651 HB hHeld ⊢
  refine pure_ (i := 0) (N := some 18) (v := ?_) (a' := ?_) #[true, false, false, false, false, false, false, false, false] rfl rfl (any_of HT_.out (by kernel_rfl)) (fun _ _ _ h => h) (Or.inl ⟨by rfl, ?_⟩) ?_ ?_
  rotate_left
  ·intro w'
   go_simp
   with_reducible rfl
  rotate_left
  ·simp only [Act.put, List.setIfInBounds_toArray, List.set_cons_zero, List.set_cons_succ, i64_w, i32_w]
   rfl
  refine pure_ (i := 2) (N := some 20) (v := ?_) (a' := ?_) #[true, false, true, false, false, false, false, false, false] rfl rfl (any_of HT_.out (by kernel_rfl)) (fun _ _ _ h => h) (Or.inl ⟨by rfl, ?_⟩) ?_ ?_
  rotate_left
  ·intro w'
   go_simp
   with_reducible rfl
  rotate_left
  ·simp only [Act.put, List.setIfInBounds_toArray, List.set_cons_zero, List.set_cons_succ, i64_w, i32_w]
   rfl
  refine pure_ (i := 4) (N := some 22) (v := ?_) (a' := ?_) #[true, false, true, false, true, false, false, false, false] rfl rfl (any_of HT_.out (by kernel_rfl)) (fun _ _ _ h => h) (Or.inl ⟨by rfl, ?_⟩) ?_ ?_
  rotate_left
  ·intro w'
   go_simp
   with_reducible rfl
  rotate_left
  ·simp only [Act.put, List.setIfInBounds_toArray, List.set_cons_zero, List.set_cons_succ, i64_w, i32_w]
   rfl
  refine take_ (i := 1) (N := some 19) (v := ?_) (a' := ?_) #[true, true, true, false, true, false, false, false, false] rfl rfl (take_ofW HT_.out HW_.out (by kernel_rfl)) (fun _ _ _ h => h) (Or.inl ⟨by rfl, ?_⟩) hHeld ?_ ?_
  rotate_left
  ·rintro w' ⟨s0, s1, s2, s3⟩
   go_simp
   with_reducible rfl
  rotate_left
  ·simp only [Act.put, List.setIfInBounds_toArray, List.set_cons_zero, List.set_cons_succ, i64_w, i32_w]
   rfl
  refine take_ (i := 3) (N := some 21) (v := ?_) (a' := ?_) #[true, true, true, true, true, false, false, false, false] rfl rfl (take_ofW HT_.out HW_.out (by kernel_rfl)) (fun _ _ _ h => h) (Or.inl ⟨by rfl, ?_⟩) hHeld ?_ ?_
  rotate_left
  ·rintro w' ⟨s0, s1, s2, s3⟩
   go_simp
   with_reducible rfl
  rotate_left
  ·simp only [Act.put, List.setIfInBounds_toArray, List.set_cons_zero, List.set_cons_succ, i64_w, i32_w]
   rfl
  refine take_ (i := 5) (N := some 23) (v := ?_) (a' := ?_) #[true, true, true, true, true, true, false, false, false] rfl rfl (take_ofW HT_.out HW_.out (by kernel_rfl)) (fun _ _ _ h => h) (Or.inl ⟨by rfl, ?_⟩) hHeld ?_ ?_
  rotate_left
  ·rintro w' ⟨s0, s1, s2, s3⟩
   go_simp
   with_reducible rfl
  rotate_left
  ·simp only [Act.put, List.setIfInBounds_toArray, List.set_cons_zero, List.set_cons_succ, i64_w, i32_w]
   rfl
  refine one_ (i := 6) (N := some 24) #[true, true, true, true, true, true, true, false, false] rfl rfl (one_of HT_.out (by kernel_rfl)) (by decide) (fun K hK => ?_)
  refine goes_ Tryd.func27 (by kernel_rfl) rfl #[.string t653, .string t655] (by rfl) rfl rfl (by (try simp only [List.map_toArray, List.map_cons, List.map_nil]); first | done | rfl | (simp only [List.length_drop, List.length_take]; rfl)) ?_
  with_reducible refine (nat_Add.calls k t653 t655 t656 _ A6.out).mono ?_
  rintro e w25 ⟨rfl, hb⟩
  refine ⟨_, rfl, ?_⟩
  replace BK649 := Q.a (Q.bb BK649 hb)
  replace BK650 := Q.a (Q.bb BK650 hb)
  replace BK651 := Q.a (Q.bb BK651 hb)
  replace HB := Q.a (below_step (Q.bw3 HB GE649 GE650 GE651) hb)
  (try clear hb)
  (try clear hb2)
  (try clear hk)
  (try clear hi)
  refine hK.out _ _ ⟨(blk_cell BK649.out 0).trans rfl, (blk_cell BK649.out 1).trans rfl, (blk_cell BK650.out 0).trans rfl, (blk_cell BK650.out 1).trans rfl⟩ (fun hHeld => ?_)
  clear hK K
  refine norm_ (a' := ?_) ?_ ?_
  rotate_left
  ·show Act.put _ (some 24) _ = _
   simp only [Act.put, List.setIfInBounds_toArray, List.set_cons_zero, List.set_cons_succ, i64_w, i32_w]
   rfl
  refine one_ (i := 7) (N := some 25) #[true, true, true, true, true, true, true, true, false] rfl rfl (one_of HT_.out (by kernel_rfl)) (by decide) (fun K hK => ?_)
  refine goes_ Tryd.func82 (by kernel_rfl) rfl #[.bool t652, .string t656] (by rfl) rfl rfl (by (try simp only [List.map_toArray, List.map_cons, List.map_nil]); first | done | rfl | (simp only [List.length_drop, List.length_take]; rfl)) ?_
  with_reducible refine (integer_of.calls t652 t656 t657 t658 _ A7.out).mono ?_
  rintro e w26 ⟨rfl, hb⟩
  refine ⟨_, rfl, ?_⟩
  replace BK649 := Q.a (Q.bb BK649 hb)
  replace BK650 := Q.a (Q.bb BK650 hb)
  replace BK651 := Q.a (Q.bb BK651 hb)
  replace HB := Q.a (below_step (Q.bw3 HB GE649 GE650 GE651) hb)
  (try clear hb)
  (try clear hb2)
  (try clear hk)
  (try clear hi)
  refine hK.out _ _ ⟨(blk_cell BK649.out 0).trans rfl, (blk_cell BK649.out 1).trans rfl, (blk_cell BK650.out 0).trans rfl, (blk_cell BK650.out 1).trans rfl⟩ (fun hHeld => ?_)
  clear hK K
  refine norm_ (a' := ?_) ?_ ?_
  rotate_left
  ·show Act.put _ (some 25) _ = _
   simp only [Act.put, List.setIfInBounds_toArray, List.set_cons_zero, List.set_cons_succ, i64_w, i32_w]
   rfl
  refine one_ (i := 8) (N := none) #[true, true, true, true, true, true, true, true, true] rfl rfl (one_of HT_.out (by kernel_rfl)) (by decide) (fun K hK => ?_)
  have hs27 : w26.cell? ⟨gb651, 0, none⟩ = some (.bool false) := (blk_cell BK651.out 0).trans rfl
  have hfs27 := blk_frozen BK651.out 0
  have hns27_0 := NB649_651.out
  have hns27_1 := NB650_651.out
  have hms27_0 := NB651_649.out
  have hms27_1 := NB651_650.out
  have hs28 : w26.cell? ⟨gb651, 1, none⟩ = some (.string (⟨#[]⟩ : ByteArray)) := (blk_cell BK651.out 1).trans rfl
  have hfs28 := blk_frozen BK651.out 1
  have hns28_0 := NB649_651.out
  have hns28_1 := NB650_651.out
  have hms28_0 := NB651_649.out
  have hms28_1 := NB651_650.out
  refine skip_ (w1 := ?_) (by rfl) rfl ?_ ?_
  rotate_left
  ·go_simp
   rfl
  refine hK.out _ _ ⟨((cell_far (p := ⟨gb651, _, none⟩) NB649_651.out _).trans (((cell_far (p := ⟨gb651, _, none⟩) NB649_651.out _).trans (hHeld.1)))), ((cell_far (p := ⟨gb651, _, none⟩) NB649_651.out _).trans (((cell_far (p := ⟨gb651, _, none⟩) NB649_651.out _).trans (hHeld.2.1)))), ((cell_far (p := ⟨gb651, _, none⟩) NB650_651.out _).trans (((cell_far (p := ⟨gb651, _, none⟩) NB650_651.out _).trans (hHeld.2.2.1)))), ((cell_far (p := ⟨gb651, _, none⟩) NB650_651.out _).trans (((cell_far (p := ⟨gb651, _, none⟩) NB650_651.out _).trans (hHeld.2.2.2))))⟩ (fun hHeld => ?_)
  clear hK K
  refine done_ (done_of HT_.out (by kernel_rfl)) ?_
  try go_wp2
  refine bodyPost_ret (results_cell_row rfl _ _ gb651 36 #[.bool t657, .string t658] (0, 0) _ rfl (by (with_reducible repeat (first | refine blk_drewN ?_ _ | refine blk_drew ?_ | refine blk_alloc ?_ _)); refine blk_put (cs := #[.bool t657, .string (⟨#[]⟩ : ByteArray)]) ?_ 1 _ (by first | rfl | (cases a0.toList <;> rfl) | (cases a1.toList <;> rfl)); (with_reducible repeat (first | refine blk_drewN ?_ _ | refine blk_drew ?_ | refine blk_alloc ?_ _)); refine blk_put (cs := #[.bool false, .string (⟨#[]⟩ : ByteArray)]) ?_ 0 _ (by first | rfl | (cases a0.toList <;> rfl) | (cases a1.toList <;> rfl)); (with_reducible repeat (first | refine blk_drewN ?_ _ | refine blk_drew ?_ | refine blk_alloc ?_ _)); exact BK651.out) Tryd.underlying36 rfl (by kernel_rfl)) rfl ?_
  exact ⟨Q.en, Q.bw3 HB GE649 GE650 GE651⟩
 ·rw [if_neg c5] at H
  have c5b0 : (t652 == t654) = false := by simpa using c5
  (try (have c5b1 : decide (t652 = t654) = false := by simpa using c5))
  (try (have c5b2 : (t652 == t654) = false := by simpa using c5))
  (try (have c5b3 : ¬ (t652 = t654) := by simpa using c5))
  clear c5
  replace H := Option.bind_eq_some_iff.mp H
  obtain ⟨⟨t659, t660⟩, A290, H⟩ := H
  try dsimp only at H
  have A29 := Q.a A290
  clear A290
  by_cases c30 : t660 = true
  ·subst c30
   have H1 : ((integer_of.f t652 t659).bind fun bt661 => (some (bt661.1, bt661.2))) = some (r1, r2) := by rw [if_pos rfl] at H; exact H
   clear H
   have H := H1
   clear H1
   replace H := Option.bind_eq_some_iff.mp H
   obtain ⟨⟨t661, t662⟩, A310, H⟩ := H
   try dsimp only at H
   have A31 := Q.a A310
   clear A310
   simp only [Option.some.injEq, Prod.mk.injEq] at H
   obtain ⟨rfl, rfl⟩ := H
   go_enter Tryd.func42, Tryd.ntmps42
   try go_wp2_with (first | ((with_reducible refine gate_dst (N := 2) rfl ?_); refine Q.bx 2 #[.bool a0_0, .string a0_1] 36 rfl rfl ?_; intro gb649 hg w32 hbox hb; replace BK649 := Q.a (hbox); replace GW649 := Q.a (Q.gs hg (below_size (Q.bw HB))); replace GE649 := GW649; replace HB := Q.a (below_step (Q.bw HB) hb); clear hb hbox hg) | ((with_reducible refine gate_dst (N := 3) rfl ?_); refine Q.bx 3 #[.bool a1_0, .string a1_1] 36 rfl rfl ?_; intro gb650 hg w33 hbox hb; replace BK650 := Q.a (hbox); replace GW650 := Q.a (Q.gs hg (below_size (Q.bw1 HB GE649))); replace GE650 := GW650; replace HB := Q.a (below_step (Q.bw1 HB GE649) hb); replace NB649_650 := Q.a (Q.nl hg BK649); replace NB650_649 := Q.a (Q.ng hg BK649); replace BK649 := Q.a (Q.bb BK649 hb); clear hb hbox hg) | ((with_reducible refine gate_dst (N := 4) rfl ?_); refine Q.bx 4 #[.bool false, .string (⟨#[]⟩ : ByteArray)] 36 rfl rfl ?_; intro gb651 hg w34 hbox hb; replace BK651 := Q.a (hbox); replace GW651 := Q.a (Q.gs hg (below_size (Q.bw2 HB GE649 GE650))); replace GE651 := GW651; replace HB := Q.a (below_step (Q.bw2 HB GE649 GE650) hb); replace NB649_651 := Q.a (Q.nl hg BK649); replace NB651_649 := Q.a (Q.ng hg BK649); replace BK649 := Q.a (Q.bb BK649 hb); replace NB650_651 := Q.a (Q.nl hg BK650); replace NB651_650 := Q.a (Q.ng hg BK650); replace BK650 := Q.a (Q.bb BK650 hb); clear hb hbox hg))
   replace BK649 := Q.a (blk_drew BK649.out)
   replace BK650 := Q.a (blk_drew BK650.out)
   replace BK651 := Q.a (blk_drew BK651.out)
   replace HB := Q.a (below_drew1 HB.out)
   refine start_ (n := 6) (S := fun w' => w'.cell? ⟨gb649, 0, none⟩ = some (.bool a0_0) ∧ w'.cell? ⟨gb649, 1, none⟩ = some (.string a0_1) ∧ w'.cell? ⟨gb650, 0, none⟩ = some (.bool a1_0) ∧ w'.cell? ⟨gb650, 1, none⟩ = some (.string a1_1)) (ds := [4, 5]) #[false, false, false, false, false, false] (by kernel_rfl) rfl rfl ⟨(blk_cell BK649.out 0).trans rfl, (blk_cell BK649.out 1).trans rfl, (blk_cell BK650.out 0).trans rfl, (blk_cell BK650.out 1).trans rfl⟩ (fun hHeld => ?_)
   generalize w34.drew = w35 at BK649 BK650 BK651 HB hHeld ⊢
   refine take_ (i := 0) (N := some 9) (v := ?_) (a' := ?_) #[true, false, false, false, false, false] rfl rfl (by kernel_rfl) (fun _ _ _ h => h) (Or.inl ⟨by rfl, ?_⟩) hHeld ?_ ?_
   rotate_left
   ·rintro w' ⟨s0, s1, s2, s3⟩
    go_simp
    with_reducible rfl
   rotate_left
   ·simp only [Act.put, List.setIfInBounds_toArray, List.set_cons_zero, List.set_cons_succ, i64_w, i32_w]
    rfl
   refine take_ (i := 2) (N := some 11) (v := ?_) (a' := ?_) #[true, false, true, false, false, false] rfl rfl (by kernel_rfl) (fun _ _ _ h => h) (Or.inl ⟨by rfl, ?_⟩) hHeld ?_ ?_
   rotate_left
   ·rintro w' ⟨s0, s1, s2, s3⟩
    go_simp
    with_reducible rfl
   rotate_left
   ·simp only [Act.put, List.setIfInBounds_toArray, List.set_cons_zero, List.set_cons_succ, i64_w, i32_w]
    rfl
   refine one_ (i := 1) (N := some 10) #[true, true, true, false, false, false] rfl rfl (by kernel_rfl) (by decide) (fun K hK => ?_)
   refine goes_ Tryd.func52 (by kernel_rfl) rfl #[.agg #[.bool a0_0, .string a0_1]] (by rfl) rfl rfl (by (try simp only [List.map_toArray, List.map_cons, List.map_nil]); first | done | rfl | (simp only [List.length_drop, List.length_take]; rfl)) ?_
   with_reducible refine (integer_Normalize.calls k a0_0 a0_1 t652 t653 _ A3.out).mono ?_
   rintro e w36 ⟨rfl, hb⟩
   refine ⟨_, rfl, ?_⟩
   replace BK649 := Q.a (Q.bb BK649 hb)
   replace BK650 := Q.a (Q.bb BK650 hb)
   replace BK651 := Q.a (Q.bb BK651 hb)
   replace HB := Q.a (below_step (Q.bw3 HB GE649 GE650 GE651) hb)
   (try clear hb)
   (try clear hb2)
   (try clear hk)
   (try clear hi)
   refine hK.out _ _ ⟨(blk_cell BK649.out 0).trans rfl, (blk_cell BK649.out 1).trans rfl, (blk_cell BK650.out 0).trans rfl, (blk_cell BK650.out 1).trans rfl⟩ (fun hHeld => ?_)
   clear hK K
   refine norm_ (a' := ?_) ?_ ?_
   rotate_left
   ·show Act.put _ (some 10) _ = _
    simp only [Act.put, List.setIfInBounds_toArray, List.set_cons_zero, List.set_cons_succ, i64_w, i32_w]
    rfl
   refine one_ (i := 3) (N := some 12) #[true, true, true, true, false, false] rfl rfl (by kernel_rfl) (by decide) (fun K hK => ?_)
   refine goes_ Tryd.func52 (by kernel_rfl) rfl #[.agg #[.bool a1_0, .string a1_1]] (by rfl) rfl rfl (by (try simp only [List.map_toArray, List.map_cons, List.map_nil]); first | done | rfl | (simp only [List.length_drop, List.length_take]; rfl)) ?_
   with_reducible refine (integer_Normalize.calls k a1_0 a1_1 t654 t655 _ A4.out).mono ?_
   rintro e w37 ⟨rfl, hb⟩
   refine ⟨_, rfl, ?_⟩
   replace BK649 := Q.a (Q.bb BK649 hb)
   replace BK650 := Q.a (Q.bb BK650 hb)
   replace BK651 := Q.a (Q.bb BK651 hb)
   replace HB := Q.a (below_step (Q.bw3 HB GE649 GE650 GE651) hb)
   (try clear hb)
   (try clear hb2)
   (try clear hk)
   (try clear hi)
   refine hK.out _ _ ⟨(blk_cell BK649.out 0).trans rfl, (blk_cell BK649.out 1).trans rfl, (blk_cell BK650.out 0).trans rfl, (blk_cell BK650.out 1).trans rfl⟩ (fun hHeld => ?_)
   clear hK K
   refine norm_ (a' := ?_) ?_ ?_
   rotate_left
   ·show Act.put _ (some 12) _ = _
    simp only [Act.put, List.setIfInBounds_toArray, List.set_cons_zero, List.set_cons_succ, i64_w, i32_w]
    rfl
   refine last_ (i := 4) (N := none) #[true, true, true, true, true, false] rfl rfl (by kernel_rfl) (by decide) (fun K hK => ?_)
   have hs38 : w37.cell? ⟨gb649, 0, none⟩ = some (.bool a0_0) := (blk_cell BK649.out 0).trans rfl
   have hfs38 := blk_frozen BK649.out 0
   have hns38_1 := NB650_649.out
   have hns38_2 := NB651_649.out
   have hms38_1 := NB649_650.out
   have hms38_2 := NB649_651.out
   have hs39 : w37.cell? ⟨gb649, 1, none⟩ = some (.string a0_1) := (blk_cell BK649.out 1).trans rfl
   have hfs39 := blk_frozen BK649.out 1
   have hns39_1 := NB650_649.out
   have hns39_2 := NB651_649.out
   have hms39_1 := NB649_650.out
   have hms39_2 := NB649_651.out
   refine skip_ (w1 := ?_) (by rfl) rfl ?_ ?_
   rotate_left
   ·go_simp
    rfl
   refine hK.out _ _ ?_
   clear hK K
   refine last_ (i := 5) (N := none) #[true, true, true, true, true, true] rfl rfl (by kernel_rfl) (by decide) (fun K hK => ?_)
   have hs40 : w37.cell? ⟨gb650, 0, none⟩ = some (.bool a1_0) := (blk_cell BK650.out 0).trans rfl
   have hfs40 := blk_frozen BK650.out 0
   have hns40_0 := NB649_650.out
   have hns40_2 := NB651_650.out
   have hms40_0 := NB650_649.out
   have hms40_2 := NB650_651.out
   have hs41 : w37.cell? ⟨gb650, 1, none⟩ = some (.string a1_1) := (blk_cell BK650.out 1).trans rfl
   have hfs41 := blk_frozen BK650.out 1
   have hns41_0 := NB649_650.out
   have hns41_2 := NB651_650.out
   have hms41_0 := NB650_649.out
   have hms41_2 := NB650_651.out
   refine skip_ (w1 := ?_) (by rfl) rfl ?_ ?_
   rotate_left
   ·go_simp
    rfl
   refine hK.out _ _ ?_
   clear hK K
   refine done_ (by kernel_rfl) ?_
   have hnb42 := NB649_650.out
   have hnc42 := NB650_649.out
   have hnb43 := NB649_651.out
   have hnc43 := NB651_649.out
   have hcz44_0 : w37.cell? ⟨gb649, 0, none⟩ = some (.bool a0_0) := (blk_cell BK649.out 0).trans rfl
   have hcz44_1 : w37.cell? ⟨gb649, 1, none⟩ = some (.string a0_1) := (blk_cell BK649.out 1).trans rfl
   have hfz44_0 := blk_frozen BK649.out 0
   have hfz44_1 := blk_frozen BK649.out 1
   have hnb45 := NB650_651.out
   have hnc45 := NB651_650.out
   have hcz46_0 : w37.cell? ⟨gb650, 0, none⟩ = some (.bool a1_0) := (blk_cell BK650.out 0).trans rfl
   have hcz46_1 : w37.cell? ⟨gb650, 1, none⟩ = some (.string a1_1) := (blk_cell BK650.out 1).trans rfl
   have hfz46_0 := blk_frozen BK650.out 0
   have hfz46_1 := blk_frozen BK650.out 1
   try go_wp2_with (first | ((with_reducible refine gate_callee (f := 29) rfl ?_); refine Q.gl 31 Tryd.func29 #[.string t653, .string t655] rfl rfl rfl rfl ?_; (with_reducible refine (nat_Sub.calls k t653 t655 t659 true _ A29.out).mono ?_); rintro e w47 ⟨rfl, hb⟩; refine ⟨_, rfl, ?_⟩; replace BK649 := Q.a (blk_below (g := gb649) (o := .cells #[.bool t652, .string t653] 36 (0, 0)) (by (with_reducible repeat (first | refine blk_drewN ?_ _ | refine blk_drew ?_ | refine blk_alloc ?_ _)); refine blk_far ?_ NB649_650.out _; (with_reducible repeat (first | refine blk_drewN ?_ _ | refine blk_drew ?_ | refine blk_alloc ?_ _)); refine blk_far ?_ NB649_650.out _; (with_reducible repeat (first | refine blk_drewN ?_ _ | refine blk_drew ?_ | refine blk_alloc ?_ _)); refine blk_put (cs := #[.bool t652, .string a0_1]) ?_ 1 _ (by first | rfl | (cases a0.toList <;> rfl) | (cases a1.toList <;> rfl)); (with_reducible repeat (first | refine blk_drewN ?_ _ | refine blk_drew ?_ | refine blk_alloc ?_ _)); refine blk_put (cs := #[.bool a0_0, .string a0_1]) ?_ 0 _ (by first | rfl | (cases a0.toList <;> rfl) | (cases a1.toList <;> rfl)); (with_reducible repeat (first | refine blk_drewN ?_ _ | refine blk_drew ?_ | refine blk_alloc ?_ _)); exact BK649.out) hb); replace BK650 := Q.a (blk_below (g := gb650) (o := .cells #[.bool t654, .string t655] 36 (0, 0)) (by (with_reducible repeat (first | refine blk_drewN ?_ _ | refine blk_drew ?_ | refine blk_alloc ?_ _)); refine blk_put (cs := #[.bool t654, .string a1_1]) ?_ 1 _ (by first | rfl | (cases a0.toList <;> rfl) | (cases a1.toList <;> rfl)); (with_reducible repeat (first | refine blk_drewN ?_ _ | refine blk_drew ?_ | refine blk_alloc ?_ _)); refine blk_put (cs := #[.bool a1_0, .string a1_1]) ?_ 0 _ (by first | rfl | (cases a0.toList <;> rfl) | (cases a1.toList <;> rfl)); (with_reducible repeat (first | refine blk_drewN ?_ _ | refine blk_drew ?_ | refine blk_alloc ?_ _)); refine blk_far ?_ NB650_649.out _; (with_reducible repeat (first | refine blk_drewN ?_ _ | refine blk_drew ?_ | refine blk_alloc ?_ _)); refine blk_far ?_ NB650_649.out _; (with_reducible repeat (first | refine blk_drewN ?_ _ | refine blk_drew ?_ | refine blk_alloc ?_ _)); exact BK650.out) hb); replace BK651 := Q.a (blk_below (g := gb651) (o := .cells #[.bool false, .string (⟨#[]⟩ : ByteArray)] 36 (0, 0)) (by (with_reducible repeat (first | refine blk_drewN ?_ _ | refine blk_drew ?_ | refine blk_alloc ?_ _)); refine blk_far ?_ NB651_650.out _; (with_reducible repeat (first | refine blk_drewN ?_ _ | refine blk_drew ?_ | refine blk_alloc ?_ _)); refine blk_far ?_ NB651_650.out _; (with_reducible repeat (first | refine blk_drewN ?_ _ | refine blk_drew ?_ | refine blk_alloc ?_ _)); refine blk_far ?_ NB651_649.out _; (with_reducible repeat (first | refine blk_drewN ?_ _ | refine blk_drew ?_ | refine blk_alloc ?_ _)); refine blk_far ?_ NB651_649.out _; (with_reducible repeat (first | refine blk_drewN ?_ _ | refine blk_drew ?_ | refine blk_alloc ?_ _)); exact BK651.out) hb); replace HB := Q.a (below_step (Q.bw3 HB GE649 GE650 GE651) hb); (try clear hb); have hcz48_0 : w47.cell? ⟨gb649, 0, none⟩ = some (.bool t652) := (blk_cell BK649.out 0).trans rfl; have hcz48_1 : w47.cell? ⟨gb649, 1, none⟩ = some (.string t653) := (blk_cell BK649.out 1).trans rfl; have hfz48_0 := blk_frozen BK649.out 0; have hfz48_1 := blk_frozen BK649.out 1) | ((with_reducible refine gate_callee (f := 82) rfl ?_); refine Q.gl 38 Tryd.func82 #[.bool t652, .string t659] rfl rfl rfl rfl ?_; (with_reducible refine (integer_of.calls t652 t659 t661 t662 _ A31.out).mono ?_); rintro e w49 ⟨rfl, hb⟩; refine ⟨_, rfl, ?_⟩; replace BK649 := Q.a (Q.bb BK649 hb); replace BK650 := Q.a (Q.bb BK650 hb); replace BK651 := Q.a (Q.bb BK651 hb); replace HB := Q.a (below_step (Q.bw3 HB GE649 GE650 GE651) hb); (try clear hb); have hcz50_0 : w49.cell? ⟨gb651, 0, none⟩ = some (.bool false) := (blk_cell BK651.out 0).trans rfl; have hcz50_1 : w49.cell? ⟨gb651, 1, none⟩ = some (.string (⟨#[]⟩ : ByteArray)) := (blk_cell BK651.out 1).trans rfl; have hfz50_0 := blk_frozen BK651.out 0; have hfz50_1 := blk_frozen BK651.out 1))
   refine bodyPost_ret (results_cell_row rfl _ _ gb651 36 #[.bool t661, .string t662] (0, 0) _ rfl (by (with_reducible repeat (first | refine blk_drewN ?_ _ | refine blk_drew ?_ | refine blk_alloc ?_ _)); refine blk_put (cs := #[.bool t661, .string (⟨#[]⟩ : ByteArray)]) ?_ 1 _ (by first | rfl | (cases a0.toList <;> rfl) | (cases a1.toList <;> rfl)); (with_reducible repeat (first | refine blk_drewN ?_ _ | refine blk_drew ?_ | refine blk_alloc ?_ _)); refine blk_put (cs := #[.bool false, .string (⟨#[]⟩ : ByteArray)]) ?_ 0 _ (by first | rfl | (cases a0.toList <;> rfl) | (cases a1.toList <;> rfl)); (with_reducible repeat (first | refine blk_drewN ?_ _ | refine blk_drew ?_ | refine blk_alloc ?_ _)); exact BK651.out) Tryd.underlying36 rfl (by kernel_rfl)) rfl ?_
   exact ⟨Q.en, Q.bw3 HB GE649 GE650 GE651⟩
  ·replace c30 := Bool.eq_false_iff.mpr c30
   subst c30
   have H1 : ((nat_Sub.f k t655 t653).bind fun bt663 => ((integer_of.f t654 bt663.1).bind fun bt665 => (some (bt665.1, bt665.2)))) = some (r1, r2) := by rw [if_neg (show ¬ (false = true) by decide)] at H; exact H
   clear H
   have H := H1
   clear H1
   replace H := Option.bind_eq_some_iff.mp H
   obtain ⟨⟨t663, t664⟩, A510, H⟩ := H
   try dsimp only at H
   have A51 := Q.a A510
   clear A510
   replace H := Option.bind_eq_some_iff.mp H
   obtain ⟨⟨t665, t666⟩, A520, H⟩ := H
   try dsimp only at H
   have A52 := Q.a A520
   clear A520
   simp only [Option.some.injEq, Prod.mk.injEq] at H
   obtain ⟨rfl, rfl⟩ := H
   go_enter Tryd.func42, Tryd.ntmps42
   try go_wp2_with (first | ((with_reducible refine gate_dst (N := 2) rfl ?_); refine Q.bx 2 #[.bool a0_0, .string a0_1] 36 rfl rfl ?_; intro gb649 hg w53 hbox hb; replace BK649 := Q.a (hbox); replace GW649 := Q.a (Q.gs hg (below_size (Q.bw HB))); replace GE649 := GW649; replace HB := Q.a (below_step (Q.bw HB) hb); clear hb hbox hg) | ((with_reducible refine gate_dst (N := 3) rfl ?_); refine Q.bx 3 #[.bool a1_0, .string a1_1] 36 rfl rfl ?_; intro gb650 hg w54 hbox hb; replace BK650 := Q.a (hbox); replace GW650 := Q.a (Q.gs hg (below_size (Q.bw1 HB GE649))); replace GE650 := GW650; replace HB := Q.a (below_step (Q.bw1 HB GE649) hb); replace NB649_650 := Q.a (Q.nl hg BK649); replace NB650_649 := Q.a (Q.ng hg BK649); replace BK649 := Q.a (Q.bb BK649 hb); clear hb hbox hg) | ((with_reducible refine gate_dst (N := 4) rfl ?_); refine Q.bx 4 #[.bool false, .string (⟨#[]⟩ : ByteArray)] 36 rfl rfl ?_; intro gb651 hg w55 hbox hb; replace BK651 := Q.a (hbox); replace GW651 := Q.a (Q.gs hg (below_size (Q.bw2 HB GE649 GE650))); replace GE651 := GW651; replace HB := Q.a (below_step (Q.bw2 HB GE649 GE650) hb); replace NB649_651 := Q.a (Q.nl hg BK649); replace NB651_649 := Q.a (Q.ng hg BK649); replace BK649 := Q.a (Q.bb BK649 hb); replace NB650_651 := Q.a (Q.nl hg BK650); replace NB651_650 := Q.a (Q.ng hg BK650); replace BK650 := Q.a (Q.bb BK650 hb); clear hb hbox hg))
   replace BK649 := Q.a (blk_drew BK649.out)
   replace BK650 := Q.a (blk_drew BK650.out)
   replace BK651 := Q.a (blk_drew BK651.out)
   replace HB := Q.a (below_drew1 HB.out)
   refine start_ (n := 6) (S := fun w' => w'.cell? ⟨gb649, 0, none⟩ = some (.bool a0_0) ∧ w'.cell? ⟨gb649, 1, none⟩ = some (.string a0_1) ∧ w'.cell? ⟨gb650, 0, none⟩ = some (.bool a1_0) ∧ w'.cell? ⟨gb650, 1, none⟩ = some (.string a1_1)) (ds := [4, 5]) #[false, false, false, false, false, false] (by kernel_rfl) rfl rfl ⟨(blk_cell BK649.out 0).trans rfl, (blk_cell BK649.out 1).trans rfl, (blk_cell BK650.out 0).trans rfl, (blk_cell BK650.out 1).trans rfl⟩ (fun hHeld => ?_)
   generalize w55.drew = w56 at BK649 BK650 BK651 HB hHeld ⊢
   refine take_ (i := 0) (N := some 9) (v := ?_) (a' := ?_) #[true, false, false, false, false, false] rfl rfl (by kernel_rfl) (fun _ _ _ h => h) (Or.inl ⟨by rfl, ?_⟩) hHeld ?_ ?_
   rotate_left
   ·rintro w' ⟨s0, s1, s2, s3⟩
    go_simp
    with_reducible rfl
   rotate_left
   ·simp only [Act.put, List.setIfInBounds_toArray, List.set_cons_zero, List.set_cons_succ, i64_w, i32_w]
    rfl
   refine take_ (i := 2) (N := some 11) (v := ?_) (a' := ?_) #[true, false, true, false, false, false] rfl rfl (by kernel_rfl) (fun _ _ _ h => h) (Or.inl ⟨by rfl, ?_⟩) hHeld ?_ ?_
   rotate_left
   ·rintro w' ⟨s0, s1, s2, s3⟩
    go_simp
    with_reducible rfl
   rotate_left
   ·simp only [Act.put, List.setIfInBounds_toArray, List.set_cons_zero, List.set_cons_succ, i64_w, i32_w]
    rfl
   refine one_ (i := 1) (N := some 10) #[true, true, true, false, false, false] rfl rfl (by kernel_rfl) (by decide) (fun K hK => ?_)
   refine goes_ Tryd.func52 (by kernel_rfl) rfl #[.agg #[.bool a0_0, .string a0_1]] (by rfl) rfl rfl (by (try simp only [List.map_toArray, List.map_cons, List.map_nil]); first | done | rfl | (simp only [List.length_drop, List.length_take]; rfl)) ?_
   with_reducible refine (integer_Normalize.calls k a0_0 a0_1 t652 t653 _ A3.out).mono ?_
   rintro e w57 ⟨rfl, hb⟩
   refine ⟨_, rfl, ?_⟩
   replace BK649 := Q.a (Q.bb BK649 hb)
   replace BK650 := Q.a (Q.bb BK650 hb)
   replace BK651 := Q.a (Q.bb BK651 hb)
   replace HB := Q.a (below_step (Q.bw3 HB GE649 GE650 GE651) hb)
   (try clear hb)
   (try clear hb2)
   (try clear hk)
   (try clear hi)
   refine hK.out _ _ ⟨(blk_cell BK649.out 0).trans rfl, (blk_cell BK649.out 1).trans rfl, (blk_cell BK650.out 0).trans rfl, (blk_cell BK650.out 1).trans rfl⟩ (fun hHeld => ?_)
   clear hK K
   refine norm_ (a' := ?_) ?_ ?_
   rotate_left
   ·show Act.put _ (some 10) _ = _
    simp only [Act.put, List.setIfInBounds_toArray, List.set_cons_zero, List.set_cons_succ, i64_w, i32_w]
    rfl
   refine one_ (i := 3) (N := some 12) #[true, true, true, true, false, false] rfl rfl (by kernel_rfl) (by decide) (fun K hK => ?_)
   refine goes_ Tryd.func52 (by kernel_rfl) rfl #[.agg #[.bool a1_0, .string a1_1]] (by rfl) rfl rfl (by (try simp only [List.map_toArray, List.map_cons, List.map_nil]); first | done | rfl | (simp only [List.length_drop, List.length_take]; rfl)) ?_
   with_reducible refine (integer_Normalize.calls k a1_0 a1_1 t654 t655 _ A4.out).mono ?_
   rintro e w58 ⟨rfl, hb⟩
   refine ⟨_, rfl, ?_⟩
   replace BK649 := Q.a (Q.bb BK649 hb)
   replace BK650 := Q.a (Q.bb BK650 hb)
   replace BK651 := Q.a (Q.bb BK651 hb)
   replace HB := Q.a (below_step (Q.bw3 HB GE649 GE650 GE651) hb)
   (try clear hb)
   (try clear hb2)
   (try clear hk)
   (try clear hi)
   refine hK.out _ _ ⟨(blk_cell BK649.out 0).trans rfl, (blk_cell BK649.out 1).trans rfl, (blk_cell BK650.out 0).trans rfl, (blk_cell BK650.out 1).trans rfl⟩ (fun hHeld => ?_)
   clear hK K
   refine norm_ (a' := ?_) ?_ ?_
   rotate_left
   ·show Act.put _ (some 12) _ = _
    simp only [Act.put, List.setIfInBounds_toArray, List.set_cons_zero, List.set_cons_succ, i64_w, i32_w]
    rfl
   refine last_ (i := 4) (N := none) #[true, true, true, true, true, false] rfl rfl (by kernel_rfl) (by decide) (fun K hK => ?_)
   have hs59 : w58.cell? ⟨gb649, 0, none⟩ = some (.bool a0_0) := (blk_cell BK649.out 0).trans rfl
   have hfs59 := blk_frozen BK649.out 0
   have hns59_1 := NB650_649.out
   have hns59_2 := NB651_649.out
   have hms59_1 := NB649_650.out
   have hms59_2 := NB649_651.out
   have hs60 : w58.cell? ⟨gb649, 1, none⟩ = some (.string a0_1) := (blk_cell BK649.out 1).trans rfl
   have hfs60 := blk_frozen BK649.out 1
   have hns60_1 := NB650_649.out
   have hns60_2 := NB651_649.out
   have hms60_1 := NB649_650.out
   have hms60_2 := NB649_651.out
   refine skip_ (w1 := ?_) (by rfl) rfl ?_ ?_
   rotate_left
   ·go_simp
    rfl
   refine hK.out _ _ ?_
   clear hK K
   refine last_ (i := 5) (N := none) #[true, true, true, true, true, true] rfl rfl (by kernel_rfl) (by decide) (fun K hK => ?_)
   have hs61 : w58.cell? ⟨gb650, 0, none⟩ = some (.bool a1_0) := (blk_cell BK650.out 0).trans rfl
   have hfs61 := blk_frozen BK650.out 0
   have hns61_0 := NB649_650.out
   have hns61_2 := NB651_650.out
   have hms61_0 := NB650_649.out
   have hms61_2 := NB650_651.out
   have hs62 : w58.cell? ⟨gb650, 1, none⟩ = some (.string a1_1) := (blk_cell BK650.out 1).trans rfl
   have hfs62 := blk_frozen BK650.out 1
   have hns62_0 := NB649_650.out
   have hns62_2 := NB651_650.out
   have hms62_0 := NB650_649.out
   have hms62_2 := NB650_651.out
   refine skip_ (w1 := ?_) (by rfl) rfl ?_ ?_
   rotate_left
   ·go_simp
    rfl
   refine hK.out _ _ ?_
   clear hK K
   refine done_ (by kernel_rfl) ?_
   have hnb63 := NB649_650.out
   have hnc63 := NB650_649.out
   have hnb64 := NB649_651.out
   have hnc64 := NB651_649.out
   have hcz65_0 : w58.cell? ⟨gb649, 0, none⟩ = some (.bool a0_0) := (blk_cell BK649.out 0).trans rfl
   have hcz65_1 : w58.cell? ⟨gb649, 1, none⟩ = some (.string a0_1) := (blk_cell BK649.out 1).trans rfl
   have hfz65_0 := blk_frozen BK649.out 0
   have hfz65_1 := blk_frozen BK649.out 1
   have hnb66 := NB650_651.out
   have hnc66 := NB651_650.out
   have hcz67_0 : w58.cell? ⟨gb650, 0, none⟩ = some (.bool a1_0) := (blk_cell BK650.out 0).trans rfl
   have hcz67_1 : w58.cell? ⟨gb650, 1, none⟩ = some (.string a1_1) := (blk_cell BK650.out 1).trans rfl
   have hfz67_0 := blk_frozen BK650.out 0
   have hfz67_1 := blk_frozen BK650.out 1
   try go_wp2_with (first | ((with_reducible refine gate_callee (f := 29) rfl ?_); refine Q.gl 31 Tryd.func29 #[.string t653, .string t655] rfl rfl rfl rfl ?_; (with_reducible refine (nat_Sub.calls k t653 t655 t659 false _ A29.out).mono ?_); rintro e w68 ⟨rfl, hb⟩; refine ⟨_, rfl, ?_⟩; replace BK649 := Q.a (blk_below (g := gb649) (o := .cells #[.bool t652, .string t653] 36 (0, 0)) (by (with_reducible repeat (first | refine blk_drewN ?_ _ | refine blk_drew ?_ | refine blk_alloc ?_ _)); refine blk_far ?_ NB649_650.out _; (with_reducible repeat (first | refine blk_drewN ?_ _ | refine blk_drew ?_ | refine blk_alloc ?_ _)); refine blk_far ?_ NB649_650.out _; (with_reducible repeat (first | refine blk_drewN ?_ _ | refine blk_drew ?_ | refine blk_alloc ?_ _)); refine blk_put (cs := #[.bool t652, .string a0_1]) ?_ 1 _ (by first | rfl | (cases a0.toList <;> rfl) | (cases a1.toList <;> rfl)); (with_reducible repeat (first | refine blk_drewN ?_ _ | refine blk_drew ?_ | refine blk_alloc ?_ _)); refine blk_put (cs := #[.bool a0_0, .string a0_1]) ?_ 0 _ (by first | rfl | (cases a0.toList <;> rfl) | (cases a1.toList <;> rfl)); (with_reducible repeat (first | refine blk_drewN ?_ _ | refine blk_drew ?_ | refine blk_alloc ?_ _)); exact BK649.out) hb); replace BK650 := Q.a (blk_below (g := gb650) (o := .cells #[.bool t654, .string t655] 36 (0, 0)) (by (with_reducible repeat (first | refine blk_drewN ?_ _ | refine blk_drew ?_ | refine blk_alloc ?_ _)); refine blk_put (cs := #[.bool t654, .string a1_1]) ?_ 1 _ (by first | rfl | (cases a0.toList <;> rfl) | (cases a1.toList <;> rfl)); (with_reducible repeat (first | refine blk_drewN ?_ _ | refine blk_drew ?_ | refine blk_alloc ?_ _)); refine blk_put (cs := #[.bool a1_0, .string a1_1]) ?_ 0 _ (by first | rfl | (cases a0.toList <;> rfl) | (cases a1.toList <;> rfl)); (with_reducible repeat (first | refine blk_drewN ?_ _ | refine blk_drew ?_ | refine blk_alloc ?_ _)); refine blk_far ?_ NB650_649.out _; (with_reducible repeat (first | refine blk_drewN ?_ _ | refine blk_drew ?_ | refine blk_alloc ?_ _)); refine blk_far ?_ NB650_649.out _; (with_reducible repeat (first | refine blk_drewN ?_ _ | refine blk_drew ?_ | refine blk_alloc ?_ _)); exact BK650.out) hb); replace BK651 := Q.a (blk_below (g := gb651) (o := .cells #[.bool false, .string (⟨#[]⟩ : ByteArray)] 36 (0, 0)) (by (with_reducible repeat (first | refine blk_drewN ?_ _ | refine blk_drew ?_ | refine blk_alloc ?_ _)); refine blk_far ?_ NB651_650.out _; (with_reducible repeat (first | refine blk_drewN ?_ _ | refine blk_drew ?_ | refine blk_alloc ?_ _)); refine blk_far ?_ NB651_650.out _; (with_reducible repeat (first | refine blk_drewN ?_ _ | refine blk_drew ?_ | refine blk_alloc ?_ _)); refine blk_far ?_ NB651_649.out _; (with_reducible repeat (first | refine blk_drewN ?_ _ | refine blk_drew ?_ | refine blk_alloc ?_ _)); refine blk_far ?_ NB651_649.out _; (with_reducible repeat (first | refine blk_drewN ?_ _ | refine blk_drew ?_ | refine blk_alloc ?_ _)); exact BK651.out) hb); replace HB := Q.a (below_step (Q.bw3 HB GE649 GE650 GE651) hb); (try clear hb); have hcz69_0 : w68.cell? ⟨gb650, 0, none⟩ = some (.bool t654) := (blk_cell BK650.out 0).trans rfl; have hcz69_1 : w68.cell? ⟨gb650, 1, none⟩ = some (.string t655) := (blk_cell BK650.out 1).trans rfl; have hfz69_0 := blk_frozen BK650.out 0; have hfz69_1 := blk_frozen BK650.out 1; have hcz70_0 : w68.cell? ⟨gb649, 0, none⟩ = some (.bool t652) := (blk_cell BK649.out 0).trans rfl; have hcz70_1 : w68.cell? ⟨gb649, 1, none⟩ = some (.string t653) := (blk_cell BK649.out 1).trans rfl; have hfz70_0 := blk_frozen BK649.out 0; have hfz70_1 := blk_frozen BK649.out 1) | ((with_reducible refine gate_callee (f := 29) rfl ?_); refine Q.gl 44 Tryd.func29 #[.string t655, .string t653] rfl rfl rfl rfl ?_; (with_reducible refine (nat_Sub.calls k t655 t653 t663 t664 _ A51.out).mono ?_); rintro e w71 ⟨rfl, hb⟩; refine ⟨_, rfl, ?_⟩; replace BK649 := Q.a (Q.bb BK649 hb); replace BK650 := Q.a (Q.bb BK650 hb); replace BK651 := Q.a (Q.bb BK651 hb); replace HB := Q.a (below_step (Q.bw3 HB GE649 GE650 GE651) hb); (try clear hb); have hcz72_0 : w71.cell? ⟨gb650, 0, none⟩ = some (.bool t654) := (blk_cell BK650.out 0).trans rfl; have hcz72_1 : w71.cell? ⟨gb650, 1, none⟩ = some (.string t655) := (blk_cell BK650.out 1).trans rfl; have hfz72_0 := blk_frozen BK650.out 0; have hfz72_1 := blk_frozen BK650.out 1) | ((with_reducible refine gate_callee (f := 82) rfl ?_); refine Q.gl 50 Tryd.func82 #[.bool t654, .string t663] rfl rfl rfl rfl ?_; (with_reducible refine (integer_of.calls t654 t663 t665 t666 _ A52.out).mono ?_); rintro e w73 ⟨rfl, hb⟩; refine ⟨_, rfl, ?_⟩; replace BK649 := Q.a (Q.bb BK649 hb); replace BK650 := Q.a (Q.bb BK650 hb); replace BK651 := Q.a (Q.bb BK651 hb); replace HB := Q.a (below_step (Q.bw3 HB GE649 GE650 GE651) hb); (try clear hb); have hcz74_0 : w73.cell? ⟨gb651, 0, none⟩ = some (.bool false) := (blk_cell BK651.out 0).trans rfl; have hcz74_1 : w73.cell? ⟨gb651, 1, none⟩ = some (.string (⟨#[]⟩ : ByteArray)) := (blk_cell BK651.out 1).trans rfl; have hfz74_0 := blk_frozen BK651.out 0; have hfz74_1 := blk_frozen BK651.out 1))
   refine bodyPost_ret (results_cell_row rfl _ _ gb651 36 #[.bool t665, .string t666] (0, 0) _ rfl (by (with_reducible repeat (first | refine blk_drewN ?_ _ | refine blk_drew ?_ | refine blk_alloc ?_ _)); refine blk_put (cs := #[.bool t665, .string (⟨#[]⟩ : ByteArray)]) ?_ 1 _ (by first | rfl | (cases a0.toList <;> rfl) | (cases a1.toList <;> rfl)); (with_reducible repeat (first | refine blk_drewN ?_ _ | refine blk_drew ?_ | refine blk_alloc ?_ _)); refine blk_put (cs := #[.bool false, .string (⟨#[]⟩ : ByteArray)]) ?_ 0 _ (by first | rfl | (cases a0.toList <;> rfl) | (cases a1.toList <;> rfl)); (with_reducible repeat (first | refine blk_drewN ?_ _ | refine blk_drew ?_ | refine blk_alloc ?_ _)); exact BK651.out) Tryd.underlying36 rfl (by kernel_rfl)) rfl ?_
   exact ⟨Q.en, Q.bw3 HB GE649 GE650 GE651⟩

/-! ### integer_Neg: function 46 -/
def integer_Neg.f (k : Nat) (a0_0 : Bool) (a0_1 : ByteArray) : Option (Bool × ByteArray) := (integer_Normalize.f k a0_0 a0_1).bind fun bt669 => ((integer_of.f (!bt669.1) bt669.2).bind fun bt671 => (some (bt671.1, bt671.2)))
theorem integer_Neg.mono : ∀ a0 a1 k, LeO (integer_Neg.f k a0 a1) (integer_Neg.f (k + 1) a0 a1) := by
 intro a0 a1 k
 unfold integer_Neg.f
 repeat' first
   | (with_reducible exact integer_Normalize.mono _ _ _)
   | (with_reducible exact LeO.refl _)
   | (with_reducible exact LeO.none _)
   | (with_reducible refine LeO.ite ?_ ?_)
   | (with_reducible refine LeO.bind ?_ (fun _ => ?_))
   | exact integer_Normalize.mono _ _ _
   | exact LeO.none _
   | refine LeO.ite ?_ ?_
   | refine LeO.bind ?_ (fun _ => ?_)
set_option maxHeartbeats 8000000 in
set_option maxRecDepth 100000 in
theorem integer_Neg.calls (k : Nat) (a0_0 : Bool) (a0_1 : ByteArray) (r1 : Bool) (r2 : ByteArray) (w : World) (h : integer_Neg.f k a0_0 a0_1 = some (r1, r2)) :
  Calls Tryd.prog 46 #[.agg #[.bool a0_0, .string a0_1]] w fun e w' => e = .returned (.agg #[.bool r1, .string r2]) ∧ Below w.heap.size w w' := by
 have hu36 := Tryd.underlying36
 have HB := Q.a (Below.refl w.heap.size w)
 have H : ((integer_Normalize.f k a0_0 a0_1).bind fun bt669 => ((integer_of.f (!bt669.1) bt669.2).bind fun bt671 => (some (bt671.1, bt671.2)))) = some (r1, r2) := h
 clear h
 replace H := Option.bind_eq_some_iff.mp H
 obtain ⟨⟨t669, t670⟩, A20, H⟩ := H
 try dsimp only at H
 have A2 := Q.a A20
 clear A20
 replace H := Option.bind_eq_some_iff.mp H
 obtain ⟨⟨t671, t672⟩, A30, H⟩ := H
 try dsimp only at H
 have A3 := Q.a A30
 clear A30
 simp only [Option.some.injEq, Prod.mk.injEq] at H
 obtain ⟨rfl, rfl⟩ := H
 go_enter Tryd.func46, Tryd.ntmps46
 go_wp2_with (first | ((with_reducible refine gate_dst (N := 1) rfl ?_); refine Q.bx 1 #[.bool a0_0, .string a0_1] 36 rfl rfl ?_; intro gb667 hg w4 hbox hb; replace BK667 := Q.a (hbox); replace GW667 := Q.a (Q.gs hg (below_size (Q.bw HB))); replace GE667 := GW667; replace HB := Q.a (below_step (Q.bw HB) hb); clear hb hbox hg) | ((with_reducible refine gate_dst (N := 2) rfl ?_); refine Q.bx 2 #[.bool false, .string (⟨#[]⟩ : ByteArray)] 36 rfl rfl ?_; intro gb668 hg w5 hbox hb; replace BK668 := Q.a (hbox); replace GW668 := Q.a (Q.gs hg (below_size (Q.bw1 HB GE667))); replace GE668 := GW668; replace HB := Q.a (below_step (Q.bw1 HB GE667) hb); replace NB667_668 := Q.a (Q.nl hg BK667); replace NB668_667 := Q.a (Q.ng hg BK667); replace BK667 := Q.a (Q.bb BK667 hb); clear hb hbox hg; have hnb6 := NB667_668.out; have hnc6 := NB668_667.out; have hcz7_0 : w5.cell? ⟨gb667, 0, none⟩ = some (.bool a0_0) := (blk_cell BK667.out 0).trans rfl; have hcz7_1 : w5.cell? ⟨gb667, 1, none⟩ = some (.string a0_1) := (blk_cell BK667.out 1).trans rfl; have hfz7_0 := blk_frozen BK667.out 0; have hfz7_1 := blk_frozen BK667.out 1) | ((with_reducible refine gate_callee (f := 52) rfl ?_); refine Q.gl 4 Tryd.func52 #[.agg #[.bool a0_0, .string a0_1]] rfl rfl rfl rfl ?_; (with_reducible refine (integer_Normalize.calls k a0_0 a0_1 t669 t670 _ A2.out).mono ?_); rintro e w8 ⟨rfl, hb⟩; refine ⟨_, rfl, ?_⟩; replace BK667 := Q.a (Q.bb BK667 hb); replace BK668 := Q.a (Q.bb BK668 hb); replace HB := Q.a (below_step (Q.bw2 HB GE667 GE668) hb); (try clear hb); have hcz9_0 : w8.cell? ⟨gb667, 0, none⟩ = some (.bool a0_0) := (blk_cell BK667.out 0).trans rfl; have hcz9_1 : w8.cell? ⟨gb667, 1, none⟩ = some (.string a0_1) := (blk_cell BK667.out 1).trans rfl; have hfz9_0 := blk_frozen BK667.out 0; have hfz9_1 := blk_frozen BK667.out 1) | ((with_reducible refine gate_callee (f := 82) rfl ?_); refine Q.gl 10 Tryd.func82 #[.bool (!t669), .string t670] rfl rfl rfl rfl ?_; (with_reducible refine (integer_of.calls (!t669) t670 t671 t672 _ A3.out).mono ?_); rintro e w10 ⟨rfl, hb⟩; refine ⟨_, rfl, ?_⟩; replace BK667 := Q.a (blk_below (g := gb667) (o := .cells #[.bool t669, .string t670] 36 (0, 0)) (by (with_reducible repeat (first | refine blk_drewN ?_ _ | refine blk_drew ?_ | refine blk_alloc ?_ _)); refine blk_put (cs := #[.bool t669, .string a0_1]) ?_ 1 _ (by first | rfl | (cases a0.toList <;> rfl) | (cases a1.toList <;> rfl)); (with_reducible repeat (first | refine blk_drewN ?_ _ | refine blk_drew ?_ | refine blk_alloc ?_ _)); refine blk_put (cs := #[.bool a0_0, .string a0_1]) ?_ 0 _ (by first | rfl | (cases a0.toList <;> rfl) | (cases a1.toList <;> rfl)); (with_reducible repeat (first | refine blk_drewN ?_ _ | refine blk_drew ?_ | refine blk_alloc ?_ _)); exact BK667.out) hb); replace BK668 := Q.a (Q.bf BK668 NB668_667 hb); replace HB := Q.a (below_step (Q.bw2 HB GE667 GE668) hb); (try clear hb); have hcz11_0 : w10.cell? ⟨gb668, 0, none⟩ = some (.bool false) := (blk_cell BK668.out 0).trans rfl; have hcz11_1 : w10.cell? ⟨gb668, 1, none⟩ = some (.string (⟨#[]⟩ : ByteArray)) := (blk_cell BK668.out 1).trans rfl; have hfz11_0 := blk_frozen BK668.out 0; have hfz11_1 := blk_frozen BK668.out 1))
 refine bodyPost_ret (results_cell_row rfl _ _ gb668 36 #[.bool t671, .string t672] (0, 0) _ rfl (by (with_reducible repeat (first | refine blk_drewN ?_ _ | refine blk_drew ?_ | refine blk_alloc ?_ _)); refine blk_put (cs := #[.bool t671, .string (⟨#[]⟩ : ByteArray)]) ?_ 1 _ (by first | rfl | (cases a0.toList <;> rfl) | (cases a1.toList <;> rfl)); (with_reducible repeat (first | refine blk_drewN ?_ _ | refine blk_drew ?_ | refine blk_alloc ?_ _)); refine blk_put (cs := #[.bool false, .string (⟨#[]⟩ : ByteArray)]) ?_ 0 _ (by first | rfl | (cases a0.toList <;> rfl) | (cases a1.toList <;> rfl)); (with_reducible repeat (first | refine blk_drewN ?_ _ | refine blk_drew ?_ | refine blk_alloc ?_ _)); exact BK668.out) Tryd.underlying36 rfl (by kernel_rfl)) rfl ?_
 exact ⟨Q.en, Q.bw2 HB GE667 GE668⟩

/-! ### integer_Sub: function 44 -/
def integer_Sub.f (k : Nat) (a0_0 : Bool) (a0_1 : ByteArray) (a1_0 : Bool) (a1_1 : ByteArray) : Option (Bool × ByteArray) := (integer_Neg.f k a1_0 a1_1).bind fun bt676 => ((integer_Add.f k a0_0 a0_1 bt676.1 bt676.2).bind fun bt678 => (some (bt678.1, bt678.2)))
theorem integer_Sub.mono : ∀ a0 a1 a2 a3 k, LeO (integer_Sub.f k a0 a1 a2 a3) (integer_Sub.f (k + 1) a0 a1 a2 a3) := by
 intro a0 a1 a2 a3 k
 unfold integer_Sub.f
 repeat' first
   | (with_reducible exact integer_Add.mono _ _ _ _ _)
   | (with_reducible exact integer_Neg.mono _ _ _)
   | (with_reducible exact LeO.refl _)
   | (with_reducible exact LeO.none _)
   | (with_reducible refine LeO.ite ?_ ?_)
   | (with_reducible refine LeO.bind ?_ (fun _ => ?_))
   | exact integer_Add.mono _ _ _ _ _
   | exact integer_Neg.mono _ _ _
   | exact LeO.none _
   | refine LeO.ite ?_ ?_
   | refine LeO.bind ?_ (fun _ => ?_)
set_option maxHeartbeats 8000000 in
set_option maxRecDepth 100000 in
theorem integer_Sub.calls (k : Nat) (a0_0 : Bool) (a0_1 : ByteArray) (a1_0 : Bool) (a1_1 : ByteArray) (r1 : Bool) (r2 : ByteArray) (w : World) (h : integer_Sub.f k a0_0 a0_1 a1_0 a1_1 = some (r1, r2)) :
  Calls Tryd.prog 44 #[.agg #[.bool a0_0, .string a0_1], .agg #[.bool a1_0, .string a1_1]] w fun e w' => e = .returned (.agg #[.bool r1, .string r2]) ∧ Below w.heap.size w w' := by
 have hu36 := Tryd.underlying36
 have HB := Q.a (Below.refl w.heap.size w)
 have H : ((integer_Neg.f k a1_0 a1_1).bind fun bt676 => ((integer_Add.f k a0_0 a0_1 bt676.1 bt676.2).bind fun bt678 => (some (bt678.1, bt678.2)))) = some (r1, r2) := h
 clear h
 replace H := Option.bind_eq_some_iff.mp H
 obtain ⟨⟨t676, t677⟩, A30, H⟩ := H
 try dsimp only at H
 have A3 := Q.a A30
 clear A30
 replace H := Option.bind_eq_some_iff.mp H
 obtain ⟨⟨t678, t679⟩, A40, H⟩ := H
 try dsimp only at H
 have A4 := Q.a A40
 clear A40
 simp only [Option.some.injEq, Prod.mk.injEq] at H
 obtain ⟨rfl, rfl⟩ := H
 go_enter Tryd.func44, Tryd.ntmps44
 try go_wp2_with (first | ((with_reducible refine gate_dst (N := 2) rfl ?_); refine Q.bx 2 #[.bool a0_0, .string a0_1] 36 rfl rfl ?_; intro gb673 hg w5 hbox hb; replace BK673 := Q.a (hbox); replace GW673 := Q.a (Q.gs hg (below_size (Q.bw HB))); replace GE673 := GW673; replace HB := Q.a (below_step (Q.bw HB) hb); clear hb hbox hg) | ((with_reducible refine gate_dst (N := 3) rfl ?_); refine Q.bx 3 #[.bool a1_0, .string a1_1] 36 rfl rfl ?_; intro gb674 hg w6 hbox hb; replace BK674 := Q.a (hbox); replace GW674 := Q.a (Q.gs hg (below_size (Q.bw1 HB GE673))); replace GE674 := GW674; replace HB := Q.a (below_step (Q.bw1 HB GE673) hb); replace NB673_674 := Q.a (Q.nl hg BK673); replace NB674_673 := Q.a (Q.ng hg BK673); replace BK673 := Q.a (Q.bb BK673 hb); clear hb hbox hg) | ((with_reducible refine gate_dst (N := 4) rfl ?_); refine Q.bx 4 #[.bool false, .string (⟨#[]⟩ : ByteArray)] 36 rfl rfl ?_; intro gb675 hg w7 hbox hb; replace BK675 := Q.a (hbox); replace GW675 := Q.a (Q.gs hg (below_size (Q.bw2 HB GE673 GE674))); replace GE675 := GW675; replace HB := Q.a (below_step (Q.bw2 HB GE673 GE674) hb); replace NB673_675 := Q.a (Q.nl hg BK673); replace NB675_673 := Q.a (Q.ng hg BK673); replace BK673 := Q.a (Q.bb BK673 hb); replace NB674_675 := Q.a (Q.nl hg BK674); replace NB675_674 := Q.a (Q.ng hg BK674); replace BK674 := Q.a (Q.bb BK674 hb); clear hb hbox hg))
 replace BK673 := Q.a (blk_drew BK673.out)
 replace BK674 := Q.a (blk_drew BK674.out)
 replace BK675 := Q.a (blk_drew BK675.out)
 replace HB := Q.a (below_drew1 HB.out)
 refine start_ (n := 5) (S := fun w' => w'.cell? ⟨gb673, 0, none⟩ = some (.bool a0_0) ∧ w'.cell? ⟨gb673, 1, none⟩ = some (.string a0_1) ∧ w'.cell? ⟨gb674, 0, none⟩ = some (.bool a1_0) ∧ w'.cell? ⟨gb674, 1, none⟩ = some (.string a1_1)) (ds := []) #[false, false, false, false, false] (by kernel_rfl) rfl rfl ⟨(blk_cell BK673.out 0).trans rfl, (blk_cell BK673.out 1).trans rfl, (blk_cell BK674.out 0).trans rfl, (blk_cell BK674.out 1).trans rfl⟩ (fun hHeld => ?_)
 generalize w7.drew = w8 at BK673 BK674 BK675 HB hHeld ⊢
 refine take_ (i := 0) (N := some 5) (v := ?_) (a' := ?_) #[true, false, false, false, false] rfl rfl (by kernel_rfl) (fun _ _ _ h => h) (Or.inl ⟨by rfl, ?_⟩) hHeld ?_ ?_
 rotate_left
 ·rintro w' ⟨s0, s1, s2, s3⟩
  go_simp
  with_reducible rfl
 rotate_left
 ·simp only [Act.put, List.setIfInBounds_toArray, List.set_cons_zero, List.set_cons_succ, i64_w, i32_w]
  rfl
 refine take_ (i := 1) (N := some 6) (v := ?_) (a' := ?_) #[true, true, false, false, false] rfl rfl (by kernel_rfl) (fun _ _ _ h => h) (Or.inl ⟨by rfl, ?_⟩) hHeld ?_ ?_
 rotate_left
 ·rintro w' ⟨s0, s1, s2, s3⟩
  go_simp
  with_reducible rfl
 rotate_left
 ·simp only [Act.put, List.setIfInBounds_toArray, List.set_cons_zero, List.set_cons_succ, i64_w, i32_w]
  rfl
 refine one_ (i := 2) (N := some 7) #[true, true, true, false, false] rfl rfl (by kernel_rfl) (by decide) (fun K hK => ?_)
 refine goes_ Tryd.func46 (by kernel_rfl) rfl #[.agg #[.bool a1_0, .string a1_1]] (by rfl) rfl rfl (by (try simp only [List.map_toArray, List.map_cons, List.map_nil]); first | done | rfl | (simp only [List.length_drop, List.length_take]; rfl)) ?_
 with_reducible refine (integer_Neg.calls k a1_0 a1_1 t676 t677 _ A3.out).mono ?_
 rintro e w9 ⟨rfl, hb⟩
 refine ⟨_, rfl, ?_⟩
 replace BK673 := Q.a (Q.bb BK673 hb)
 replace BK674 := Q.a (Q.bb BK674 hb)
 replace BK675 := Q.a (Q.bb BK675 hb)
 replace HB := Q.a (below_step (Q.bw3 HB GE673 GE674 GE675) hb)
 (try clear hb)
 (try clear hb2)
 (try clear hk)
 (try clear hi)
 refine hK.out _ _ ⟨(blk_cell BK673.out 0).trans rfl, (blk_cell BK673.out 1).trans rfl, (blk_cell BK674.out 0).trans rfl, (blk_cell BK674.out 1).trans rfl⟩ (fun hHeld => ?_)
 clear hK K
 refine norm_ (a' := ?_) ?_ ?_
 rotate_left
 ·show Act.put _ (some 7) _ = _
  simp only [Act.put, List.setIfInBounds_toArray, List.set_cons_zero, List.set_cons_succ, i64_w, i32_w]
  rfl
 refine one_ (i := 3) (N := some 8) #[true, true, true, true, false] rfl rfl (by kernel_rfl) (by decide) (fun K hK => ?_)
 refine goes_ Tryd.func42 (by kernel_rfl) rfl #[.agg #[.bool a0_0, .string a0_1], .agg #[.bool t676, .string t677]] (by rfl) rfl rfl (by (try simp only [List.map_toArray, List.map_cons, List.map_nil]); first | done | rfl | (simp only [List.length_drop, List.length_take]; rfl)) ?_
 with_reducible refine (integer_Add.calls k a0_0 a0_1 t676 t677 t678 t679 _ A4.out).mono ?_
 rintro e w10 ⟨rfl, hb⟩
 refine ⟨_, rfl, ?_⟩
 replace BK673 := Q.a (Q.bb BK673 hb)
 replace BK674 := Q.a (Q.bb BK674 hb)
 replace BK675 := Q.a (Q.bb BK675 hb)
 replace HB := Q.a (below_step (Q.bw3 HB GE673 GE674 GE675) hb)
 (try clear hb)
 (try clear hb2)
 (try clear hk)
 (try clear hi)
 refine hK.out _ _ ⟨(blk_cell BK673.out 0).trans rfl, (blk_cell BK673.out 1).trans rfl, (blk_cell BK674.out 0).trans rfl, (blk_cell BK674.out 1).trans rfl⟩ (fun hHeld => ?_)
 clear hK K
 refine norm_ (a' := ?_) ?_ ?_
 rotate_left
 ·show Act.put _ (some 8) _ = _
  simp only [Act.put, List.setIfInBounds_toArray, List.set_cons_zero, List.set_cons_succ, i64_w, i32_w]
  rfl
 refine one_ (i := 4) (N := none) #[true, true, true, true, true] rfl rfl (by kernel_rfl) (by decide) (fun K hK => ?_)
 have hs11 : w10.cell? ⟨gb675, 0, none⟩ = some (.bool false) := (blk_cell BK675.out 0).trans rfl
 have hfs11 := blk_frozen BK675.out 0
 have hns11_0 := NB673_675.out
 have hns11_1 := NB674_675.out
 have hms11_0 := NB675_673.out
 have hms11_1 := NB675_674.out
 have hs12 : w10.cell? ⟨gb675, 1, none⟩ = some (.string (⟨#[]⟩ : ByteArray)) := (blk_cell BK675.out 1).trans rfl
 have hfs12 := blk_frozen BK675.out 1
 have hns12_0 := NB673_675.out
 have hns12_1 := NB674_675.out
 have hms12_0 := NB675_673.out
 have hms12_1 := NB675_674.out
 refine skip_ (w1 := ?_) (by rfl) rfl ?_ ?_
 rotate_left
 ·go_simp
  rfl
 refine hK.out _ _ ⟨((cell_far (p := ⟨gb675, _, none⟩) NB673_675.out _).trans (((cell_far (p := ⟨gb675, _, none⟩) NB673_675.out _).trans (hHeld.1)))), ((cell_far (p := ⟨gb675, _, none⟩) NB673_675.out _).trans (((cell_far (p := ⟨gb675, _, none⟩) NB673_675.out _).trans (hHeld.2.1)))), ((cell_far (p := ⟨gb675, _, none⟩) NB674_675.out _).trans (((cell_far (p := ⟨gb675, _, none⟩) NB674_675.out _).trans (hHeld.2.2.1)))), ((cell_far (p := ⟨gb675, _, none⟩) NB674_675.out _).trans (((cell_far (p := ⟨gb675, _, none⟩) NB674_675.out _).trans (hHeld.2.2.2))))⟩ (fun hHeld => ?_)
 clear hK K
 refine done_ (by kernel_rfl) ?_
 try go_wp2
 refine bodyPost_ret (results_cell_row rfl _ _ gb675 36 #[.bool t678, .string t679] (0, 0) _ rfl (by (with_reducible repeat (first | refine blk_drewN ?_ _ | refine blk_drew ?_ | refine blk_alloc ?_ _)); refine blk_put (cs := #[.bool t678, .string (⟨#[]⟩ : ByteArray)]) ?_ 1 _ (by first | rfl | (cases a0.toList <;> rfl) | (cases a1.toList <;> rfl)); (with_reducible repeat (first | refine blk_drewN ?_ _ | refine blk_drew ?_ | refine blk_alloc ?_ _)); refine blk_put (cs := #[.bool false, .string (⟨#[]⟩ : ByteArray)]) ?_ 0 _ (by first | rfl | (cases a0.toList <;> rfl) | (cases a1.toList <;> rfl)); (with_reducible repeat (first | refine blk_drewN ?_ _ | refine blk_drew ?_ | refine blk_alloc ?_ _)); exact BK675.out) Tryd.underlying36 rfl (by kernel_rfl)) rfl ?_
 exact ⟨Q.en, Q.bw3 HB GE673 GE674 GE675⟩
end Go.Proofs.YtpokflilobkoaaaDoor.P
