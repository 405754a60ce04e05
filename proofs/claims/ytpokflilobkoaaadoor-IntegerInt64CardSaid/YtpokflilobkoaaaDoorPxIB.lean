/- Out of what mp.py printed for this seat (squeeze.py, repack.py). Not trusted: Lean checks it. -/
import Derived.Test.YtpokflilobkoaaaDoorPx0
import Derived.Test.YtpokflilobkoaaaDoorPxIA
import Derived.Test.YtpokflilobkoaaaDoorPxNA
import Derived.Test.YtpokflilobkoaaaDoorPxND
import Derived.Test.YtpokflilobkoaaaDoorPxNatAdd
import Derived.Test.YtpokflilobkoaaaDoorPxNatFormat
import Derived.Test.YtpokflilobkoaaaDoorPxNatSub
import Derived.Test.YtpokflilobkoaaaDoorXQ
-- squeezed twice
namespace Go.Proofs.YtpokflilobkoaaaDoor.P
open Go.RowKit Go.Proofs.YtpokflilobkoaaaDoorW.PrintWords Go.Proofs.YtpokflilobkoaaaDoorW.PrintLast Go.Proofs.YtpokflilobkoaaaDoorW.PrintMore
attribute [local go_sem] max2_int min2_int max_two min_two max_three min_three max_four min_four   -- for this text's walks alone
attribute [local go_sem] XW.cell_twice   -- for this text's walks alone
set_option linter.unusedVariables false
set_option linter.unusedSimpArgs false

/-! ### integer_Div: function 38 -/
def integer_Div.j0 : Nat → ByteArray → ByteArray → Bool → Bool → ByteArray → Bool → ByteArray → Option (Bool × ByteArray × Bool × ByteArray × Bool)
 | 0, _, _, _, _, _, _, _ => none
 | k + 1, x7, x8, x32, x472000, x472001, x473000, x473001 => if x32 = true then ((nat_FromUint64.f k 1).bind fun t482 => ((nat_Add.f k x7 t482).bind fun t483 => ((nat_Normalize.f k x473001).bind fun t484 => ((nat_Sub.f k t484 x8).bind fun bt485 => ((integer_of.f (x472000 != x473000) t483).bind fun bt487 => ((integer_of.f false bt485.1).bind fun bt489 => (some (bt487.1, bt487.2, bt489.1, bt489.2, true)))))))) else ((integer_of.f (x472000 != x473000) x7).bind fun bt491 => ((integer_of.f false x8).bind fun bt493 => (some (bt491.1, bt491.2, bt493.1, bt493.2, true))))
def integer_Div.f (k : Nat) (a0_0 : Bool) (a0_1 : ByteArray) (a1_0 : Bool) (a1_1 : ByteArray) : Option (Bool × ByteArray × Bool × ByteArray × Bool) := (integer_Normalize.f k a0_0 a0_1).bind fun bt475 => ((integer_Normalize.f k a1_0 a1_1).bind fun bt477 => ((nat_Div.f k bt475.2 bt477.2).bind fun bt479 => (if bt479.2.2 = true then (if bt475.1 = true then (integer_Div.j0 k bt479.1 bt479.2.1 (bt479.2.1.toList != ([] : List UInt8)) bt475.1 bt475.2 bt477.1 bt477.2) else (integer_Div.j0 k bt479.1 bt479.2.1 false bt475.1 bt475.2 bt477.1 bt477.2)) else (some (false, (⟨#[]⟩ : ByteArray), false, (⟨#[]⟩ : ByteArray), false)))))
theorem integer_Div.mono_l : ∀ k, (∀ y0 y1 y2 y3 y4 y5 y6, LeO (integer_Div.j0 k y0 y1 y2 y3 y4 y5 y6) (integer_Div.j0 (k + 1) y0 y1 y2 y3 y4 y5 y6))
 | 0 => fun _ _ _ _ _ _ _ r h => by simp [integer_Div.j0] at h
 | k + 1 => by
  have ih0 := integer_Div.mono_l k
  ·intro y0 y1 y2 y3 y4 y5 y6
   unfold integer_Div.j0
   repeat' first
   | (with_reducible exact ih0 _ _ _ _ _ _ _)
   | (with_reducible exact integer_Normalize.mono _ _ _)
   | (with_reducible exact nat_Add.mono _ _ _)
   | (with_reducible exact nat_Div.mono _ _ _)
   | (with_reducible exact nat_FromUint64.mono _ _)
   | (with_reducible exact nat_Normalize.mono _ _)
   | (with_reducible exact nat_Sub.mono _ _ _)
   | (with_reducible exact LeO.refl _)
   | (with_reducible exact LeO.none _)
   | (with_reducible refine LeO.ite ?_ ?_)
   | (with_reducible refine LeO.bind ?_ (fun _ => ?_))
   | exact ih0 _ _ _ _ _ _ _
   | exact integer_Normalize.mono _ _ _
   | exact nat_Add.mono _ _ _
   | exact nat_Div.mono _ _ _
   | exact nat_FromUint64.mono _ _
   | exact nat_Normalize.mono _ _
   | exact nat_Sub.mono _ _ _
   | exact LeO.none _
   | refine LeO.ite ?_ ?_
   | refine LeO.bind ?_ (fun _ => ?_)
theorem integer_Div.mono : ∀ a0 a1 a2 a3 k, LeO (integer_Div.f k a0 a1 a2 a3) (integer_Div.f (k + 1) a0 a1 a2 a3) := by
 intro a0 a1 a2 a3 k
 have ih0 := integer_Div.mono_l k
 unfold integer_Div.f
 repeat' first
   | (with_reducible exact ih0 _ _ _ _ _ _ _)
   | (with_reducible exact integer_Normalize.mono _ _ _)
   | (with_reducible exact nat_Add.mono _ _ _)
   | (with_reducible exact nat_Div.mono _ _ _)
   | (with_reducible exact nat_FromUint64.mono _ _)
   | (with_reducible exact nat_Normalize.mono _ _)
   | (with_reducible exact nat_Sub.mono _ _ _)
   | (with_reducible exact LeO.refl _)
   | (with_reducible exact LeO.none _)
   | (with_reducible refine LeO.ite ?_ ?_)
   | (with_reducible refine LeO.bind ?_ (fun _ => ?_))
   | exact ih0 _ _ _ _ _ _ _
   | exact integer_Normalize.mono _ _ _
   | exact nat_Add.mono _ _ _
   | exact nat_Div.mono _ _ _
   | exact nat_FromUint64.mono _ _
   | exact nat_Normalize.mono _ _
   | exact nat_Sub.mono _ _ _
   | exact LeO.none _
   | refine LeO.ite ?_ ?_
   | refine LeO.bind ?_ (fun _ => ?_)
set_option maxHeartbeats 8000000 in
set_option maxRecDepth 100000 in
theorem integer_Div.calls (k : Nat) (a0_0 : Bool) (a0_1 : ByteArray) (a1_0 : Bool) (a1_1 : ByteArray) (r1 : Bool) (r2 : ByteArray) (r3 : Bool) (r4 : ByteArray) (r5 : Bool) (w : World) (h : integer_Div.f k a0_0 a0_1 a1_0 a1_1 = some (r1, r2, r3, r4, r5)) :
  Calls Tryd.prog 38 #[.agg #[.bool a0_0, .string a0_1], .agg #[.bool a1_0, .string a1_1]] w fun e w' => e = .returned (.tuple #[.agg #[.bool r1, .string r2], .agg #[.bool r3, .string r4], .bool r5]) ∧ Below w.heap.size w w' := by
 have hu36 := Tryd.underlying36
 have HB := Q.a (Below.refl w.heap.size w)
 have H : ((integer_Normalize.f k a0_0 a0_1).bind fun bt475 => ((integer_Normalize.f k a1_0 a1_1).bind fun bt477 => ((nat_Div.f k bt475.2 bt477.2).bind fun bt479 => (if bt479.2.2 = true then (if bt475.1 = true then (integer_Div.j0 k bt479.1 bt479.2.1 (bt479.2.1.toList != ([] : List UInt8)) bt475.1 bt475.2 bt477.1 bt477.2) else (integer_Div.j0 k bt479.1 bt479.2.1 false bt475.1 bt475.2 bt477.1 bt477.2)) else (some (false, (⟨#[]⟩ : ByteArray), false, (⟨#[]⟩ : ByteArray), false)))))) = some (r1, r2, r3, r4, r5) := h
 clear h
 replace H := Option.bind_eq_some_iff.mp H
 obtain ⟨⟨t475, t476⟩, A30, H⟩ := H
 try dsimp only at H
 have A3 := Q.a A30
 clear A30
 replace H := Option.bind_eq_some_iff.mp H
 obtain ⟨⟨t477, t478⟩, A40, H⟩ := H
 try dsimp only at H
 have A4 := Q.a A40
 clear A40
 replace H := Option.bind_eq_some_iff.mp H
 obtain ⟨⟨t479, t480, t481⟩, A50, H⟩ := H
 try dsimp only at H
 have A5 := Q.a A50
 clear A50
 by_cases c6 : t481 = true
 ·subst c6
  have H1 : (if t475 = true then (integer_Div.j0 k t479 t480 (t480.toList != ([] : List UInt8)) t475 t476 t477 t478) else (integer_Div.j0 k t479 t480 false t475 t476 t477 t478)) = some (r1, r2, r3, r4, r5) := by rw [if_pos rfl] at H; exact H
  clear H
  have H := H1
  clear H1
  have HC7 := Q.a H
  clear H
  go_enter Tryd.func38, Tryd.ntmps38
  try go_wp2_with (first | ((with_reducible refine gate_dst (N := 2) rfl ?_); refine Q.bx 2 #[.bool a0_0, .string a0_1] 36 rfl rfl ?_; intro gb471 hg w8 hbox hb; replace BK471 := Q.a (hbox); replace GW471 := Q.a (Q.gs hg (below_size (Q.bw HB))); replace GE471 := GW471; replace HB := Q.a (below_step (Q.bw HB) hb); clear hb hbox hg) | ((with_reducible refine gate_dst (N := 3) rfl ?_); refine Q.bx 3 #[.bool a1_0, .string a1_1] 36 rfl rfl ?_; intro gb472 hg w9 hbox hb; replace BK472 := Q.a (hbox); replace GW472 := Q.a (Q.gs hg (below_size (Q.bw1 HB GE471))); replace GE472 := GW472; replace HB := Q.a (below_step (Q.bw1 HB GE471) hb); replace NB471_472 := Q.a (Q.nl hg BK471); replace NB472_471 := Q.a (Q.ng hg BK471); replace BK471 := Q.a (Q.bb BK471 hb); clear hb hbox hg) | ((with_reducible refine gate_dst (N := 4) rfl ?_); refine Q.bx 4 #[.bool false, .string (⟨#[]⟩ : ByteArray)] 36 rfl rfl ?_; intro gb473 hg w10 hbox hb; replace BK473 := Q.a (hbox); replace GW473 := Q.a (Q.gs hg (below_size (Q.bw2 HB GE471 GE472))); replace GE473 := GW473; replace HB := Q.a (below_step (Q.bw2 HB GE471 GE472) hb); replace NB471_473 := Q.a (Q.nl hg BK471); replace NB473_471 := Q.a (Q.ng hg BK471); replace BK471 := Q.a (Q.bb BK471 hb); replace NB472_473 := Q.a (Q.nl hg BK472); replace NB473_472 := Q.a (Q.ng hg BK472); replace BK472 := Q.a (Q.bb BK472 hb); clear hb hbox hg) | ((with_reducible refine gate_dst (N := 5) rfl ?_); refine Q.bx 5 #[.bool false, .string (⟨#[]⟩ : ByteArray)] 36 rfl rfl ?_; intro gb474 hg w11 hbox hb; replace BK474 := Q.a (hbox); replace GW474 := Q.a (Q.gs hg (below_size (Q.bw3 HB GE471 GE472 GE473))); replace GE474 := GW474; replace HB := Q.a (below_step (Q.bw3 HB GE471 GE472 GE473) hb); replace NB471_474 := Q.a (Q.nl hg BK471); replace NB474_471 := Q.a (Q.ng hg BK471); replace BK471 := Q.a (Q.bb BK471 hb); replace NB472_474 := Q.a (Q.nl hg BK472); replace NB474_472 := Q.a (Q.ng hg BK472); replace BK472 := Q.a (Q.bb BK472 hb); replace NB473_474 := Q.a (Q.nl hg BK473); replace NB474_473 := Q.a (Q.ng hg BK473); replace BK473 := Q.a (Q.bb BK473 hb); clear hb hbox hg))
  replace BK471 := Q.a (blk_drew BK471.out)
  replace BK472 := Q.a (blk_drew BK472.out)
  replace BK473 := Q.a (blk_drew BK473.out)
  replace BK474 := Q.a (blk_drew BK474.out)
  replace HB := Q.a (below_drew1 HB.out)
  refine start_ (n := 6) (S := fun w' => w'.cell? ⟨gb471, 0, none⟩ = some (.bool a0_0) ∧ w'.cell? ⟨gb471, 1, none⟩ = some (.string a0_1) ∧ w'.cell? ⟨gb472, 0, none⟩ = some (.bool a1_0) ∧ w'.cell? ⟨gb472, 1, none⟩ = some (.string a1_1)) (ds := [4, 5]) #[false, false, false, false, false, false] (by kernel_rfl) rfl rfl ⟨(blk_cell BK471.out 0).trans rfl, (blk_cell BK471.out 1).trans rfl, (blk_cell BK472.out 0).trans rfl, (blk_cell BK472.out 1).trans rfl⟩ (fun hHeld => ?_)
  generalize w11.drew = w12 at BK471 BK472 BK473 BK474 HB hHeld ⊢
  refine take_ (i := 0) (N := some 10) (v := ?_) (a' := ?_) #[true, false, false, false, false, false] rfl rfl (by kernel_rfl) (fun _ _ _ h => h) (Or.inl ⟨by rfl, ?_⟩) hHeld ?_ ?_
  rotate_left
  ·rintro w' ⟨s0, s1, s2, s3⟩
   go_simp
   with_reducible rfl
  rotate_left
  ·simp only [Act.put, List.setIfInBounds_toArray, List.set_cons_zero, List.set_cons_succ, i64_w, i32_w]
   rfl
  refine take_ (i := 2) (N := some 12) (v := ?_) (a' := ?_) #[true, false, true, false, false, false] rfl rfl (by kernel_rfl) (fun _ _ _ h => h) (Or.inl ⟨by rfl, ?_⟩) hHeld ?_ ?_
  rotate_left
  ·rintro w' ⟨s0, s1, s2, s3⟩
   go_simp
   with_reducible rfl
  rotate_left
  ·simp only [Act.put, List.setIfInBounds_toArray, List.set_cons_zero, List.set_cons_succ, i64_w, i32_w]
   rfl
  refine one_ (i := 1) (N := some 11) #[true, true, true, false, false, false] rfl rfl (by kernel_rfl) (by decide) (fun K hK => ?_)
  refine goes_ Tryd.func52 (by kernel_rfl) rfl #[.agg #[.bool a0_0, .string a0_1]] (by rfl) rfl rfl (by (try simp only [List.map_toArray, List.map_cons, List.map_nil]); first | done | rfl | (simp only [List.length_drop, List.length_take]; rfl)) ?_
  with_reducible refine (integer_Normalize.calls k a0_0 a0_1 t475 t476 _ A3.out).mono ?_
  rintro e w13 ⟨rfl, hb⟩
  refine ⟨_, rfl, ?_⟩
  replace BK471 := Q.a (Q.bb BK471 hb)
  replace BK472 := Q.a (Q.bb BK472 hb)
  replace BK473 := Q.a (Q.bb BK473 hb)
  replace BK474 := Q.a (Q.bb BK474 hb)
  replace HB := Q.a (below_step (Q.bw4 HB GE471 GE472 GE473 GE474) hb)
  (try clear hb)
  (try clear hb2)
  (try clear hk)
  (try clear hi)
  refine hK.out _ _ ⟨(blk_cell BK471.out 0).trans rfl, (blk_cell BK471.out 1).trans rfl, (blk_cell BK472.out 0).trans rfl, (blk_cell BK472.out 1).trans rfl⟩ (fun hHeld => ?_)
  clear hK K
  refine norm_ (a' := ?_) ?_ ?_
  rotate_left
  ·show Act.put _ (some 11) _ = _
   simp only [Act.put, List.setIfInBounds_toArray, List.set_cons_zero, List.set_cons_succ, i64_w, i32_w]
   rfl
  refine one_ (i := 3) (N := some 13) #[true, true, true, true, false, false] rfl rfl (by kernel_rfl) (by decide) (fun K hK => ?_)
  refine goes_ Tryd.func52 (by kernel_rfl) rfl #[.agg #[.bool a1_0, .string a1_1]] (by rfl) rfl rfl (by (try simp only [List.map_toArray, List.map_cons, List.map_nil]); first | done | rfl | (simp only [List.length_drop, List.length_take]; rfl)) ?_
  with_reducible refine (integer_Normalize.calls k a1_0 a1_1 t477 t478 _ A4.out).mono ?_
  rintro e w14 ⟨rfl, hb⟩
  refine ⟨_, rfl, ?_⟩
  replace BK471 := Q.a (Q.bb BK471 hb)
  replace BK472 := Q.a (Q.bb BK472 hb)
  replace BK473 := Q.a (Q.bb BK473 hb)
  replace BK474 := Q.a (Q.bb BK474 hb)
  replace HB := Q.a (below_step (Q.bw4 HB GE471 GE472 GE473 GE474) hb)
  (try clear hb)
  (try clear hb2)
  (try clear hk)
  (try clear hi)
  refine hK.out _ _ ⟨(blk_cell BK471.out 0).trans rfl, (blk_cell BK471.out 1).trans rfl, (blk_cell BK472.out 0).trans rfl, (blk_cell BK472.out 1).trans rfl⟩ (fun hHeld => ?_)
  clear hK K
  refine norm_ (a' := ?_) ?_ ?_
  rotate_left
  ·show Act.put _ (some 13) _ = _
   simp only [Act.put, List.setIfInBounds_toArray, List.set_cons_zero, List.set_cons_succ, i64_w, i32_w]
   rfl
  refine last_ (i := 4) (N := none) #[true, true, true, true, true, false] rfl rfl (by kernel_rfl) (by decide) (fun K hK => ?_)
  have hs15 : w14.cell? ⟨gb471, 0, none⟩ = some (.bool a0_0) := (blk_cell BK471.out 0).trans rfl
  have hfs15 := blk_frozen BK471.out 0
  have hns15_1 := NB472_471.out
  have hns15_2 := NB473_471.out
  have hns15_3 := NB474_471.out
  have hms15_1 := NB471_472.out
  have hms15_2 := NB471_473.out
  have hms15_3 := NB471_474.out
  have hs16 : w14.cell? ⟨gb471, 1, none⟩ = some (.string a0_1) := (blk_cell BK471.out 1).trans rfl
  have hfs16 := blk_frozen BK471.out 1
  have hns16_1 := NB472_471.out
  have hns16_2 := NB473_471.out
  have hns16_3 := NB474_471.out
  have hms16_1 := NB471_472.out
  have hms16_2 := NB471_473.out
  have hms16_3 := NB471_474.out
  refine skip_ (w1 := ?_) (by rfl) rfl ?_ ?_
  rotate_left
  ·go_simp
   rfl
  refine hK.out _ _ ?_
  clear hK K
  refine last_ (i := 5) (N := none) #[true, true, true, true, true, true] rfl rfl (by kernel_rfl) (by decide) (fun K hK => ?_)
  have hs17 : w14.cell? ⟨gb472, 0, none⟩ = some (.bool a1_0) := (blk_cell BK472.out 0).trans rfl
  have hfs17 := blk_frozen BK472.out 0
  have hns17_0 := NB471_472.out
  have hns17_2 := NB473_472.out
  have hns17_3 := NB474_472.out
  have hms17_0 := NB472_471.out
  have hms17_2 := NB472_473.out
  have hms17_3 := NB472_474.out
  have hs18 : w14.cell? ⟨gb472, 1, none⟩ = some (.string a1_1) := (blk_cell BK472.out 1).trans rfl
  have hfs18 := blk_frozen BK472.out 1
  have hns18_0 := NB471_472.out
  have hns18_2 := NB473_472.out
  have hns18_3 := NB474_472.out
  have hms18_0 := NB472_471.out
  have hms18_2 := NB472_473.out
  have hms18_3 := NB472_474.out
  refine skip_ (w1 := ?_) (by rfl) rfl ?_ ?_
  rotate_left
  ·go_simp
   rfl
  refine hK.out _ _ ?_
  clear hK K
  refine done_ (by kernel_rfl) ?_
  have hnb19 := NB471_472.out
  have hnc19 := NB472_471.out
  have hnb20 := NB471_473.out
  have hnc20 := NB473_471.out
  have hnb21 := NB471_474.out
  have hnc21 := NB474_471.out
  have hcz22_0 : w14.cell? ⟨gb471, 0, none⟩ = some (.bool a0_0) := (blk_cell BK471.out 0).trans rfl
  have hcz22_1 : w14.cell? ⟨gb471, 1, none⟩ = some (.string a0_1) := (blk_cell BK471.out 1).trans rfl
  have hfz22_0 := blk_frozen BK471.out 0
  have hfz22_1 := blk_frozen BK471.out 1
  have hnb23 := NB472_473.out
  have hnc23 := NB473_472.out
  have hnb24 := NB472_474.out
  have hnc24 := NB474_472.out
  have hcz25_0 : w14.cell? ⟨gb472, 0, none⟩ = some (.bool a1_0) := (blk_cell BK472.out 0).trans rfl
  have hcz25_1 : w14.cell? ⟨gb472, 1, none⟩ = some (.string a1_1) := (blk_cell BK472.out 1).trans rfl
  have hfz25_0 := blk_frozen BK472.out 0
  have hfz25_1 := blk_frozen BK472.out 1
  go_upto_region 5 with (first | ((with_reducible refine gate_callee (f := 22) rfl ?_); refine Q.gl 19 Tryd.func22 #[.string t476, .string t478] rfl rfl rfl rfl ?_; (with_reducible refine (nat_Div.calls k t476 t478 t479 t480 true _ A5.out).mono ?_); rintro e w26 ⟨rfl, hb⟩; refine ⟨_, rfl, ?_⟩; replace BK471 := Q.a (blk_below (g := gb471) (o := .cells #[.bool t475, .string t476] 36 (0, 0)) (by (with_reducible repeat (first | refine blk_drewN ?_ _ | refine blk_drew ?_ | refine blk_alloc ?_ _)); refine blk_far ?_ NB471_472.out _; (with_reducible repeat (first | refine blk_drewN ?_ _ | refine blk_drew ?_ | refine blk_alloc ?_ _)); refine blk_far ?_ NB471_472.out _; (with_reducible repeat (first | refine blk_drewN ?_ _ | refine blk_drew ?_ | refine blk_alloc ?_ _)); refine blk_put (cs := #[.bool t475, .string a0_1]) ?_ 1 _ (by first | rfl | (cases a0.toList <;> rfl) | (cases a1.toList <;> rfl)); (with_reducible repeat (first | refine blk_drewN ?_ _ | refine blk_drew ?_ | refine blk_alloc ?_ _)); refine blk_put (cs := #[.bool a0_0, .string a0_1]) ?_ 0 _ (by first | rfl | (cases a0.toList <;> rfl) | (cases a1.toList <;> rfl)); (with_reducible repeat (first | refine blk_drewN ?_ _ | refine blk_drew ?_ | refine blk_alloc ?_ _)); exact BK471.out) hb); replace BK472 := Q.a (blk_below (g := gb472) (o := .cells #[.bool t477, .string t478] 36 (0, 0)) (by (with_reducible repeat (first | refine blk_drewN ?_ _ | refine blk_drew ?_ | refine blk_alloc ?_ _)); refine blk_put (cs := #[.bool t477, .string a1_1]) ?_ 1 _ (by first | rfl | (cases a0.toList <;> rfl) | (cases a1.toList <;> rfl)); (with_reducible repeat (first | refine blk_drewN ?_ _ | refine blk_drew ?_ | refine blk_alloc ?_ _)); refine blk_put (cs := #[.bool a1_0, .string a1_1]) ?_ 0 _ (by first | rfl | (cases a0.toList <;> rfl) | (cases a1.toList <;> rfl)); (with_reducible repeat (first | refine blk_drewN ?_ _ | refine blk_drew ?_ | refine blk_alloc ?_ _)); refine blk_far ?_ NB472_471.out _; (with_reducible repeat (first | refine blk_drewN ?_ _ | refine blk_drew ?_ | refine blk_alloc ?_ _)); refine blk_far ?_ NB472_471.out _; (with_reducible repeat (first | refine blk_drewN ?_ _ | refine blk_drew ?_ | refine blk_alloc ?_ _)); exact BK472.out) hb); replace BK473 := Q.a (blk_below (g := gb473) (o := .cells #[.bool false, .string (⟨#[]⟩ : ByteArray)] 36 (0, 0)) (by (with_reducible repeat (first | refine blk_drewN ?_ _ | refine blk_drew ?_ | refine blk_alloc ?_ _)); refine blk_far ?_ NB473_472.out _; (with_reducible repeat (first | refine blk_drewN ?_ _ | refine blk_drew ?_ | refine blk_alloc ?_ _)); refine blk_far ?_ NB473_472.out _; (with_reducible repeat (first | refine blk_drewN ?_ _ | refine blk_drew ?_ | refine blk_alloc ?_ _)); refine blk_far ?_ NB473_471.out _; (with_reducible repeat (first | refine blk_drewN ?_ _ | refine blk_drew ?_ | refine blk_alloc ?_ _)); refine blk_far ?_ NB473_471.out _; (with_reducible repeat (first | refine blk_drewN ?_ _ | refine blk_drew ?_ | refine blk_alloc ?_ _)); exact BK473.out) hb); replace BK474 := Q.a (blk_below (g := gb474) (o := .cells #[.bool false, .string (⟨#[]⟩ : ByteArray)] 36 (0, 0)) (by (with_reducible repeat (first | refine blk_drewN ?_ _ | refine blk_drew ?_ | refine blk_alloc ?_ _)); refine blk_far ?_ NB474_472.out _; (with_reducible repeat (first | refine blk_drewN ?_ _ | refine blk_drew ?_ | refine blk_alloc ?_ _)); refine blk_far ?_ NB474_472.out _; (with_reducible repeat (first | refine blk_drewN ?_ _ | refine blk_drew ?_ | refine blk_alloc ?_ _)); refine blk_far ?_ NB474_471.out _; (with_reducible repeat (first | refine blk_drewN ?_ _ | refine blk_drew ?_ | refine blk_alloc ?_ _)); refine blk_far ?_ NB474_471.out _; (with_reducible repeat (first | refine blk_drewN ?_ _ | refine blk_drew ?_ | refine blk_alloc ?_ _)); exact BK474.out) hb); replace HB := Q.a (below_step (Q.bw4 HB GE471 GE472 GE473 GE474) hb); (try clear hb)))
  (try simp only [Act.put, List.setIfInBounds_toArray, List.set_cons_zero, List.set_cons_succ])
  go_cut [32] (fun v32 wc => ∃ (kq : Nat) (x32_6 : Bool), v32 = .bool x32_6 ∧ Aside0 (integer_Div.j0 kq t479 t480 x32_6 t475 t476 t477 t478 = some (r1, r2, r3, r4, r5)) ∧ Aside0 (kq ≤ k) ∧ Aside0 (wc.heap[gb471]? = some (.cells #[.bool t475, .string t476] 36 (0, 0))) ∧ Aside0 (wc.heap[gb472]? = some (.cells #[.bool t477, .string t478] 36 (0, 0))) ∧ Aside0 (wc.heap[gb473]? = some (.cells #[.bool false, .string (⟨#[]⟩ : ByteArray)] 36 (0, 0))) ∧ Aside0 (wc.heap[gb474]? = some (.cells #[.bool false, .string (⟨#[]⟩ : ByteArray)] 36 (0, 0))) ∧ Aside0 (Below w.heap.size w wc))
  case first =>
   have H := HC7.out
   clear HC7
   by_cases c27 : t475 = true
   ·subst c27
    have H1 : (integer_Div.j0 k t479 t480 (t480.toList != ([] : List UInt8)) true t476 t477 t478) = some (r1, r2, r3, r4, r5) := by rw [if_pos rfl] at H; exact H
    clear H
    have H := H1
    clear H1
    have H' := Q.a H
    clear H
    have hnb28 := NB471_472.out
    have hnc28 := NB472_471.out
    have hnb29 := NB471_473.out
    have hnc29 := NB473_471.out
    have hnb30 := NB471_474.out
    have hnc30 := NB474_471.out
    have hcz31_0 : w26.cell? ⟨gb471, 0, none⟩ = some (.bool true) := (blk_cell BK471.out 0).trans rfl
    have hcz31_1 : w26.cell? ⟨gb471, 1, none⟩ = some (.string t476) := (blk_cell BK471.out 1).trans rfl
    have hfz31_0 := blk_frozen BK471.out 0
    have hfz31_1 := blk_frozen BK471.out 1
    go_wp2
    go_meet
    case rel => exact ⟨_, ((t480.toList != ([] : List UInt8))), (by first | rfl | (simp; done) | (simp [*]; done) | (cases t480.toList <;> rfl)), H', ⟨by first | omega | exact Nat.le_refl _⟩, ⟨Q.kb BK471⟩, ⟨Q.kb BK472⟩, ⟨Q.kb BK473⟩, ⟨Q.kb BK474⟩, ⟨Q.bw4 HB GE471 GE472 GE473 GE474⟩⟩
   ·replace c27 := Bool.eq_false_iff.mpr c27
    subst c27
    have H1 : (integer_Div.j0 k t479 t480 false false t476 t477 t478) = some (r1, r2, r3, r4, r5) := by rw [if_neg (show ¬ (false = true) by decide)] at H; exact H
    clear H
    have H := H1
    clear H1
    have H' := Q.a H
    clear H
    have hnb32 := NB471_472.out
    have hnc32 := NB472_471.out
    have hnb33 := NB471_473.out
    have hnc33 := NB473_471.out
    have hnb34 := NB471_474.out
    have hnc34 := NB474_471.out
    have hcz35_0 : w26.cell? ⟨gb471, 0, none⟩ = some (.bool false) := (blk_cell BK471.out 0).trans rfl
    have hcz35_1 : w26.cell? ⟨gb471, 1, none⟩ = some (.string t476) := (blk_cell BK471.out 1).trans rfl
    have hfz35_0 := blk_frozen BK471.out 0
    have hfz35_1 := blk_frozen BK471.out 1
    go_wp2
    go_meet
    case rel => exact ⟨_, (false), Q.rs, H', ⟨by first | omega | exact Nat.le_refl _⟩, ⟨Q.kb BK471⟩, ⟨Q.kb BK472⟩, ⟨Q.kb BK473⟩, ⟨Q.kb BK474⟩, ⟨Q.bw4 HB GE471 GE472 GE473 GE474⟩⟩
  case rest =>
   clear HC7
   try clear c1
   try clear c2
   try clear p2
   try clear c3
   try clear c5
   try clear c6
   try clear c19
   try clear c20
   try clear c21
   try clear c22
   try clear c23
   try clear c24
   try clear c27
   try clear c28
   try clear c29
   try clear c30
   try clear c32
   try clear c33
   try clear c34
   try clear hcz22_0
   try clear hcz22_1
   try clear hcz25_0
   try clear hcz25_1
   try clear hcz31_0
   try clear hcz31_1
   try clear hcz35_0
   try clear hcz35_1
   try clear hfz22_0
   try clear hfz22_1
   try clear hfz25_0
   try clear hfz25_1
   try clear hfz31_0
   try clear hfz31_1
   try clear hfz35_0
   try clear hfz35_1
   obtain ⟨kq, x32_6, rfl, HA, HJ6, BK471, BK472, BK473, BK474, HB⟩ := hcut
   cases kq with
   | zero => exact absurd HA.out (by simp [integer_Div.j0])
   | succ kj6 =>
    have H := HA.out
    clear HA
    simp only [integer_Div.j0] at H
    by_cases c36 : x32_6 = true
    ·subst c36
     have H1 : ((nat_FromUint64.f kj6 1).bind fun t482 => ((nat_Add.f kj6 t479 t482).bind fun t483 => ((nat_Normalize.f kj6 t478).bind fun t484 => ((nat_Sub.f kj6 t484 t480).bind fun bt485 => ((integer_of.f (t475 != t477) t483).bind fun bt487 => ((integer_of.f false bt485.1).bind fun bt489 => (some (bt487.1, bt487.2, bt489.1, bt489.2, true)))))))) = some (r1, r2, r3, r4, r5) := by rw [if_pos rfl] at H; exact H
     clear H
     have H := H1
     clear H1
     replace H := Option.bind_eq_some_iff.mp H
     obtain ⟨t482, A370, H⟩ := H
     try dsimp only at H
     have A37 := Q.a A370
     clear A370
     replace H := Option.bind_eq_some_iff.mp H
     obtain ⟨t483, A380, H⟩ := H
     try dsimp only at H
     have A38 := Q.a A380
     clear A380
     replace H := Option.bind_eq_some_iff.mp H
     obtain ⟨t484, A390, H⟩ := H
     try dsimp only at H
     have A39 := Q.a A390
     clear A390
     replace H := Option.bind_eq_some_iff.mp H
     obtain ⟨⟨t485, t486⟩, A400, H⟩ := H
     try dsimp only at H
     have A40 := Q.a A400
     clear A400
     replace H := Option.bind_eq_some_iff.mp H
     obtain ⟨⟨t487, t488⟩, A410, H⟩ := H
     try dsimp only at H
     have A41 := Q.a A410
     clear A410
     replace H := Option.bind_eq_some_iff.mp H
     obtain ⟨⟨t489, t490⟩, A420, H⟩ := H
     try dsimp only at H
     have A42 := Q.a A420
     clear A420
     simp only [Option.some.injEq, Prod.mk.injEq] at H
     obtain ⟨rfl, rfl, rfl, rfl, rfl⟩ := H
     go_wp2_with (first | ((with_reducible refine gate_callee (f := 60) rfl ?_); refine Q.gl 34 Tryd.func60 #[.int .u64 1] rfl rfl rfl rfl ?_; (with_reducible refine (nat_FromUint64.calls kj6 1 t482 _ A37.out).mono ?_); rintro e w43 ⟨rfl, hb⟩; refine ⟨_, rfl, ?_⟩; replace BK471 := Q.a (Q.bb BK471 hb); replace BK472 := Q.a (Q.bb BK472 hb); replace BK473 := Q.a (Q.bb BK473 hb); replace BK474 := Q.a (Q.bb BK474 hb); replace HB := Q.a (below_step (Q.bw4 HB GE471 GE472 GE473 GE474) hb); (try clear hb)) | ((with_reducible refine gate_callee (f := 27) rfl ?_); refine Q.gl 35 Tryd.func27 #[.string t479, .string t482] rfl rfl rfl rfl ?_; (with_reducible refine (nat_Add.calls kj6 t479 t482 t483 _ A38.out).mono ?_); rintro e w44 ⟨rfl, hb⟩; refine ⟨_, rfl, ?_⟩; replace BK471 := Q.a (Q.bb BK471 hb); replace BK472 := Q.a (Q.bb BK472 hb); replace BK473 := Q.a (Q.bb BK473 hb); replace BK474 := Q.a (Q.bb BK474 hb); replace HB := Q.a (below_step (Q.bw4 HB GE471 GE472 GE473 GE474) hb); (try clear hb); have hnb45 := NB472_471.out; have hnc45 := NB471_472.out; have hnb46 := NB472_473.out; have hnc46 := NB473_472.out; have hnb47 := NB472_474.out; have hnc47 := NB474_472.out; have hcz48_0 : w44.cell? ⟨gb472, 0, none⟩ = some (.bool t477) := (blk_cell BK472.out 0).trans rfl; have hcz48_1 : w44.cell? ⟨gb472, 1, none⟩ = some (.string t478) := (blk_cell BK472.out 1).trans rfl; have hfz48_0 := blk_frozen BK472.out 0; have hfz48_1 := blk_frozen BK472.out 1) | ((with_reducible refine gate_callee (f := 26) rfl ?_); refine Q.gl 39 Tryd.func26 #[.string t478] rfl rfl rfl rfl ?_; (with_reducible refine (nat_Normalize.calls kj6 t478 t484 _ A39.out).mono ?_); rintro e w49 ⟨rfl, hb⟩; refine ⟨_, rfl, ?_⟩; replace BK471 := Q.a (Q.bb BK471 hb); replace BK472 := Q.a (Q.bb BK472 hb); replace BK473 := Q.a (Q.bb BK473 hb); replace BK474 := Q.a (Q.bb BK474 hb); replace HB := Q.a (below_step (Q.bw4 HB GE471 GE472 GE473 GE474) hb); (try clear hb)) | ((with_reducible refine gate_callee (f := 29) rfl ?_); refine Q.gl 41 Tryd.func29 #[.string t484, .string t480] rfl rfl rfl rfl ?_; (with_reducible refine (nat_Sub.calls kj6 t484 t480 t485 t486 _ A40.out).mono ?_); rintro e w50 ⟨rfl, hb⟩; refine ⟨_, rfl, ?_⟩; replace BK471 := Q.a (Q.bb BK471 hb); replace BK472 := Q.a (Q.bb BK472 hb); replace BK473 := Q.a (Q.bb BK473 hb); replace BK474 := Q.a (Q.bb BK474 hb); replace HB := Q.a (below_step (Q.bw4 HB GE471 GE472 GE473 GE474) hb); (try clear hb); have hnb51 := NB471_473.out; have hnc51 := NB473_471.out; have hnb52 := NB471_474.out; have hnc52 := NB474_471.out; have hcz53_0 : w50.cell? ⟨gb471, 0, none⟩ = some (.bool t475) := (blk_cell BK471.out 0).trans rfl; have hcz53_1 : w50.cell? ⟨gb471, 1, none⟩ = some (.string t476) := (blk_cell BK471.out 1).trans rfl; have hfz53_0 := blk_frozen BK471.out 0; have hfz53_1 := blk_frozen BK471.out 1; have hcz54_0 : w50.cell? ⟨gb472, 0, none⟩ = some (.bool t477) := (blk_cell BK472.out 0).trans rfl; have hcz54_1 : w50.cell? ⟨gb472, 1, none⟩ = some (.string t478) := (blk_cell BK472.out 1).trans rfl; have hfz54_0 := blk_frozen BK472.out 0; have hfz54_1 := blk_frozen BK472.out 1) | ((with_reducible refine gate_callee (f := 82) rfl ?_); refine Q.gl 50 Tryd.func82 #[.bool (t475 != t477), .string t483] rfl rfl rfl rfl ?_; (with_reducible refine (integer_of.calls (t475 != t477) t483 t487 t488 _ A41.out).mono ?_); rintro e w55 ⟨rfl, hb⟩; refine ⟨_, rfl, ?_⟩; replace BK471 := Q.a (Q.bb BK471 hb); replace BK472 := Q.a (Q.bb BK472 hb); replace BK473 := Q.a (Q.bb BK473 hb); replace BK474 := Q.a (Q.bb BK474 hb); replace HB := Q.a (below_step (Q.bw4 HB GE471 GE472 GE473 GE474) hb); (try clear hb)) | ((with_reducible refine gate_callee (f := 82) rfl ?_); refine Q.gl 52 Tryd.func82 #[.bool false, .string t485] rfl rfl rfl rfl ?_; (with_reducible refine (integer_of.calls false t485 t489 t490 _ A42.out).mono ?_); rintro e w56 ⟨rfl, hb⟩; refine ⟨_, rfl, ?_⟩; replace BK471 := Q.a (Q.bb BK471 hb); replace BK472 := Q.a (Q.bb BK472 hb); replace BK473 := Q.a (Q.bb BK473 hb); replace BK474 := Q.a (Q.bb BK474 hb); replace HB := Q.a (below_step (Q.bw4 HB GE471 GE472 GE473 GE474) hb); (try clear hb); have hnb57 := NB473_474.out; have hnc57 := NB474_473.out; have hcz58_0 : w56.cell? ⟨gb473, 0, none⟩ = some (.bool false) := (blk_cell BK473.out 0).trans rfl; have hcz58_1 : w56.cell? ⟨gb473, 1, none⟩ = some (.string (⟨#[]⟩ : ByteArray)) := (blk_cell BK473.out 1).trans rfl; have hfz58_0 := blk_frozen BK473.out 0; have hfz58_1 := blk_frozen BK473.out 1; have hcz59_0 : w56.cell? ⟨gb474, 0, none⟩ = some (.bool false) := (blk_cell BK474.out 0).trans rfl; have hcz59_1 : w56.cell? ⟨gb474, 1, none⟩ = some (.string (⟨#[]⟩ : ByteArray)) := (blk_cell BK474.out 1).trans rfl; have hfz59_0 := blk_frozen BK474.out 0; have hfz59_1 := blk_frozen BK474.out 1))
     refine bodyPost_ret (results_list (rs := [.cell 4 36, .cell 5 36, .tmp 6]) rfl (by simp) (.cell gb473 36 #[.bool t487, .string t488] (0, 0) _ rfl (by (with_reducible repeat (first | refine blk_drewN ?_ _ | refine blk_drew ?_ | refine blk_alloc ?_ _)); refine blk_far ?_ NB473_474.out _; (with_reducible repeat (first | refine blk_drewN ?_ _ | refine blk_drew ?_ | refine blk_alloc ?_ _)); refine blk_far ?_ NB473_474.out _; (with_reducible repeat (first | refine blk_drewN ?_ _ | refine blk_drew ?_ | refine blk_alloc ?_ _)); refine blk_put (cs := #[.bool t487, .string (⟨#[]⟩ : ByteArray)]) ?_ 1 _ (by first | rfl | (cases a0.toList <;> rfl) | (cases a1.toList <;> rfl)); (with_reducible repeat (first | refine blk_drewN ?_ _ | refine blk_drew ?_ | refine blk_alloc ?_ _)); refine blk_put (cs := #[.bool false, .string (⟨#[]⟩ : ByteArray)]) ?_ 0 _ (by first | rfl | (cases a0.toList <;> rfl) | (cases a1.toList <;> rfl)); (with_reducible repeat (first | refine blk_drewN ?_ _ | refine blk_drew ?_ | refine blk_alloc ?_ _)); exact BK473.out) Tryd.underlying36 rfl (by kernel_rfl) (.cell gb474 36 #[.bool t489, .string t490] (0, 0) _ rfl (by (with_reducible repeat (first | refine blk_drewN ?_ _ | refine blk_drew ?_ | refine blk_alloc ?_ _)); refine blk_put (cs := #[.bool t489, .string (⟨#[]⟩ : ByteArray)]) ?_ 1 _ (by first | rfl | (cases a0.toList <;> rfl) | (cases a1.toList <;> rfl)); (with_reducible repeat (first | refine blk_drewN ?_ _ | refine blk_drew ?_ | refine blk_alloc ?_ _)); refine blk_put (cs := #[.bool false, .string (⟨#[]⟩ : ByteArray)]) ?_ 0 _ (by first | rfl | (cases a0.toList <;> rfl) | (cases a1.toList <;> rfl)); (with_reducible repeat (first | refine blk_drewN ?_ _ | refine blk_drew ?_ | refine blk_alloc ?_ _)); refine blk_far ?_ NB474_473.out _; (with_reducible repeat (first | refine blk_drewN ?_ _ | refine blk_drew ?_ | refine blk_alloc ?_ _)); refine blk_far ?_ NB474_473.out _; (with_reducible repeat (first | refine blk_drewN ?_ _ | refine blk_drew ?_ | refine blk_alloc ?_ _)); exact BK474.out) Tryd.underlying36 rfl (by kernel_rfl) (.tmp .nil)))) rfl ?_
     exact ⟨Q.en, Q.bw4 HB GE471 GE472 GE473 GE474⟩
    ·replace c36 := Bool.eq_false_iff.mpr c36
     subst c36
     have H1 : ((integer_of.f (t475 != t477) t479).bind fun bt491 => ((integer_of.f false t480).bind fun bt493 => (some (bt491.1, bt491.2, bt493.1, bt493.2, true)))) = some (r1, r2, r3, r4, r5) := by rw [if_neg (show ¬ (false = true) by decide)] at H; exact H
     clear H
     have H := H1
     clear H1
     replace H := Option.bind_eq_some_iff.mp H
     obtain ⟨⟨t491, t492⟩, A600, H⟩ := H
     try dsimp only at H
     have A60 := Q.a A600
     clear A600
     replace H := Option.bind_eq_some_iff.mp H
     obtain ⟨⟨t493, t494⟩, A610, H⟩ := H
     try dsimp only at H
     have A61 := Q.a A610
     clear A610
     simp only [Option.some.injEq, Prod.mk.injEq] at H
     obtain ⟨rfl, rfl, rfl, rfl, rfl⟩ := H
     have hnb62 := NB471_472.out
     have hnc62 := NB472_471.out
     have hnb63 := NB471_473.out
     have hnc63 := NB473_471.out
     have hnb64 := NB471_474.out
     have hnc64 := NB474_471.out
     have hcz65_0 : wc.cell? ⟨gb471, 0, none⟩ = some (.bool t475) := (blk_cell BK471.out 0).trans rfl
     have hcz65_1 : wc.cell? ⟨gb471, 1, none⟩ = some (.string t476) := (blk_cell BK471.out 1).trans rfl
     have hfz65_0 := blk_frozen BK471.out 0
     have hfz65_1 := blk_frozen BK471.out 1
     have hnb66 := NB472_473.out
     have hnc66 := NB473_472.out
     have hnb67 := NB472_474.out
     have hnc67 := NB474_472.out
     have hcz68_0 : wc.cell? ⟨gb472, 0, none⟩ = some (.bool t477) := (blk_cell BK472.out 0).trans rfl
     have hcz68_1 : wc.cell? ⟨gb472, 1, none⟩ = some (.string t478) := (blk_cell BK472.out 1).trans rfl
     have hfz68_0 := blk_frozen BK472.out 0
     have hfz68_1 := blk_frozen BK472.out 1
     go_wp2_with (first | ((with_reducible refine gate_callee (f := 82) rfl ?_); refine Q.gl 50 Tryd.func82 #[.bool (t475 != t477), .string t479] rfl rfl rfl rfl ?_; (with_reducible refine (integer_of.calls (t475 != t477) t479 t491 t492 _ A60.out).mono ?_); rintro e w69 ⟨rfl, hb⟩; refine ⟨_, rfl, ?_⟩; replace BK471 := Q.a (Q.bb BK471 hb); replace BK472 := Q.a (Q.bb BK472 hb); replace BK473 := Q.a (Q.bb BK473 hb); replace BK474 := Q.a (Q.bb BK474 hb); replace HB := Q.a (below_step (Q.bw4 HB GE471 GE472 GE473 GE474) hb); (try clear hb)) | ((with_reducible refine gate_callee (f := 82) rfl ?_); refine Q.gl 52 Tryd.func82 #[.bool false, .string t480] rfl rfl rfl rfl ?_; (with_reducible refine (integer_of.calls false t480 t493 t494 _ A61.out).mono ?_); rintro e w70 ⟨rfl, hb⟩; refine ⟨_, rfl, ?_⟩; replace BK471 := Q.a (Q.bb BK471 hb); replace BK472 := Q.a (Q.bb BK472 hb); replace BK473 := Q.a (Q.bb BK473 hb); replace BK474 := Q.a (Q.bb BK474 hb); replace HB := Q.a (below_step (Q.bw4 HB GE471 GE472 GE473 GE474) hb); (try clear hb); have hnb71 := NB473_474.out; have hnc71 := NB474_473.out; have hcz72_0 : w70.cell? ⟨gb473, 0, none⟩ = some (.bool false) := (blk_cell BK473.out 0).trans rfl; have hcz72_1 : w70.cell? ⟨gb473, 1, none⟩ = some (.string (⟨#[]⟩ : ByteArray)) := (blk_cell BK473.out 1).trans rfl; have hfz72_0 := blk_frozen BK473.out 0; have hfz72_1 := blk_frozen BK473.out 1; have hcz73_0 : w70.cell? ⟨gb474, 0, none⟩ = some (.bool false) := (blk_cell BK474.out 0).trans rfl; have hcz73_1 : w70.cell? ⟨gb474, 1, none⟩ = some (.string (⟨#[]⟩ : ByteArray)) := (blk_cell BK474.out 1).trans rfl; have hfz73_0 := blk_frozen BK474.out 0; have hfz73_1 := blk_frozen BK474.out 1))
     refine bodyPost_ret (results_list (rs := [.cell 4 36, .cell 5 36, .tmp 6]) rfl (by simp) (.cell gb473 36 #[.bool t491, .string t492] (0, 0) _ rfl (by (with_reducible repeat (first | refine blk_drewN ?_ _ | refine blk_drew ?_ | refine blk_alloc ?_ _)); refine blk_far ?_ NB473_474.out _; (with_reducible repeat (first | refine blk_drewN ?_ _ | refine blk_drew ?_ | refine blk_alloc ?_ _)); refine blk_far ?_ NB473_474.out _; (with_reducible repeat (first | refine blk_drewN ?_ _ | refine blk_drew ?_ | refine blk_alloc ?_ _)); refine blk_put (cs := #[.bool t491, .string (⟨#[]⟩ : ByteArray)]) ?_ 1 _ (by first | rfl | (cases a0.toList <;> rfl) | (cases a1.toList <;> rfl)); (with_reducible repeat (first | refine blk_drewN ?_ _ | refine blk_drew ?_ | refine blk_alloc ?_ _)); refine blk_put (cs := #[.bool false, .string (⟨#[]⟩ : ByteArray)]) ?_ 0 _ (by first | rfl | (cases a0.toList <;> rfl) | (cases a1.toList <;> rfl)); (with_reducible repeat (first | refine blk_drewN ?_ _ | refine blk_drew ?_ | refine blk_alloc ?_ _)); exact BK473.out) Tryd.underlying36 rfl (by kernel_rfl) (.cell gb474 36 #[.bool t493, .string t494] (0, 0) _ rfl (by (with_reducible repeat (first | refine blk_drewN ?_ _ | refine blk_drew ?_ | refine blk_alloc ?_ _)); refine blk_put (cs := #[.bool t493, .string (⟨#[]⟩ : ByteArray)]) ?_ 1 _ (by first | rfl | (cases a0.toList <;> rfl) | (cases a1.toList <;> rfl)); (with_reducible repeat (first | refine blk_drewN ?_ _ | refine blk_drew ?_ | refine blk_alloc ?_ _)); refine blk_put (cs := #[.bool false, .string (⟨#[]⟩ : ByteArray)]) ?_ 0 _ (by first | rfl | (cases a0.toList <;> rfl) | (cases a1.toList <;> rfl)); (with_reducible repeat (first | refine blk_drewN ?_ _ | refine blk_drew ?_ | refine blk_alloc ?_ _)); refine blk_far ?_ NB474_473.out _; (with_reducible repeat (first | refine blk_drewN ?_ _ | refine blk_drew ?_ | refine blk_alloc ?_ _)); refine blk_far ?_ NB474_473.out _; (with_reducible repeat (first | refine blk_drewN ?_ _ | refine blk_drew ?_ | refine blk_alloc ?_ _)); exact BK474.out) Tryd.underlying36 rfl (by kernel_rfl) (.tmp .nil)))) rfl ?_
     exact ⟨Q.en, Q.bw4 HB GE471 GE472 GE473 GE474⟩
 ·replace c6 := Bool.eq_false_iff.mpr c6
  subst c6
  have H1 : (some (false, (⟨#[]⟩ : ByteArray), false, (⟨#[]⟩ : ByteArray), false)) = some (r1, r2, r3, r4, r5) := by rw [if_neg (show ¬ (false = true) by decide)] at H; exact H
  clear H
  have H := H1
  clear H1
  simp only [Option.some.injEq, Prod.mk.injEq] at H
  obtain ⟨rfl, rfl, rfl, rfl, rfl⟩ := H
  go_enter Tryd.func38, Tryd.ntmps38
  try go_wp2_with (first | ((with_reducible refine gate_dst (N := 2) rfl ?_); refine Q.bx 2 #[.bool a0_0, .string a0_1] 36 rfl rfl ?_; intro gb471 hg w74 hbox hb; replace BK471 := Q.a (hbox); replace GW471 := Q.a (Q.gs hg (below_size (Q.bw HB))); replace GE471 := GW471; replace HB := Q.a (below_step (Q.bw HB) hb); clear hb hbox hg) | ((with_reducible refine gate_dst (N := 3) rfl ?_); refine Q.bx 3 #[.bool a1_0, .string a1_1] 36 rfl rfl ?_; intro gb472 hg w75 hbox hb; replace BK472 := Q.a (hbox); replace GW472 := Q.a (Q.gs hg (below_size (Q.bw1 HB GE471))); replace GE472 := GW472; replace HB := Q.a (below_step (Q.bw1 HB GE471) hb); replace NB471_472 := Q.a (Q.nl hg BK471); replace NB472_471 := Q.a (Q.ng hg BK471); replace BK471 := Q.a (Q.bb BK471 hb); clear hb hbox hg) | ((with_reducible refine gate_dst (N := 4) rfl ?_); refine Q.bx 4 #[.bool false, .string (⟨#[]⟩ : ByteArray)] 36 rfl rfl ?_; intro gb473 hg w76 hbox hb; replace BK473 := Q.a (hbox); replace GW473 := Q.a (Q.gs hg (below_size (Q.bw2 HB GE471 GE472))); replace GE473 := GW473; replace HB := Q.a (below_step (Q.bw2 HB GE471 GE472) hb); replace NB471_473 := Q.a (Q.nl hg BK471); replace NB473_471 := Q.a (Q.ng hg BK471); replace BK471 := Q.a (Q.bb BK471 hb); replace NB472_473 := Q.a (Q.nl hg BK472); replace NB473_472 := Q.a (Q.ng hg BK472); replace BK472 := Q.a (Q.bb BK472 hb); clear hb hbox hg) | ((with_reducible refine gate_dst (N := 5) rfl ?_); refine Q.bx 5 #[.bool false, .string (⟨#[]⟩ : ByteArray)] 36 rfl rfl ?_; intro gb474 hg w77 hbox hb; replace BK474 := Q.a (hbox); replace GW474 := Q.a (Q.gs hg (below_size (Q.bw3 HB GE471 GE472 GE473))); replace GE474 := GW474; replace HB := Q.a (below_step (Q.bw3 HB GE471 GE472 GE473) hb); replace NB471_474 := Q.a (Q.nl hg BK471); replace NB474_471 := Q.a (Q.ng hg BK471); replace BK471 := Q.a (Q.bb BK471 hb); replace NB472_474 := Q.a (Q.nl hg BK472); replace NB474_472 := Q.a (Q.ng hg BK472); replace BK472 := Q.a (Q.bb BK472 hb); replace NB473_474 := Q.a (Q.nl hg BK473); replace NB474_473 := Q.a (Q.ng hg BK473); replace BK473 := Q.a (Q.bb BK473 hb); clear hb hbox hg))
  replace BK471 := Q.a (blk_drew BK471.out)
  replace BK472 := Q.a (blk_drew BK472.out)
  replace BK473 := Q.a (blk_drew BK473.out)
  replace BK474 := Q.a (blk_drew BK474.out)
  replace HB := Q.a (below_drew1 HB.out)
  refine start_ (n := 6) (S := fun w' => w'.cell? ⟨gb471, 0, none⟩ = some (.bool a0_0) ∧ w'.cell? ⟨gb471, 1, none⟩ = some (.string a0_1) ∧ w'.cell? ⟨gb472, 0, none⟩ = some (.bool a1_0) ∧ w'.cell? ⟨gb472, 1, none⟩ = some (.string a1_1)) (ds := [4, 5]) #[false, false, false, false, false, false] (by kernel_rfl) rfl rfl ⟨(blk_cell BK471.out 0).trans rfl, (blk_cell BK471.out 1).trans rfl, (blk_cell BK472.out 0).trans rfl, (blk_cell BK472.out 1).trans rfl⟩ (fun hHeld => ?_)
  generalize w77.drew = w78 at BK471 BK472 BK473 BK474 HB hHeld ⊢
  refine take_ (i := 0) (N := some 10) (v := ?_) (a' := ?_) #[true, false, false, false, false, false] rfl rfl (by kernel_rfl) (fun _ _ _ h => h) (Or.inl ⟨by rfl, ?_⟩) hHeld ?_ ?_
  rotate_left
  ·rintro w' ⟨s0, s1, s2, s3⟩
   go_simp
   with_reducible rfl
  rotate_left
  ·simp only [Act.put, List.setIfInBounds_toArray, List.set_cons_zero, List.set_cons_succ, i64_w, i32_w]
   rfl
  refine take_ (i := 2) (N := some 12) (v := ?_) (a' := ?_) #[true, false, true, false, false, false] rfl rfl (by kernel_rfl) (fun _ _ _ h => h) (Or.inl ⟨by rfl, ?_⟩) hHeld ?_ ?_
  rotate_left
  ·rintro w' ⟨s0, s1, s2, s3⟩
   go_simp
   with_reducible rfl
  rotate_left
  ·simp only [Act.put, List.setIfInBounds_toArray, List.set_cons_zero, List.set_cons_succ, i64_w, i32_w]
   rfl
  refine one_ (i := 1) (N := some 11) #[true, true, true, false, false, false] rfl rfl (by kernel_rfl) (by decide) (fun K hK => ?_)
  refine goes_ Tryd.func52 (by kernel_rfl) rfl #[.agg #[.bool a0_0, .string a0_1]] (by rfl) rfl rfl (by (try simp only [List.map_toArray, List.map_cons, List.map_nil]); first | done | rfl | (simp only [List.length_drop, List.length_take]; rfl)) ?_
  with_reducible refine (integer_Normalize.calls k a0_0 a0_1 t475 t476 _ A3.out).mono ?_
  rintro e w79 ⟨rfl, hb⟩
  refine ⟨_, rfl, ?_⟩
  replace BK471 := Q.a (Q.bb BK471 hb)
  replace BK472 := Q.a (Q.bb BK472 hb)
  replace BK473 := Q.a (Q.bb BK473 hb)
  replace BK474 := Q.a (Q.bb BK474 hb)
  replace HB := Q.a (below_step (Q.bw4 HB GE471 GE472 GE473 GE474) hb)
  (try clear hb)
  (try clear hb2)
  (try clear hk)
  (try clear hi)
  refine hK.out _ _ ⟨(blk_cell BK471.out 0).trans rfl, (blk_cell BK471.out 1).trans rfl, (blk_cell BK472.out 0).trans rfl, (blk_cell BK472.out 1).trans rfl⟩ (fun hHeld => ?_)
  clear hK K
  refine norm_ (a' := ?_) ?_ ?_
  rotate_left
  ·show Act.put _ (some 11) _ = _
   simp only [Act.put, List.setIfInBounds_toArray, List.set_cons_zero, List.set_cons_succ, i64_w, i32_w]
   rfl
  refine one_ (i := 3) (N := some 13) #[true, true, true, true, false, false] rfl rfl (by kernel_rfl) (by decide) (fun K hK => ?_)
  refine goes_ Tryd.func52 (by kernel_rfl) rfl #[.agg #[.bool a1_0, .string a1_1]] (by rfl) rfl rfl (by (try simp only [List.map_toArray, List.map_cons, List.map_nil]); first | done | rfl | (simp only [List.length_drop, List.length_take]; rfl)) ?_
  with_reducible refine (integer_Normalize.calls k a1_0 a1_1 t477 t478 _ A4.out).mono ?_
  rintro e w80 ⟨rfl, hb⟩
  refine ⟨_, rfl, ?_⟩
  replace BK471 := Q.a (Q.bb BK471 hb)
  replace BK472 := Q.a (Q.bb BK472 hb)
  replace BK473 := Q.a (Q.bb BK473 hb)
  replace BK474 := Q.a (Q.bb BK474 hb)
  replace HB := Q.a (below_step (Q.bw4 HB GE471 GE472 GE473 GE474) hb)
  (try clear hb)
  (try clear hb2)
  (try clear hk)
  (try clear hi)
  refine hK.out _ _ ⟨(blk_cell BK471.out 0).trans rfl, (blk_cell BK471.out 1).trans rfl, (blk_cell BK472.out 0).trans rfl, (blk_cell BK472.out 1).trans rfl⟩ (fun hHeld => ?_)
  clear hK K
  refine norm_ (a' := ?_) ?_ ?_
  rotate_left
  ·show Act.put _ (some 13) _ = _
   simp only [Act.put, List.setIfInBounds_toArray, List.set_cons_zero, List.set_cons_succ, i64_w, i32_w]
   rfl
  refine last_ (i := 4) (N := none) #[true, true, true, true, true, false] rfl rfl (by kernel_rfl) (by decide) (fun K hK => ?_)
  have hs81 : w80.cell? ⟨gb471, 0, none⟩ = some (.bool a0_0) := (blk_cell BK471.out 0).trans rfl
  have hfs81 := blk_frozen BK471.out 0
  have hns81_1 := NB472_471.out
  have hns81_2 := NB473_471.out
  have hns81_3 := NB474_471.out
  have hms81_1 := NB471_472.out
  have hms81_2 := NB471_473.out
  have hms81_3 := NB471_474.out
  have hs82 : w80.cell? ⟨gb471, 1, none⟩ = some (.string a0_1) := (blk_cell BK471.out 1).trans rfl
  have hfs82 := blk_frozen BK471.out 1
  have hns82_1 := NB472_471.out
  have hns82_2 := NB473_471.out
  have hns82_3 := NB474_471.out
  have hms82_1 := NB471_472.out
  have hms82_2 := NB471_473.out
  have hms82_3 := NB471_474.out
  refine skip_ (w1 := ?_) (by rfl) rfl ?_ ?_
  rotate_left
  ·go_simp
   rfl
  refine hK.out _ _ ?_
  clear hK K
  refine last_ (i := 5) (N := none) #[true, true, true, true, true, true] rfl rfl (by kernel_rfl) (by decide) (fun K hK => ?_)
  have hs83 : w80.cell? ⟨gb472, 0, none⟩ = some (.bool a1_0) := (blk_cell BK472.out 0).trans rfl
  have hfs83 := blk_frozen BK472.out 0
  have hns83_0 := NB471_472.out
  have hns83_2 := NB473_472.out
  have hns83_3 := NB474_472.out
  have hms83_0 := NB472_471.out
  have hms83_2 := NB472_473.out
  have hms83_3 := NB472_474.out
  have hs84 : w80.cell? ⟨gb472, 1, none⟩ = some (.string a1_1) := (blk_cell BK472.out 1).trans rfl
  have hfs84 := blk_frozen BK472.out 1
  have hns84_0 := NB471_472.out
  have hns84_2 := NB473_472.out
  have hns84_3 := NB474_472.out
  have hms84_0 := NB472_471.out
  have hms84_2 := NB472_473.out
  have hms84_3 := NB472_474.out
  refine skip_ (w1 := ?_) (by rfl) rfl ?_ ?_
  rotate_left
  ·go_simp
   rfl
  refine hK.out _ _ ?_
  clear hK K
  refine done_ (by kernel_rfl) ?_
  have hnb85 := NB471_472.out
  have hnc85 := NB472_471.out
  have hnb86 := NB471_473.out
  have hnc86 := NB473_471.out
  have hnb87 := NB471_474.out
  have hnc87 := NB474_471.out
  have hcz88_0 : w80.cell? ⟨gb471, 0, none⟩ = some (.bool a0_0) := (blk_cell BK471.out 0).trans rfl
  have hcz88_1 : w80.cell? ⟨gb471, 1, none⟩ = some (.string a0_1) := (blk_cell BK471.out 1).trans rfl
  have hfz88_0 := blk_frozen BK471.out 0
  have hfz88_1 := blk_frozen BK471.out 1
  have hnb89 := NB472_473.out
  have hnc89 := NB473_472.out
  have hnb90 := NB472_474.out
  have hnc90 := NB474_472.out
  have hcz91_0 : w80.cell? ⟨gb472, 0, none⟩ = some (.bool a1_0) := (blk_cell BK472.out 0).trans rfl
  have hcz91_1 : w80.cell? ⟨gb472, 1, none⟩ = some (.string a1_1) := (blk_cell BK472.out 1).trans rfl
  have hfz91_0 := blk_frozen BK472.out 0
  have hfz91_1 := blk_frozen BK472.out 1
  try go_wp2_with (first | ((with_reducible refine gate_callee (f := 22) rfl ?_); refine Q.gl 19 Tryd.func22 #[.string t476, .string t478] rfl rfl rfl rfl ?_; (with_reducible refine (nat_Div.calls k t476 t478 t479 t480 false _ A5.out).mono ?_); rintro e w92 ⟨rfl, hb⟩; refine ⟨_, rfl, ?_⟩; replace BK471 := Q.a (blk_below (g := gb471) (o := .cells #[.bool t475, .string t476] 36 (0, 0)) (by (with_reducible repeat (first | refine blk_drewN ?_ _ | refine blk_drew ?_ | refine blk_alloc ?_ _)); refine blk_far ?_ NB471_472.out _; (with_reducible repeat (first | refine blk_drewN ?_ _ | refine blk_drew ?_ | refine blk_alloc ?_ _)); refine blk_far ?_ NB471_472.out _; (with_reducible repeat (first | refine blk_drewN ?_ _ | refine blk_drew ?_ | refine blk_alloc ?_ _)); refine blk_put (cs := #[.bool t475, .string a0_1]) ?_ 1 _ (by first | rfl | (cases a0.toList <;> rfl) | (cases a1.toList <;> rfl)); (with_reducible repeat (first | refine blk_drewN ?_ _ | refine blk_drew ?_ | refine blk_alloc ?_ _)); refine blk_put (cs := #[.bool a0_0, .string a0_1]) ?_ 0 _ (by first | rfl | (cases a0.toList <;> rfl) | (cases a1.toList <;> rfl)); (with_reducible repeat (first | refine blk_drewN ?_ _ | refine blk_drew ?_ | refine blk_alloc ?_ _)); exact BK471.out) hb); replace BK472 := Q.a (blk_below (g := gb472) (o := .cells #[.bool t477, .string t478] 36 (0, 0)) (by (with_reducible repeat (first | refine blk_drewN ?_ _ | refine blk_drew ?_ | refine blk_alloc ?_ _)); refine blk_put (cs := #[.bool t477, .string a1_1]) ?_ 1 _ (by first | rfl | (cases a0.toList <;> rfl) | (cases a1.toList <;> rfl)); (with_reducible repeat (first | refine blk_drewN ?_ _ | refine blk_drew ?_ | refine blk_alloc ?_ _)); refine blk_put (cs := #[.bool a1_0, .string a1_1]) ?_ 0 _ (by first | rfl | (cases a0.toList <;> rfl) | (cases a1.toList <;> rfl)); (with_reducible repeat (first | refine blk_drewN ?_ _ | refine blk_drew ?_ | refine blk_alloc ?_ _)); refine blk_far ?_ NB472_471.out _; (with_reducible repeat (first | refine blk_drewN ?_ _ | refine blk_drew ?_ | refine blk_alloc ?_ _)); refine blk_far ?_ NB472_471.out _; (with_reducible repeat (first | refine blk_drewN ?_ _ | refine blk_drew ?_ | refine blk_alloc ?_ _)); exact BK472.out) hb); replace BK473 := Q.a (blk_below (g := gb473) (o := .cells #[.bool false, .string (⟨#[]⟩ : ByteArray)] 36 (0, 0)) (by (with_reducible repeat (first | refine blk_drewN ?_ _ | refine blk_drew ?_ | refine blk_alloc ?_ _)); refine blk_far ?_ NB473_472.out _; (with_reducible repeat (first | refine blk_drewN ?_ _ | refine blk_drew ?_ | refine blk_alloc ?_ _)); refine blk_far ?_ NB473_472.out _; (with_reducible repeat (first | refine blk_drewN ?_ _ | refine blk_drew ?_ | refine blk_alloc ?_ _)); refine blk_far ?_ NB473_471.out _; (with_reducible repeat (first | refine blk_drewN ?_ _ | refine blk_drew ?_ | refine blk_alloc ?_ _)); refine blk_far ?_ NB473_471.out _; (with_reducible repeat (first | refine blk_drewN ?_ _ | refine blk_drew ?_ | refine blk_alloc ?_ _)); exact BK473.out) hb); replace BK474 := Q.a (blk_below (g := gb474) (o := .cells #[.bool false, .string (⟨#[]⟩ : ByteArray)] 36 (0, 0)) (by (with_reducible repeat (first | refine blk_drewN ?_ _ | refine blk_drew ?_ | refine blk_alloc ?_ _)); refine blk_far ?_ NB474_472.out _; (with_reducible repeat (first | refine blk_drewN ?_ _ | refine blk_drew ?_ | refine blk_alloc ?_ _)); refine blk_far ?_ NB474_472.out _; (with_reducible repeat (first | refine blk_drewN ?_ _ | refine blk_drew ?_ | refine blk_alloc ?_ _)); refine blk_far ?_ NB474_471.out _; (with_reducible repeat (first | refine blk_drewN ?_ _ | refine blk_drew ?_ | refine blk_alloc ?_ _)); refine blk_far ?_ NB474_471.out _; (with_reducible repeat (first | refine blk_drewN ?_ _ | refine blk_drew ?_ | refine blk_alloc ?_ _)); exact BK474.out) hb); replace HB := Q.a (below_step (Q.bw4 HB GE471 GE472 GE473 GE474) hb); (try clear hb); have hnb93 := NB473_474.out; have hnc93 := NB474_473.out; have hcz94_0 : w92.cell? ⟨gb473, 0, none⟩ = some (.bool false) := (blk_cell BK473.out 0).trans rfl; have hcz94_1 : w92.cell? ⟨gb473, 1, none⟩ = some (.string (⟨#[]⟩ : ByteArray)) := (blk_cell BK473.out 1).trans rfl; have hfz94_0 := blk_frozen BK473.out 0; have hfz94_1 := blk_frozen BK473.out 1; have hcz95_0 : w92.cell? ⟨gb474, 0, none⟩ = some (.bool false) := (blk_cell BK474.out 0).trans rfl; have hcz95_1 : w92.cell? ⟨gb474, 1, none⟩ = some (.string (⟨#[]⟩ : ByteArray)) := (blk_cell BK474.out 1).trans rfl; have hfz95_0 := blk_frozen BK474.out 0; have hfz95_1 := blk_frozen BK474.out 1))
  refine bodyPost_ret (results_list (rs := [.cell 4 36, .cell 5 36, .tmp 6]) rfl (by simp) (.cell gb473 36 #[.bool false, .string (⟨#[]⟩ : ByteArray)] (0, 0) _ rfl (by (with_reducible repeat (first | refine blk_drewN ?_ _ | refine blk_drew ?_ | refine blk_alloc ?_ _)); refine blk_far ?_ NB473_474.out _; (with_reducible repeat (first | refine blk_drewN ?_ _ | refine blk_drew ?_ | refine blk_alloc ?_ _)); refine blk_far ?_ NB473_474.out _; (with_reducible repeat (first | refine blk_drewN ?_ _ | refine blk_drew ?_ | refine blk_alloc ?_ _)); refine blk_put (cs := #[.bool false, .string (⟨#[]⟩ : ByteArray)]) ?_ 1 _ (by first | rfl | (cases a0.toList <;> rfl) | (cases a1.toList <;> rfl)); (with_reducible repeat (first | refine blk_drewN ?_ _ | refine blk_drew ?_ | refine blk_alloc ?_ _)); refine blk_put (cs := #[.bool false, .string (⟨#[]⟩ : ByteArray)]) ?_ 0 _ (by first | rfl | (cases a0.toList <;> rfl) | (cases a1.toList <;> rfl)); (with_reducible repeat (first | refine blk_drewN ?_ _ | refine blk_drew ?_ | refine blk_alloc ?_ _)); exact BK473.out) Tryd.underlying36 rfl (by kernel_rfl) (.cell gb474 36 #[.bool false, .string (⟨#[]⟩ : ByteArray)] (0, 0) _ rfl (by (with_reducible repeat (first | refine blk_drewN ?_ _ | refine blk_drew ?_ | refine blk_alloc ?_ _)); refine blk_put (cs := #[.bool false, .string (⟨#[]⟩ : ByteArray)]) ?_ 1 _ (by first | rfl | (cases a0.toList <;> rfl) | (cases a1.toList <;> rfl)); (with_reducible repeat (first | refine blk_drewN ?_ _ | refine blk_drew ?_ | refine blk_alloc ?_ _)); refine blk_put (cs := #[.bool false, .string (⟨#[]⟩ : ByteArray)]) ?_ 0 _ (by first | rfl | (cases a0.toList <;> rfl) | (cases a1.toList <;> rfl)); (with_reducible repeat (first | refine blk_drewN ?_ _ | refine blk_drew ?_ | refine blk_alloc ?_ _)); refine blk_far ?_ NB474_473.out _; (with_reducible repeat (first | refine blk_drewN ?_ _ | refine blk_drew ?_ | refine blk_alloc ?_ _)); refine blk_far ?_ NB474_473.out _; (with_reducible repeat (first | refine blk_drewN ?_ _ | refine blk_drew ?_ | refine blk_alloc ?_ _)); exact BK474.out) Tryd.underlying36 rfl (by kernel_rfl) (.tmp .nil)))) rfl ?_
  exact ⟨Q.en, Q.bw4 HB GE471 GE472 GE473 GE474⟩

/-! ### integer_FromInt64: function 54 -/
def integer_FromInt64.f (k : Nat) (a0 : Int) : Option (Bool × ByteArray) := if a0 < 0 then ((nat_FromUint64.f k (IntKind.u64.wrap ((IntKind.u64.wrap (wrap64 (-(wrap64 (a0 + 1))))) + 1))).bind fun t496 => ((integer_of.f true t496).bind fun bt497 => (some (bt497.1, bt497.2)))) else ((nat_FromUint64.f k (IntKind.u64.wrap (a0))).bind fun t499 => ((integer_of.f false t499).bind fun bt500 => (some (bt500.1, bt500.2))))
theorem integer_FromInt64.mono : ∀ a0 k, LeO (integer_FromInt64.f k a0) (integer_FromInt64.f (k + 1) a0) := by
 intro a0 k
 unfold integer_FromInt64.f
 repeat' first
   | (with_reducible exact nat_FromUint64.mono _ _)
   | (with_reducible exact LeO.refl _)
   | (with_reducible exact LeO.none _)
   | (with_reducible refine LeO.ite ?_ ?_)
   | (with_reducible refine LeO.bind ?_ (fun _ => ?_))
   | exact nat_FromUint64.mono _ _
   | exact LeO.none _
   | refine LeO.ite ?_ ?_
   | refine LeO.bind ?_ (fun _ => ?_)
set_option maxHeartbeats 8000000 in
set_option maxRecDepth 100000 in
theorem integer_FromInt64.calls (k : Nat) (a0 : Int) (r1 : Bool) (r2 : ByteArray) (w : World) (h : integer_FromInt64.f k a0 = some (r1, r2)) :
  Calls Tryd.prog 54 #[.int .i64 a0] w fun e w' => e = .returned (.agg #[.bool r1, .string r2]) ∧ Below w.heap.size w w' := by
 have hu36 := Tryd.underlying36
 have HB := Q.a (Below.refl w.heap.size w)
 have H : (if a0 < 0 then ((nat_FromUint64.f k (IntKind.u64.wrap ((IntKind.u64.wrap (wrap64 (-(wrap64 (a0 + 1))))) + 1))).bind fun t496 => ((integer_of.f true t496).bind fun bt497 => (some (bt497.1, bt497.2)))) else ((nat_FromUint64.f k (IntKind.u64.wrap (a0))).bind fun t499 => ((integer_of.f false t499).bind fun bt500 => (some (bt500.1, bt500.2))))) = some (r1, r2) := h
 clear h
 by_cases c2 : a0 < 0
 ·rw [if_pos c2] at H
  have c2b0 : decide (a0 < 0) = true := decide_eq_true c2
  clear c2
  replace H := Option.bind_eq_some_iff.mp H
  obtain ⟨t496, A30, H⟩ := H
  try dsimp only at H
  have A3 := Q.a A30
  clear A30
  replace H := Option.bind_eq_some_iff.mp H
  obtain ⟨⟨t497, t498⟩, A40, H⟩ := H
  try dsimp only at H
  have A4 := Q.a A40
  clear A40
  simp only [Option.some.injEq, Prod.mk.injEq] at H
  obtain ⟨rfl, rfl⟩ := H
  go_enter Tryd.func54, Tryd.ntmps54
  go_wp2_with (first | ((with_reducible refine gate_dst (N := 2) rfl ?_); refine Q.bx 2 #[.bool false, .string (⟨#[]⟩ : ByteArray)] 36 rfl rfl ?_; intro gb495 hg w5 hbox hb; replace BK495 := Q.a (hbox); replace GW495 := Q.a (Q.gs hg (below_size (Q.bw HB))); replace GE495 := GW495; replace HB := Q.a (below_step (Q.bw HB) hb); clear hb hbox hg) | ((with_reducible refine gate_callee (f := 60) rfl ?_); refine Q.gl 10 Tryd.func60 #[.int .u64 (IntKind.u64.wrap ((IntKind.u64.wrap (wrap64 (-(wrap64 (a0 + 1))))) + 1))] rfl rfl rfl rfl ?_; (with_reducible refine (nat_FromUint64.calls k (IntKind.u64.wrap ((IntKind.u64.wrap (wrap64 (-(wrap64 (a0 + 1))))) + 1)) t496 _ A3.out).mono ?_); rintro e w6 ⟨rfl, hb⟩; refine ⟨_, rfl, ?_⟩; replace BK495 := Q.a (Q.bb BK495 hb); replace HB := Q.a (below_step (Q.bw1 HB GE495) hb); (try clear hb)) | ((with_reducible refine gate_callee (f := 82) rfl ?_); refine Q.gl 11 Tryd.func82 #[.bool true, .string t496] rfl rfl rfl rfl ?_; (with_reducible refine (integer_of.calls true t496 t497 t498 _ A4.out).mono ?_); rintro e w7 ⟨rfl, hb⟩; refine ⟨_, rfl, ?_⟩; replace BK495 := Q.a (Q.bb BK495 hb); replace HB := Q.a (below_step (Q.bw1 HB GE495) hb); (try clear hb); have hcz8_0 : w7.cell? ⟨gb495, 0, none⟩ = some (.bool false) := (blk_cell BK495.out 0).trans rfl; have hcz8_1 : w7.cell? ⟨gb495, 1, none⟩ = some (.string (⟨#[]⟩ : ByteArray)) := (blk_cell BK495.out 1).trans rfl; have hfz8_0 := blk_frozen BK495.out 0; have hfz8_1 := blk_frozen BK495.out 1))
  refine bodyPost_ret (results_cell_row rfl _ _ gb495 36 #[.bool t497, .string t498] (0, 0) _ rfl (by (with_reducible repeat (first | refine blk_drewN ?_ _ | refine blk_drew ?_ | refine blk_alloc ?_ _)); refine blk_put (cs := #[.bool t497, .string (⟨#[]⟩ : ByteArray)]) ?_ 1 _ (by first | rfl | (cases a0.toList <;> rfl) | (cases a1.toList <;> rfl)); (with_reducible repeat (first | refine blk_drewN ?_ _ | refine blk_drew ?_ | refine blk_alloc ?_ _)); refine blk_put (cs := #[.bool false, .string (⟨#[]⟩ : ByteArray)]) ?_ 0 _ (by first | rfl | (cases a0.toList <;> rfl) | (cases a1.toList <;> rfl)); (with_reducible repeat (first | refine blk_drewN ?_ _ | refine blk_drew ?_ | refine blk_alloc ?_ _)); exact BK495.out) Tryd.underlying36 rfl (by kernel_rfl)) rfl ?_
  exact ⟨Q.en, Q.bw1 HB GE495⟩
 ·rw [if_neg c2] at H
  have c2b0 : decide (a0 < 0) = false := decide_eq_false c2
  clear c2
  replace H := Option.bind_eq_some_iff.mp H
  obtain ⟨t499, A90, H⟩ := H
  try dsimp only at H
  have A9 := Q.a A90
  clear A90
  replace H := Option.bind_eq_some_iff.mp H
  obtain ⟨⟨t500, t501⟩, A100, H⟩ := H
  try dsimp only at H
  have A10 := Q.a A100
  clear A100
  simp only [Option.some.injEq, Prod.mk.injEq] at H
  obtain ⟨rfl, rfl⟩ := H
  go_enter Tryd.func54, Tryd.ntmps54
  go_wp2_with (first | ((with_reducible refine gate_dst (N := 2) rfl ?_); refine Q.bx 2 #[.bool false, .string (⟨#[]⟩ : ByteArray)] 36 rfl rfl ?_; intro gb495 hg w11 hbox hb; replace BK495 := Q.a (hbox); replace GW495 := Q.a (Q.gs hg (below_size (Q.bw HB))); replace GE495 := GW495; replace HB := Q.a (below_step (Q.bw HB) hb); clear hb hbox hg) | ((with_reducible refine gate_callee (f := 60) rfl ?_); refine Q.gl 14 Tryd.func60 #[.int .u64 (IntKind.u64.wrap (a0))] rfl rfl rfl rfl ?_; (with_reducible refine (nat_FromUint64.calls k (IntKind.u64.wrap (a0)) t499 _ A9.out).mono ?_); rintro e w12 ⟨rfl, hb⟩; refine ⟨_, rfl, ?_⟩; replace BK495 := Q.a (Q.bb BK495 hb); replace HB := Q.a (below_step (Q.bw1 HB GE495) hb); (try clear hb)) | ((with_reducible refine gate_callee (f := 82) rfl ?_); refine Q.gl 15 Tryd.func82 #[.bool false, .string t499] rfl rfl rfl rfl ?_; (with_reducible refine (integer_of.calls false t499 t500 t501 _ A10.out).mono ?_); rintro e w13 ⟨rfl, hb⟩; refine ⟨_, rfl, ?_⟩; replace BK495 := Q.a (Q.bb BK495 hb); replace HB := Q.a (below_step (Q.bw1 HB GE495) hb); (try clear hb); have hcz14_0 : w13.cell? ⟨gb495, 0, none⟩ = some (.bool false) := (blk_cell BK495.out 0).trans rfl; have hcz14_1 : w13.cell? ⟨gb495, 1, none⟩ = some (.string (⟨#[]⟩ : ByteArray)) := (blk_cell BK495.out 1).trans rfl; have hfz14_0 := blk_frozen BK495.out 0; have hfz14_1 := blk_frozen BK495.out 1))
  refine bodyPost_ret (results_cell_row rfl _ _ gb495 36 #[.bool t500, .string t501] (0, 0) _ rfl (by (with_reducible repeat (first | refine blk_drewN ?_ _ | refine blk_drew ?_ | refine blk_alloc ?_ _)); refine blk_put (cs := #[.bool t500, .string (⟨#[]⟩ : ByteArray)]) ?_ 1 _ (by first | rfl | (cases a0.toList <;> rfl) | (cases a1.toList <;> rfl)); (with_reducible repeat (first | refine blk_drewN ?_ _ | refine blk_drew ?_ | refine blk_alloc ?_ _)); refine blk_put (cs := #[.bool false, .string (⟨#[]⟩ : ByteArray)]) ?_ 0 _ (by first | rfl | (cases a0.toList <;> rfl) | (cases a1.toList <;> rfl)); (with_reducible repeat (first | refine blk_drewN ?_ _ | refine blk_drew ?_ | refine blk_alloc ?_ _)); exact BK495.out) Tryd.underlying36 rfl (by kernel_rfl)) rfl ?_
  exact ⟨Q.en, Q.bw1 HB GE495⟩

/-! ### integer_Format: function 65 -/
def integer_Format.f (k : Nat) (a0_0 : Bool) (a0_1 : ByteArray) : Option (ByteArray) := (integer_Normalize.f k a0_0 a0_1).bind fun bt503 => (if bt503.1 = true then ((nat_Format.f k bt503.2).bind fun t505 => (if 1 + t505.size ≤ 9223372036854775807 then (some ((⟨#[45]⟩ : ByteArray) ++ t505)) else (none))) else ((nat_Format.f k bt503.2).bind fun t506 => (some t506)))
theorem integer_Format.mono : ∀ a0 a1 k, LeO (integer_Format.f k a0 a1) (integer_Format.f (k + 1) a0 a1) := by
 intro a0 a1 k
 unfold integer_Format.f
 repeat' first
   | (with_reducible exact integer_Normalize.mono _ _ _)
   | (with_reducible exact nat_Format.mono _ _)
   | (with_reducible exact LeO.refl _)
   | (with_reducible exact LeO.none _)
   | (with_reducible refine LeO.ite ?_ ?_)
   | (with_reducible refine LeO.bind ?_ (fun _ => ?_))
   | exact integer_Normalize.mono _ _ _
   | exact nat_Format.mono _ _
   | exact LeO.none _
   | refine LeO.ite ?_ ?_
   | refine LeO.bind ?_ (fun _ => ?_)
set_option maxHeartbeats 8000000 in
set_option maxRecDepth 100000 in
theorem integer_Format.calls (k : Nat) (a0_0 : Bool) (a0_1 : ByteArray) (r : ByteArray) (w : World) (hG : X.G w) (h : integer_Format.f k a0_0 a0_1 = some r) :
  Calls Tryd.prog 65 #[.agg #[.bool a0_0, .string a0_1]] w fun e w' => e = .returned (.string r) ∧ Below w.heap.size w w' := by
 have hu36 := Tryd.underlying36
 have HG := Q.a hG
 clear hG
 have HB := Q.a (Below.refl w.heap.size w)
 have H : ((integer_Normalize.f k a0_0 a0_1).bind fun bt503 => (if bt503.1 = true then ((nat_Format.f k bt503.2).bind fun t505 => (if 1 + t505.size ≤ 9223372036854775807 then (some ((⟨#[45]⟩ : ByteArray) ++ t505)) else (none))) else ((nat_Format.f k bt503.2).bind fun t506 => (some t506)))) = some r := h
 clear h
 replace H := Option.bind_eq_some_iff.mp H
 obtain ⟨⟨t503, t504⟩, A20, H⟩ := H
 try dsimp only at H
 have A2 := Q.a A20
 clear A20
 by_cases c3 : t503 = true
 ·subst c3
  rw [if_pos rfl] at H
  replace H := Option.bind_eq_some_iff.mp H
  obtain ⟨t505, A40, H⟩ := H
  try dsimp only at H
  have A4 := Q.a A40
  clear A40
  by_cases c5 : 1 + t505.size ≤ 9223372036854775807
  ·rw [if_pos c5] at H
   have c5b0 := eq_true c5
   have c5b1 : decide (1 + t505.size ≤ 9223372036854775807) = true := decide_eq_true c5
   try have c5b2 : (9223372036854775807 < 1 + t505.size) = False := eq_false (Nat.not_lt.2 c5)
   obtain rfl := Option.some.inj H
   go_enter Tryd.func65, Tryd.ntmps65
   go_wp2_with (first | ((with_reducible refine gate_dst (N := 1) rfl ?_); refine Q.bx 1 #[.bool a0_0, .string a0_1] 36 rfl rfl ?_; intro gb502 hg w6 hbox hb; replace BK502 := Q.a (hbox); replace GW502 := Q.a (Q.gs hg (below_size (Q.bw HB))); replace GE502 := GW502; replace HB := Q.a (below_step (Q.bw HB) hb); clear hb hbox hg; have hcz7_0 : w6.cell? ⟨gb502, 0, none⟩ = some (.bool a0_0) := (blk_cell BK502.out 0).trans rfl; have hcz7_1 : w6.cell? ⟨gb502, 1, none⟩ = some (.string a0_1) := (blk_cell BK502.out 1).trans rfl; have hfz7_0 := blk_frozen BK502.out 0; have hfz7_1 := blk_frozen BK502.out 1) | ((with_reducible refine gate_callee (f := 52) rfl ?_); refine Q.gl 4 Tryd.func52 #[.agg #[.bool a0_0, .string a0_1]] rfl rfl rfl rfl ?_; (with_reducible refine (integer_Normalize.calls k a0_0 a0_1 true t504 _ A2.out).mono ?_); rintro e w8 ⟨rfl, hb⟩; refine ⟨_, rfl, ?_⟩; replace BK502 := Q.a (Q.bb BK502 hb); replace HB := Q.a (below_step (Q.bw1 HB GE502) hb); (try clear hb); have hcz9_0 : w8.cell? ⟨gb502, 0, none⟩ = some (.bool a0_0) := (blk_cell BK502.out 0).trans rfl; have hcz9_1 : w8.cell? ⟨gb502, 1, none⟩ = some (.string a0_1) := (blk_cell BK502.out 1).trans rfl; have hfz9_0 := blk_frozen BK502.out 0; have hfz9_1 := blk_frozen BK502.out 1) | ((with_reducible refine gate_callee (f := 35) rfl ?_); refine Q.gl 9 Tryd.func35 #[.string t504] rfl rfl rfl rfl ?_; (with_reducible refine (nat_Format.calls k t504 t505 _ ?side1 A4.out).mono ?_); (case side1 => exact X.G.below HG.out (Q.bw1 HB GE502)); rintro e w10 ⟨rfl, hb⟩; refine ⟨_, rfl, ?_⟩; replace BK502 := Q.a (blk_below (g := gb502) (o := .cells #[.bool true, .string t504] 36 (0, 0)) (by (with_reducible repeat (first | refine blk_drewN ?_ _ | refine blk_drew ?_ | refine blk_alloc ?_ _)); refine blk_put (cs := #[.bool true, .string a0_1]) ?_ 1 _ (by first | rfl | (cases a0.toList <;> rfl) | (cases a1.toList <;> rfl)); (with_reducible repeat (first | refine blk_drewN ?_ _ | refine blk_drew ?_ | refine blk_alloc ?_ _)); refine blk_put (cs := #[.bool a0_0, .string a0_1]) ?_ 0 _ (by first | rfl | (cases a0.toList <;> rfl) | (cases a1.toList <;> rfl)); (with_reducible repeat (first | refine blk_drewN ?_ _ | refine blk_drew ?_ | refine blk_alloc ?_ _)); exact BK502.out) hb); replace HB := Q.a (below_step (Q.bw1 HB GE502) hb); (try clear hb)))
   go_ret
   exact ⟨Q.en, Q.bw1 HB GE502⟩
  ·rw [if_neg c5] at H
   exact absurd H (by simp)
 ·replace c3 := Bool.eq_false_iff.mpr c3
  subst c3
  rw [if_neg (show ¬ (false = true) by decide)] at H
  replace H := Option.bind_eq_some_iff.mp H
  obtain ⟨t506, A110, H⟩ := H
  try dsimp only at H
  have A11 := Q.a A110
  clear A110
  obtain rfl := Option.some.inj H
  go_enter Tryd.func65, Tryd.ntmps65
  go_wp2_with (first | ((with_reducible refine gate_dst (N := 1) rfl ?_); refine Q.bx 1 #[.bool a0_0, .string a0_1] 36 rfl rfl ?_; intro gb502 hg w12 hbox hb; replace BK502 := Q.a (hbox); replace GW502 := Q.a (Q.gs hg (below_size (Q.bw HB))); replace GE502 := GW502; replace HB := Q.a (below_step (Q.bw HB) hb); clear hb hbox hg; have hcz13_0 : w12.cell? ⟨gb502, 0, none⟩ = some (.bool a0_0) := (blk_cell BK502.out 0).trans rfl; have hcz13_1 : w12.cell? ⟨gb502, 1, none⟩ = some (.string a0_1) := (blk_cell BK502.out 1).trans rfl; have hfz13_0 := blk_frozen BK502.out 0; have hfz13_1 := blk_frozen BK502.out 1) | ((with_reducible refine gate_callee (f := 52) rfl ?_); refine Q.gl 4 Tryd.func52 #[.agg #[.bool a0_0, .string a0_1]] rfl rfl rfl rfl ?_; (with_reducible refine (integer_Normalize.calls k a0_0 a0_1 false t504 _ A2.out).mono ?_); rintro e w14 ⟨rfl, hb⟩; refine ⟨_, rfl, ?_⟩; replace BK502 := Q.a (Q.bb BK502 hb); replace HB := Q.a (below_step (Q.bw1 HB GE502) hb); (try clear hb); have hcz15_0 : w14.cell? ⟨gb502, 0, none⟩ = some (.bool a0_0) := (blk_cell BK502.out 0).trans rfl; have hcz15_1 : w14.cell? ⟨gb502, 1, none⟩ = some (.string a0_1) := (blk_cell BK502.out 1).trans rfl; have hfz15_0 := blk_frozen BK502.out 0; have hfz15_1 := blk_frozen BK502.out 1) | ((with_reducible refine gate_callee (f := 35) rfl ?_); refine Q.gl 13 Tryd.func35 #[.string t504] rfl rfl rfl rfl ?_; (with_reducible refine (nat_Format.calls k t504 t506 _ ?side1 A11.out).mono ?_); (case side1 => exact X.G.below HG.out (Q.bw1 HB GE502)); rintro e w16 ⟨rfl, hb⟩; refine ⟨_, rfl, ?_⟩; replace BK502 := Q.a (blk_below (g := gb502) (o := .cells #[.bool false, .string t504] 36 (0, 0)) (by (with_reducible repeat (first | refine blk_drewN ?_ _ | refine blk_drew ?_ | refine blk_alloc ?_ _)); refine blk_put (cs := #[.bool false, .string a0_1]) ?_ 1 _ (by first | rfl | (cases a0.toList <;> rfl) | (cases a1.toList <;> rfl)); (with_reducible repeat (first | refine blk_drewN ?_ _ | refine blk_drew ?_ | refine blk_alloc ?_ _)); refine blk_put (cs := #[.bool a0_0, .string a0_1]) ?_ 0 _ (by first | rfl | (cases a0.toList <;> rfl) | (cases a1.toList <;> rfl)); (with_reducible repeat (first | refine blk_drewN ?_ _ | refine blk_drew ?_ | refine blk_alloc ?_ _)); exact BK502.out) hb); replace HB := Q.a (below_step (Q.bw1 HB GE502) hb); (try clear hb)))
  go_ret
  exact ⟨Q.en, Q.bw1 HB GE502⟩
end Go.Proofs.YtpokflilobkoaaaDoor.P
