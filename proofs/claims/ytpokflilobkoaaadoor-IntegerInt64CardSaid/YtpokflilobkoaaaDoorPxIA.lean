/- Out of what mp.py printed for this seat (squeeze.py, repack.py). Not trusted: Lean checks it. -/
import Derived.Test.YtpokflilobkoaaaDoorPx0
import Derived.Test.YtpokflilobkoaaaDoorPxNA
import Derived.Test.YtpokflilobkoaaaDoorXQ
-- squeezed twice
namespace Go.Proofs.YtpokflilobkoaaaDoor.P
open Go.RowKit Go.Proofs.YtpokflilobkoaaaDoorW.PrintWords Go.Proofs.YtpokflilobkoaaaDoorW.PrintLast Go.Proofs.YtpokflilobkoaaaDoorW.PrintMore
attribute [local go_sem] max2_int min2_int max_two min_two max_three min_three max_four min_four   -- for this text's walks alone
attribute [local go_sem] XW.cell_twice   -- for this text's walks alone
set_option linter.unusedVariables false
set_option linter.unusedSimpArgs false

/-! ### integer_of: function 82 -/
def integer_of.f (a0 : Bool) (a1 : ByteArray) : Option (Bool × ByteArray) := if a0 = true then (some ((a1.toList != ([] : List UInt8)), a1)) else (some (false, a1))
set_option maxHeartbeats 8000000 in
set_option maxRecDepth 100000 in
theorem integer_of.calls (a0 : Bool) (a1 : ByteArray) (r1 : Bool) (r2 : ByteArray) (w : World) (h : integer_of.f a0 a1 = some (r1, r2)) :
  Calls Tryd.prog 82 #[.bool a0, .string a1] w fun e w' => e = .returned (.agg #[.bool r1, .string r2]) ∧ Below w.heap.size w w' := by
 have hu36 := Tryd.underlying36
 have HB := Q.a (Below.refl w.heap.size w)
 have H : (if a0 = true then (some ((a1.toList != ([] : List UInt8)), a1)) else (some (false, a1))) = some (r1, r2) := h
 clear h
 by_cases c3 : a0 = true
 ·subst c3
  have H1 : (some ((a1.toList != ([] : List UInt8)), a1)) = some (r1, r2) := by rw [if_pos rfl] at H; exact H
  clear H
  have H := H1
  clear H1
  simp only [Option.some.injEq, Prod.mk.injEq] at H
  obtain ⟨rfl, rfl⟩ := H
  go_enter Tryd.func82, Tryd.ntmps82
  go_wp2_with (first | ((with_reducible refine gate_dst (N := 4) rfl ?_); refine Q.bx 4 #[.bool false, .string (⟨#[]⟩ : ByteArray)] 36 rfl rfl ?_; intro gb465 hg w4 hbox hb; replace BK465 := Q.a (hbox); replace GW465 := Q.a (Q.gs hg (below_size (Q.bw HB))); replace GE465 := GW465; replace HB := Q.a (below_step (Q.bw HB) hb); clear hb hbox hg; have hcz5_0 : w4.cell? ⟨gb465, 0, none⟩ = some (.bool false) := (blk_cell BK465.out 0).trans rfl; have hcz5_1 : w4.cell? ⟨gb465, 1, none⟩ = some (.string (⟨#[]⟩ : ByteArray)) := (blk_cell BK465.out 1).trans rfl; have hfz5_0 := blk_frozen BK465.out 0; have hfz5_1 := blk_frozen BK465.out 1))
  refine bodyPost_ret (results_cell_row rfl _ _ gb465 36 #[.bool (a1.toList != ([] : List UInt8)), .string a1] (0, 0) _ rfl (by (with_reducible repeat (first | refine blk_drewN ?_ _ | refine blk_drew ?_ | refine blk_alloc ?_ _)); refine blk_put (cs := #[.bool (a1.toList != ([] : List UInt8)), .string (⟨#[]⟩ : ByteArray)]) ?_ 1 _ rfl; (with_reducible repeat (first | refine blk_drewN ?_ _ | refine blk_drew ?_ | refine blk_alloc ?_ _)); refine blk_put (cs := #[.bool false, .string (⟨#[]⟩ : ByteArray)]) ?_ 0 _ (by first | rfl | (cases a1.toList <;> rfl)); (with_reducible repeat (first | refine blk_drewN ?_ _ | refine blk_drew ?_ | refine blk_alloc ?_ _)); exact BK465.out) Tryd.underlying36 rfl (by kernel_rfl)) rfl ?_
  exact ⟨Q.en, Q.bw1 HB GE465⟩
 ·replace c3 := Bool.eq_false_iff.mpr c3
  subst c3
  have H1 : (some (false, a1)) = some (r1, r2) := by rw [if_neg (show ¬ (false = true) by decide)] at H; exact H
  clear H
  have H := H1
  clear H1
  simp only [Option.some.injEq, Prod.mk.injEq] at H
  obtain ⟨rfl, rfl⟩ := H
  go_enter Tryd.func82, Tryd.ntmps82
  go_wp2_with (first | ((with_reducible refine gate_dst (N := 4) rfl ?_); refine Q.bx 4 #[.bool false, .string (⟨#[]⟩ : ByteArray)] 36 rfl rfl ?_; intro gb465 hg w6 hbox hb; replace BK465 := Q.a (hbox); replace GW465 := Q.a (Q.gs hg (below_size (Q.bw HB))); replace GE465 := GW465; replace HB := Q.a (below_step (Q.bw HB) hb); clear hb hbox hg; have hcz7_0 : w6.cell? ⟨gb465, 0, none⟩ = some (.bool false) := (blk_cell BK465.out 0).trans rfl; have hcz7_1 : w6.cell? ⟨gb465, 1, none⟩ = some (.string (⟨#[]⟩ : ByteArray)) := (blk_cell BK465.out 1).trans rfl; have hfz7_0 := blk_frozen BK465.out 0; have hfz7_1 := blk_frozen BK465.out 1))
  refine bodyPost_ret (results_cell_row rfl _ _ gb465 36 #[.bool false, .string a1] (0, 0) _ rfl (by (with_reducible repeat (first | refine blk_drewN ?_ _ | refine blk_drew ?_ | refine blk_alloc ?_ _)); refine blk_put (cs := #[.bool false, .string (⟨#[]⟩ : ByteArray)]) ?_ 1 _ (by first | rfl | (cases a0.toList <;> rfl) | (cases a1.toList <;> rfl)); (with_reducible repeat (first | refine blk_drewN ?_ _ | refine blk_drew ?_ | refine blk_alloc ?_ _)); refine blk_put (cs := #[.bool false, .string (⟨#[]⟩ : ByteArray)]) ?_ 0 _ (by first | rfl | (cases a0.toList <;> rfl) | (cases a1.toList <;> rfl)); (with_reducible repeat (first | refine blk_drewN ?_ _ | refine blk_drew ?_ | refine blk_alloc ?_ _)); exact BK465.out) Tryd.underlying36 rfl (by kernel_rfl)) rfl ?_
  exact ⟨Q.en, Q.bw1 HB GE465⟩

/-! ### integer_Normalize: function 52 -/
def integer_Normalize.f (k : Nat) (a0_0 : Bool) (a0_1 : ByteArray) : Option (Bool × ByteArray) := (nat_Normalize.f k a0_1).bind fun t468 => ((integer_of.f a0_0 t468).bind fun bt469 => (some (bt469.1, bt469.2)))
theorem integer_Normalize.mono : ∀ a0 a1 k, LeO (integer_Normalize.f k a0 a1) (integer_Normalize.f (k + 1) a0 a1) := by
 intro a0 a1 k
 unfold integer_Normalize.f
 repeat' first
   | (with_reducible exact nat_Normalize.mono _ _)
   | (with_reducible exact LeO.refl _)
   | (with_reducible exact LeO.none _)
   | (with_reducible refine LeO.ite ?_ ?_)
   | (with_reducible refine LeO.bind ?_ (fun _ => ?_))
   | exact nat_Normalize.mono _ _
   | exact LeO.none _
   | refine LeO.ite ?_ ?_
   | refine LeO.bind ?_ (fun _ => ?_)
set_option maxHeartbeats 8000000 in
set_option maxRecDepth 100000 in
theorem integer_Normalize.calls (k : Nat) (a0_0 : Bool) (a0_1 : ByteArray) (r1 : Bool) (r2 : ByteArray) (w : World) (h : integer_Normalize.f k a0_0 a0_1 = some (r1, r2)) :
  Calls Tryd.prog 52 #[.agg #[.bool a0_0, .string a0_1]] w fun e w' => e = .returned (.agg #[.bool r1, .string r2]) ∧ Below w.heap.size w w' := by
 have hu36 := Tryd.underlying36
 have HB := Q.a (Below.refl w.heap.size w)
 have H : ((nat_Normalize.f k a0_1).bind fun t468 => ((integer_of.f a0_0 t468).bind fun bt469 => (some (bt469.1, bt469.2)))) = some (r1, r2) := h
 clear h
 replace H := Option.bind_eq_some_iff.mp H
 obtain ⟨t468, A20, H⟩ := H
 try dsimp only at H
 have A2 := Q.a A20
 clear A20
 replace H := Option.bind_eq_some_iff.mp H
 obtain ⟨⟨t469, t470⟩, A30, H⟩ := H
 try dsimp only at H
 have A3 := Q.a A30
 clear A30
 simp only [Option.some.injEq, Prod.mk.injEq] at H
 obtain ⟨rfl, rfl⟩ := H
 go_enter Tryd.func52, Tryd.ntmps52
 try go_wp2_with (first | ((with_reducible refine gate_dst (N := 1) rfl ?_); refine Q.bx 1 #[.bool a0_0, .string a0_1] 36 rfl rfl ?_; intro gb466 hg w4 hbox hb; replace BK466 := Q.a (hbox); replace GW466 := Q.a (Q.gs hg (below_size (Q.bw HB))); replace GE466 := GW466; replace HB := Q.a (below_step (Q.bw HB) hb); clear hb hbox hg) | ((with_reducible refine gate_dst (N := 2) rfl ?_); refine Q.bx 2 #[.bool false, .string (⟨#[]⟩ : ByteArray)] 36 rfl rfl ?_; intro gb467 hg w5 hbox hb; replace BK467 := Q.a (hbox); replace GW467 := Q.a (Q.gs hg (below_size (Q.bw1 HB GE466))); replace GE467 := GW467; replace HB := Q.a (below_step (Q.bw1 HB GE466) hb); replace NB466_467 := Q.a (Q.nl hg BK466); replace NB467_466 := Q.a (Q.ng hg BK466); replace BK466 := Q.a (Q.bb BK466 hb); clear hb hbox hg))
 replace BK466 := Q.a (blk_drew BK466.out)
 replace BK467 := Q.a (blk_drew BK467.out)
 replace HB := Q.a (below_drew1 HB.out)
 refine start_ (n := 7) (S := fun w' => w'.cell? ⟨gb466, 0, none⟩ = some (.bool a0_0) ∧ w'.cell? ⟨gb466, 1, none⟩ = some (.string a0_1)) (ds := []) #[false, false, false, false, false, false, false] (by kernel_rfl) rfl rfl ⟨(blk_cell BK466.out 0).trans rfl, (blk_cell BK466.out 1).trans rfl⟩ (fun hHeld => ?_)
 generalize w5.drew = w6 at BK466 BK467 HB hHeld ⊢
 refine pure_ (i := 0) (N := some 3) (v := ?_) (a' := ?_) #[true, false, false, false, false, false, false] rfl rfl (by kernel_rfl) (fun _ _ _ h => h) (Or.inl ⟨by rfl, ?_⟩) ?_ ?_
 rotate_left
 ·intro w'
  go_simp
  with_reducible rfl
 rotate_left
 ·simp only [Act.put, List.setIfInBounds_toArray, List.set_cons_zero, List.set_cons_succ, i64_w, i32_w]
  rfl
 refine pure_ (i := 2) (N := some 5) (v := ?_) (a' := ?_) #[true, false, true, false, false, false, false] rfl rfl (by kernel_rfl) (fun _ _ _ h => h) (Or.inl ⟨by rfl, ?_⟩) ?_ ?_
 rotate_left
 ·intro w'
  go_simp
  with_reducible rfl
 rotate_left
 ·simp only [Act.put, List.setIfInBounds_toArray, List.set_cons_zero, List.set_cons_succ, i64_w, i32_w]
  rfl
 refine take_ (i := 1) (N := some 4) (v := ?_) (a' := ?_) #[true, true, true, false, false, false, false] rfl rfl (by kernel_rfl) (fun _ _ _ h => h) (Or.inl ⟨by rfl, ?_⟩) hHeld ?_ ?_
 rotate_left
 ·rintro w' ⟨s0, s1⟩
  go_simp
  with_reducible rfl
 rotate_left
 ·simp only [Act.put, List.setIfInBounds_toArray, List.set_cons_zero, List.set_cons_succ, i64_w, i32_w]
  rfl
 refine take_ (i := 3) (N := some 6) (v := ?_) (a' := ?_) #[true, true, true, true, false, false, false] rfl rfl (by kernel_rfl) (fun _ _ _ h => h) (Or.inl ⟨by rfl, ?_⟩) hHeld ?_ ?_
 rotate_left
 ·rintro w' ⟨s0, s1⟩
  go_simp
  with_reducible rfl
 rotate_left
 ·simp only [Act.put, List.setIfInBounds_toArray, List.set_cons_zero, List.set_cons_succ, i64_w, i32_w]
  rfl
 refine one_ (i := 4) (N := some 7) #[true, true, true, true, true, false, false] rfl rfl (by kernel_rfl) (by decide) (fun K hK => ?_)
 refine goes_ Tryd.func26 (by kernel_rfl) rfl #[.string a0_1] (by rfl) rfl rfl (by (try simp only [List.map_toArray, List.map_cons, List.map_nil]); first | done | rfl | (simp only [List.length_drop, List.length_take]; rfl)) ?_
 with_reducible refine (nat_Normalize.calls k a0_1 t468 _ A2.out).mono ?_
 rintro e w7 ⟨rfl, hb⟩
 refine ⟨_, rfl, ?_⟩
 replace BK466 := Q.a (Q.bb BK466 hb)
 replace BK467 := Q.a (Q.bb BK467 hb)
 replace HB := Q.a (below_step (Q.bw2 HB GE466 GE467) hb)
 (try clear hb)
 (try clear hb2)
 (try clear hk)
 (try clear hi)
 refine hK.out _ _ ⟨(blk_cell BK466.out 0).trans rfl, (blk_cell BK466.out 1).trans rfl⟩ (fun hHeld => ?_)
 clear hK K
 refine norm_ (a' := ?_) ?_ ?_
 rotate_left
 ·show Act.put _ (some 7) _ = _
  simp only [Act.put, List.setIfInBounds_toArray, List.set_cons_zero, List.set_cons_succ, i64_w, i32_w]
  rfl
 refine one_ (i := 5) (N := some 8) #[true, true, true, true, true, true, false] rfl rfl (by kernel_rfl) (by decide) (fun K hK => ?_)
 refine goes_ Tryd.func82 (by kernel_rfl) rfl #[.bool a0_0, .string t468] (by rfl) rfl rfl (by (try simp only [List.map_toArray, List.map_cons, List.map_nil]); first | done | rfl | (simp only [List.length_drop, List.length_take]; rfl)) ?_
 with_reducible refine (integer_of.calls a0_0 t468 t469 t470 _ A3.out).mono ?_
 rintro e w8 ⟨rfl, hb⟩
 refine ⟨_, rfl, ?_⟩
 replace BK466 := Q.a (Q.bb BK466 hb)
 replace BK467 := Q.a (Q.bb BK467 hb)
 replace HB := Q.a (below_step (Q.bw2 HB GE466 GE467) hb)
 (try clear hb)
 (try clear hb2)
 (try clear hk)
 (try clear hi)
 refine hK.out _ _ ⟨(blk_cell BK466.out 0).trans rfl, (blk_cell BK466.out 1).trans rfl⟩ (fun hHeld => ?_)
 clear hK K
 refine norm_ (a' := ?_) ?_ ?_
 rotate_left
 ·show Act.put _ (some 8) _ = _
  simp only [Act.put, List.setIfInBounds_toArray, List.set_cons_zero, List.set_cons_succ, i64_w, i32_w]
  rfl
 refine one_ (i := 6) (N := none) #[true, true, true, true, true, true, true] rfl rfl (by kernel_rfl) (by decide) (fun K hK => ?_)
 have hs9 : w8.cell? ⟨gb467, 0, none⟩ = some (.bool false) := (blk_cell BK467.out 0).trans rfl
 have hfs9 := blk_frozen BK467.out 0
 have hns9_0 := NB466_467.out
 have hms9_0 := NB467_466.out
 have hs10 : w8.cell? ⟨gb467, 1, none⟩ = some (.string (⟨#[]⟩ : ByteArray)) := (blk_cell BK467.out 1).trans rfl
 have hfs10 := blk_frozen BK467.out 1
 have hns10_0 := NB466_467.out
 have hms10_0 := NB467_466.out
 refine skip_ (w1 := ?_) (by rfl) rfl ?_ ?_
 rotate_left
 ·go_simp
  rfl
 refine hK.out _ _ ⟨((cell_far (p := ⟨gb467, _, none⟩) NB466_467.out _).trans (((cell_far (p := ⟨gb467, _, none⟩) NB466_467.out _).trans (hHeld.1)))), ((cell_far (p := ⟨gb467, _, none⟩) NB466_467.out _).trans (((cell_far (p := ⟨gb467, _, none⟩) NB466_467.out _).trans (hHeld.2))))⟩ (fun hHeld => ?_)
 clear hK K
 refine done_ (by kernel_rfl) ?_
 try go_wp2
 refine bodyPost_ret (results_cell_row rfl _ _ gb467 36 #[.bool t469, .string t470] (0, 0) _ rfl (by (with_reducible repeat (first | refine blk_drewN ?_ _ | refine blk_drew ?_ | refine blk_alloc ?_ _)); refine blk_put (cs := #[.bool t469, .string (⟨#[]⟩ : ByteArray)]) ?_ 1 _ (by first | rfl | (cases a0.toList <;> rfl) | (cases a1.toList <;> rfl)); (with_reducible repeat (first | refine blk_drewN ?_ _ | refine blk_drew ?_ | refine blk_alloc ?_ _)); refine blk_put (cs := #[.bool false, .string (⟨#[]⟩ : ByteArray)]) ?_ 0 _ (by first | rfl | (cases a0.toList <;> rfl) | (cases a1.toList <;> rfl)); (with_reducible repeat (first | refine blk_drewN ?_ _ | refine blk_drew ?_ | refine blk_alloc ?_ _)); exact BK467.out) Tryd.underlying36 rfl (by kernel_rfl)) rfl ?_
 exact ⟨Q.en, Q.bw2 HB GE466 GE467⟩
end Go.Proofs.YtpokflilobkoaaaDoor.P
