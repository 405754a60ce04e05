/- Out of what mp.py printed for this seat (squeeze.py, repack.py). Not trusted: Lean checks it. -/
import Derived.Test.YtpokflilobkoaaaDoorPx0
import Derived.Test.YtpokflilobkoaaaDoorPxIA
import Derived.Test.YtpokflilobkoaaaDoorPxIC
import Derived.Test.YtpokflilobkoaaaDoorXQ
-- squeezed twice
namespace Go.Proofs.YtpokflilobkoaaaDoor.P
open Go.RowKit Go.Proofs.YtpokflilobkoaaaDoorW.PrintWords Go.Proofs.YtpokflilobkoaaaDoorW.PrintLast Go.Proofs.YtpokflilobkoaaaDoorW.PrintMore
attribute [local go_sem] max2_int min2_int max_two min_two max_three min_three max_four min_four   -- for this text's walks alone
attribute [local go_sem] XW.cell_twice   -- for this text's walks alone
set_option linter.unusedVariables false
set_option linter.unusedSimpArgs false

/-! ### integer_Sign: function 50 -/
def integer_Sign.f (k : Nat) (a0_0 : Bool) (a0_1 : ByteArray) : Option (Int) := (integer_Normalize.f k a0_0 a0_1).bind fun bt681 => (if bt681.1 = true then (some (-1)) else (if bt681.2.toList = ([] : List UInt8) then (some 0) else (some 1)))
theorem integer_Sign.mono : ∀ a0 a1 k, LeO (integer_Sign.f k a0 a1) (integer_Sign.f (k + 1) a0 a1) := by
 intro a0 a1 k
 unfold integer_Sign.f
 repeat' first
   | (with_reducible exact integer_Normalize.mono _ _ _)
   | (with_reducible exact LeO.refl _)
   | (with_reducible exact LeO.none _)
   | (with_reducible refine LeO.ite ?_ ?_)
   | (with_reducible refine LeO.bind ?_ (fun _ => ?_))
   | exact integer_Normalize.mono _ _ _
   | exact LeO.none _
   | refine LeO.ite ?_ ?_
   | refine LeO.bind ?_ (fun _ => ?_)
set_option maxHeartbeats 8000000 in
set_option maxRecDepth 100000 in
theorem integer_Sign.calls (k : Nat) (a0_0 : Bool) (a0_1 : ByteArray) (r : Int) (w : World) (h : integer_Sign.f k a0_0 a0_1 = some r) :
  Calls Tryd.prog 50 #[.agg #[.bool a0_0, .string a0_1]] w fun e w' => e = .returned (.int .i64 r) ∧ Below w.heap.size w w' := by
 have hu36 := Tryd.underlying36
 have HB := Q.a (Below.refl w.heap.size w)
 have H : ((integer_Normalize.f k a0_0 a0_1).bind fun bt681 => (if bt681.1 = true then (some (-1)) else (if bt681.2.toList = ([] : List UInt8) then (some 0) else (some 1)))) = some r := h
 clear h
 replace H := Option.bind_eq_some_iff.mp H
 obtain ⟨⟨t681, t682⟩, A20, H⟩ := H
 try dsimp only at H
 have A2 := Q.a A20
 clear A20
 by_cases c3 : t681 = true
 ·subst c3
  rw [if_pos rfl] at H
  obtain rfl := Option.some.inj H
  go_enter Tryd.func50, Tryd.ntmps50
  go_wp2_with (first | ((with_reducible refine gate_dst (N := 1) rfl ?_); refine Q.bx 1 #[.bool a0_0, .string a0_1] 36 rfl rfl ?_; intro gb680 hg w4 hbox hb; replace BK680 := Q.a (hbox); replace GW680 := Q.a (Q.gs hg (below_size (Q.bw HB))); replace GE680 := GW680; replace HB := Q.a (below_step (Q.bw HB) hb); clear hb hbox hg; have hcz5_0 : w4.cell? ⟨gb680, 0, none⟩ = some (.bool a0_0) := (blk_cell BK680.out 0).trans rfl; have hcz5_1 : w4.cell? ⟨gb680, 1, none⟩ = some (.string a0_1) := (blk_cell BK680.out 1).trans rfl; have hfz5_0 := blk_frozen BK680.out 0; have hfz5_1 := blk_frozen BK680.out 1) | ((with_reducible refine gate_callee (f := 52) rfl ?_); refine Q.gl 4 Tryd.func52 #[.agg #[.bool a0_0, .string a0_1]] rfl rfl rfl rfl ?_; (with_reducible refine (integer_Normalize.calls k a0_0 a0_1 true t682 _ A2.out).mono ?_); rintro e w6 ⟨rfl, hb⟩; refine ⟨_, rfl, ?_⟩; replace BK680 := Q.a (Q.bb BK680 hb); replace HB := Q.a (below_step (Q.bw1 HB GE680) hb); (try clear hb); have hcz7_0 : w6.cell? ⟨gb680, 0, none⟩ = some (.bool a0_0) := (blk_cell BK680.out 0).trans rfl; have hcz7_1 : w6.cell? ⟨gb680, 1, none⟩ = some (.string a0_1) := (blk_cell BK680.out 1).trans rfl; have hfz7_0 := blk_frozen BK680.out 0; have hfz7_1 := blk_frozen BK680.out 1))
  go_ret
  exact ⟨Q.en, Q.bw1 HB GE680⟩
 ·replace c3 := Bool.eq_false_iff.mpr c3
  subst c3
  rw [if_neg (show ¬ (false = true) by decide)] at H
  by_cases c8 : t682.toList = ([] : List UInt8)
  ·rw [if_pos c8] at H
   have c8b0 : (t682.toList == ([] : List UInt8)) = true := beq_iff_eq.mpr c8
   have c8b1 : (t682.toList != ([] : List UInt8)) = false := bne_eq_false_iff_eq.mpr c8
   clear c8
   obtain rfl := Option.some.inj H
   go_enter Tryd.func50, Tryd.ntmps50
   go_wp2_with (first | ((with_reducible refine gate_dst (N := 1) rfl ?_); refine Q.bx 1 #[.bool a0_0, .string a0_1] 36 rfl rfl ?_; intro gb680 hg w9 hbox hb; replace BK680 := Q.a (hbox); replace GW680 := Q.a (Q.gs hg (below_size (Q.bw HB))); replace GE680 := GW680; replace HB := Q.a (below_step (Q.bw HB) hb); clear hb hbox hg; have hcz10_0 : w9.cell? ⟨gb680, 0, none⟩ = some (.bool a0_0) := (blk_cell BK680.out 0).trans rfl; have hcz10_1 : w9.cell? ⟨gb680, 1, none⟩ = some (.string a0_1) := (blk_cell BK680.out 1).trans rfl; have hfz10_0 := blk_frozen BK680.out 0; have hfz10_1 := blk_frozen BK680.out 1) | ((with_reducible refine gate_callee (f := 52) rfl ?_); refine Q.gl 4 Tryd.func52 #[.agg #[.bool a0_0, .string a0_1]] rfl rfl rfl rfl ?_; (with_reducible refine (integer_Normalize.calls k a0_0 a0_1 false t682 _ A2.out).mono ?_); rintro e w11 ⟨rfl, hb⟩; refine ⟨_, rfl, ?_⟩; replace BK680 := Q.a (Q.bb BK680 hb); replace HB := Q.a (below_step (Q.bw1 HB GE680) hb); (try clear hb); have hcz12_0 : w11.cell? ⟨gb680, 0, none⟩ = some (.bool a0_0) := (blk_cell BK680.out 0).trans rfl; have hcz12_1 : w11.cell? ⟨gb680, 1, none⟩ = some (.string a0_1) := (blk_cell BK680.out 1).trans rfl; have hfz12_0 := blk_frozen BK680.out 0; have hfz12_1 := blk_frozen BK680.out 1))
   go_ret
   exact ⟨Q.en, Q.bw1 HB GE680⟩
  ·rw [if_neg c8] at H
   have c8b0 : (t682.toList == ([] : List UInt8)) = false := beq_eq_false_iff_ne.mpr c8
   have c8b1 : (t682.toList != ([] : List UInt8)) = true := bne_iff_ne.mpr c8
   obtain rfl := Option.some.inj H
   go_enter Tryd.func50, Tryd.ntmps50
   go_wp2_with (first | ((with_reducible refine gate_dst (N := 1) rfl ?_); refine Q.bx 1 #[.bool a0_0, .string a0_1] 36 rfl rfl ?_; intro gb680 hg w13 hbox hb; replace BK680 := Q.a (hbox); replace GW680 := Q.a (Q.gs hg (below_size (Q.bw HB))); replace GE680 := GW680; replace HB := Q.a (below_step (Q.bw HB) hb); clear hb hbox hg; have hcz14_0 : w13.cell? ⟨gb680, 0, none⟩ = some (.bool a0_0) := (blk_cell BK680.out 0).trans rfl; have hcz14_1 : w13.cell? ⟨gb680, 1, none⟩ = some (.string a0_1) := (blk_cell BK680.out 1).trans rfl; have hfz14_0 := blk_frozen BK680.out 0; have hfz14_1 := blk_frozen BK680.out 1) | ((with_reducible refine gate_callee (f := 52) rfl ?_); refine Q.gl 4 Tryd.func52 #[.agg #[.bool a0_0, .string a0_1]] rfl rfl rfl rfl ?_; (with_reducible refine (integer_Normalize.calls k a0_0 a0_1 false t682 _ A2.out).mono ?_); rintro e w15 ⟨rfl, hb⟩; refine ⟨_, rfl, ?_⟩; replace BK680 := Q.a (Q.bb BK680 hb); replace HB := Q.a (below_step (Q.bw1 HB GE680) hb); (try clear hb); have hcz16_0 : w15.cell? ⟨gb680, 0, none⟩ = some (.bool a0_0) := (blk_cell BK680.out 0).trans rfl; have hcz16_1 : w15.cell? ⟨gb680, 1, none⟩ = some (.string a0_1) := (blk_cell BK680.out 1).trans rfl; have hfz16_0 := blk_frozen BK680.out 0; have hfz16_1 := blk_frozen BK680.out 1))
   go_ret
   exact ⟨Q.en, Q.bw1 HB GE680⟩

/-! ### integer_Cmp: function 48 -/
def integer_Cmp.f (k : Nat) (a0_0 : Bool) (a0_1 : ByteArray) (a1_0 : Bool) (a1_1 : ByteArray) : Option (Int) := (integer_Sub.f k a0_0 a0_1 a1_0 a1_1).bind fun bt685 => ((integer_Sign.f k bt685.1 bt685.2).bind fun t687 => (some t687))
theorem integer_Cmp.mono : ∀ a0 a1 a2 a3 k, LeO (integer_Cmp.f k a0 a1 a2 a3) (integer_Cmp.f (k + 1) a0 a1 a2 a3) := by
 intro a0 a1 a2 a3 k
 unfold integer_Cmp.f
 repeat' first
   | (with_reducible exact integer_Sign.mono _ _ _)
   | (with_reducible exact integer_Sub.mono _ _ _ _ _)
   | (with_reducible exact LeO.refl _)
   | (with_reducible exact LeO.none _)
   | (with_reducible refine LeO.ite ?_ ?_)
   | (with_reducible refine LeO.bind ?_ (fun _ => ?_))
   | exact integer_Sign.mono _ _ _
   | exact integer_Sub.mono _ _ _ _ _
   | exact LeO.none _
   | refine LeO.ite ?_ ?_
   | refine LeO.bind ?_ (fun _ => ?_)
set_option maxHeartbeats 8000000 in
set_option maxRecDepth 100000 in
theorem integer_Cmp.calls (k : Nat) (a0_0 : Bool) (a0_1 : ByteArray) (a1_0 : Bool) (a1_1 : ByteArray) (r : Int) (w : World) (h : integer_Cmp.f k a0_0 a0_1 a1_0 a1_1 = some r) :
  Calls Tryd.prog 48 #[.agg #[.bool a0_0, .string a0_1], .agg #[.bool a1_0, .string a1_1]] w fun e w' => e = .returned (.int .i64 r) ∧ Below w.heap.size w w' := by
 have hu36 := Tryd.underlying36
 have HB := Q.a (Below.refl w.heap.size w)
 have H : ((integer_Sub.f k a0_0 a0_1 a1_0 a1_1).bind fun bt685 => ((integer_Sign.f k bt685.1 bt685.2).bind fun t687 => (some t687))) = some r := h
 clear h
 replace H := Option.bind_eq_some_iff.mp H
 obtain ⟨⟨t685, t686⟩, A30, H⟩ := H
 try dsimp only at H
 have A3 := Q.a A30
 clear A30
 replace H := Option.bind_eq_some_iff.mp H
 obtain ⟨t687, A40, H⟩ := H
 try dsimp only at H
 have A4 := Q.a A40
 clear A40
 obtain rfl := Option.some.inj H
 go_enter Tryd.func48, Tryd.ntmps48
 go_wp2_with (first | ((with_reducible refine gate_dst (N := 2) rfl ?_); refine Q.bx 2 #[.bool a0_0, .string a0_1] 36 rfl rfl ?_; intro gb683 hg w5 hbox hb; replace BK683 := Q.a (hbox); replace GW683 := Q.a (Q.gs hg (below_size (Q.bw HB))); replace GE683 := GW683; replace HB := Q.a (below_step (Q.bw HB) hb); clear hb hbox hg) | ((with_reducible refine gate_dst (N := 3) rfl ?_); refine Q.bx 3 #[.bool a1_0, .string a1_1] 36 rfl rfl ?_; intro gb684 hg w6 hbox hb; replace BK684 := Q.a (hbox); replace GW684 := Q.a (Q.gs hg (below_size (Q.bw1 HB GE683))); replace GE684 := GW684; replace HB := Q.a (below_step (Q.bw1 HB GE683) hb); replace NB683_684 := Q.a (Q.nl hg BK683); replace NB684_683 := Q.a (Q.ng hg BK683); replace BK683 := Q.a (Q.bb BK683 hb); clear hb hbox hg; have hnb7 := NB683_684.out; have hnc7 := NB684_683.out; have hcz8_0 : w6.cell? ⟨gb683, 0, none⟩ = some (.bool a0_0) := (blk_cell BK683.out 0).trans rfl; have hcz8_1 : w6.cell? ⟨gb683, 1, none⟩ = some (.string a0_1) := (blk_cell BK683.out 1).trans rfl; have hfz8_0 := blk_frozen BK683.out 0; have hfz8_1 := blk_frozen BK683.out 1; have hcz9_0 : w6.cell? ⟨gb684, 0, none⟩ = some (.bool a1_0) := (blk_cell BK684.out 0).trans rfl; have hcz9_1 : w6.cell? ⟨gb684, 1, none⟩ = some (.string a1_1) := (blk_cell BK684.out 1).trans rfl; have hfz9_0 := blk_frozen BK684.out 0; have hfz9_1 := blk_frozen BK684.out 1) | ((with_reducible refine gate_callee (f := 44) rfl ?_); refine Q.gl 7 Tryd.func44 #[.agg #[.bool a0_0, .string a0_1], .agg #[.bool a1_0, .string a1_1]] rfl rfl rfl rfl ?_; (with_reducible refine (integer_Sub.calls k a0_0 a0_1 a1_0 a1_1 t685 t686 _ A3.out).mono ?_); rintro e w10 ⟨rfl, hb⟩; refine ⟨_, rfl, ?_⟩; replace BK683 := Q.a (Q.bb BK683 hb); replace BK684 := Q.a (Q.bb BK684 hb); replace HB := Q.a (below_step (Q.bw2 HB GE683 GE684) hb); (try clear hb)) | ((with_reducible refine gate_callee (f := 50) rfl ?_); refine Q.gl 8 Tryd.func50 #[.agg #[.bool t685, .string t686]] rfl rfl rfl rfl ?_; (with_reducible refine (integer_Sign.calls k t685 t686 t687 _ A4.out).mono ?_); rintro e w11 ⟨rfl, hb⟩; refine ⟨_, rfl, ?_⟩; replace BK683 := Q.a (Q.bb BK683 hb); replace BK684 := Q.a (Q.bb BK684 hb); replace HB := Q.a (below_step (Q.bw2 HB GE683 GE684) hb); (try clear hb)))
 go_ret
 exact ⟨Q.en, Q.bw2 HB GE683 GE684⟩
end Go.Proofs.YtpokflilobkoaaaDoor.P
