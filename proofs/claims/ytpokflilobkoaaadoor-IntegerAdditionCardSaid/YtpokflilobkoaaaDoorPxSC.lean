/- Out of what mp.py printed for this seat (squeeze.py, repack.py). Not trusted: Lean checks it. -/
import Derived.Test.YtpokflilobkoaaaDoorPx0
import Derived.Test.YtpokflilobkoaaaDoorPxSA
import Derived.Test.YtpokflilobkoaaaDoorXQ
-- squeezed twice
namespace Go.Proofs.YtpokflilobkoaaaDoor.P
open Go.RowKit Go.Proofs.YtpokflilobkoaaaDoorW.PrintWords Go.Proofs.YtpokflilobkoaaaDoorW.PrintLast Go.Proofs.YtpokflilobkoaaaDoorW.PrintMore
attribute [local go_sem] max2_int min2_int max_two min_two max_three min_three max_four min_four   -- for this text's walks alone
attribute [local go_sem] XW.cell_twice   -- for this text's walks alone
set_option linter.unusedVariables false
set_option linter.unusedSimpArgs false

/-! ### voussoirref02_Cmp: function 49 -/
def voussoirref02_Cmp.f (k : Nat) (a0_0 : Bool) (a0_1 : ByteArray) (a1_0 : Bool) (a1_1 : ByteArray) : Option (Int) := (voussoirref02_Sub.f k a0_0 a0_1 a1_0 a1_1).bind fun bt690 => ((voussoirref02_Sign.f k bt690.1 bt690.2).bind fun t692 => (some t692))
theorem voussoirref02_Cmp.mono : ∀ a0 a1 a2 a3 k, LeO (voussoirref02_Cmp.f k a0 a1 a2 a3) (voussoirref02_Cmp.f (k + 1) a0 a1 a2 a3) := by
 intro a0 a1 a2 a3 k
 unfold voussoirref02_Cmp.f
 repeat' first
   | (with_reducible exact voussoirref02_Sign.mono _ _ _)
   | (with_reducible exact voussoirref02_Sub.mono _ _ _ _ _)
   | (with_reducible exact LeO.refl _)
   | (with_reducible exact LeO.none _)
   | (with_reducible refine LeO.ite ?_ ?_)
   | (with_reducible refine LeO.bind ?_ (fun _ => ?_))
   | exact voussoirref02_Sign.mono _ _ _
   | exact voussoirref02_Sub.mono _ _ _ _ _
   | exact LeO.none _
   | refine LeO.ite ?_ ?_
   | refine LeO.bind ?_ (fun _ => ?_)
set_option maxHeartbeats 8000000 in
set_option maxRecDepth 100000 in
theorem voussoirref02_Cmp.calls (k : Nat) (a0_0 : Bool) (a0_1 : ByteArray) (a1_0 : Bool) (a1_1 : ByteArray) (r : Int) (w : World) (h : voussoirref02_Cmp.f k a0_0 a0_1 a1_0 a1_1 = some r) :
  Calls Tryd.prog 49 #[.agg #[.bool a0_0, .string a0_1], .agg #[.bool a1_0, .string a1_1]] w fun e w' => e = .returned (.int .i64 r) ∧ Below w.heap.size w w' := by
 have hu36 := Tryd.underlying36
 have HB := Q.a (Below.refl w.heap.size w)
 have H : ((voussoirref02_Sub.f k a0_0 a0_1 a1_0 a1_1).bind fun bt690 => ((voussoirref02_Sign.f k bt690.1 bt690.2).bind fun t692 => (some t692))) = some r := h
 clear h
 replace H := Option.bind_eq_some_iff.mp H
 obtain ⟨⟨t690, t691⟩, A30, H⟩ := H
 try dsimp only at H
 have A3 := Q.a A30
 clear A30
 replace H := Option.bind_eq_some_iff.mp H
 obtain ⟨t692, A40, H⟩ := H
 try dsimp only at H
 have A4 := Q.a A40
 clear A40
 obtain rfl := Option.some.inj H
 go_enter Tryd.func49, Tryd.ntmps49
 go_wp2_with (first | ((with_reducible refine gate_dst (N := 2) rfl ?_); refine Q.bx 2 #[.bool a0_0, .string a0_1] 36 rfl rfl ?_; intro gb688 hg w5 hbox hb; replace BK688 := Q.a (hbox); replace GW688 := Q.a (Q.gs hg (below_size (Q.bw HB))); replace GE688 := GW688; replace HB := Q.a (below_step (Q.bw HB) hb); clear hb hbox hg) | ((with_reducible refine gate_dst (N := 3) rfl ?_); refine Q.bx 3 #[.bool a1_0, .string a1_1] 36 rfl rfl ?_; intro gb689 hg w6 hbox hb; replace BK689 := Q.a (hbox); replace GW689 := Q.a (Q.gs hg (below_size (Q.bw1 HB GE688))); replace GE689 := GW689; replace HB := Q.a (below_step (Q.bw1 HB GE688) hb); replace NB688_689 := Q.a (Q.nl hg BK688); replace NB689_688 := Q.a (Q.ng hg BK688); replace BK688 := Q.a (Q.bb BK688 hb); clear hb hbox hg; have hnb7 := NB688_689.out; have hnc7 := NB689_688.out; have hcz8_0 : w6.cell? ⟨gb688, 0, none⟩ = some (.bool a0_0) := (blk_cell BK688.out 0).trans rfl; have hcz8_1 : w6.cell? ⟨gb688, 1, none⟩ = some (.string a0_1) := (blk_cell BK688.out 1).trans rfl; have hfz8_0 := blk_frozen BK688.out 0; have hfz8_1 := blk_frozen BK688.out 1; have hcz9_0 : w6.cell? ⟨gb689, 0, none⟩ = some (.bool a1_0) := (blk_cell BK689.out 0).trans rfl; have hcz9_1 : w6.cell? ⟨gb689, 1, none⟩ = some (.string a1_1) := (blk_cell BK689.out 1).trans rfl; have hfz9_0 := blk_frozen BK689.out 0; have hfz9_1 := blk_frozen BK689.out 1) | ((with_reducible refine gate_callee (f := 45) rfl ?_); refine Q.gl 7 Tryd.func45 #[.agg #[.bool a0_0, .string a0_1], .agg #[.bool a1_0, .string a1_1]] rfl rfl rfl rfl ?_; (with_reducible refine (voussoirref02_Sub.calls k a0_0 a0_1 a1_0 a1_1 t690 t691 _ A3.out).mono ?_); rintro e w10 ⟨rfl, hb⟩; refine ⟨_, rfl, ?_⟩; replace BK688 := Q.a (Q.bb BK688 hb); replace BK689 := Q.a (Q.bb BK689 hb); replace HB := Q.a (below_step (Q.bw2 HB GE688 GE689) hb); (try clear hb)) | ((with_reducible refine gate_callee (f := 51) rfl ?_); refine Q.gl 8 Tryd.func51 #[.agg #[.bool t690, .string t691]] rfl rfl rfl rfl ?_; (with_reducible refine (voussoirref02_Sign.calls k t690 t691 t692 _ A4.out).mono ?_); rintro e w11 ⟨rfl, hb⟩; refine ⟨_, rfl, ?_⟩; replace BK688 := Q.a (Q.bb BK688 hb); replace BK689 := Q.a (Q.bb BK689 hb); replace HB := Q.a (below_step (Q.bw2 HB GE688 GE689) hb); (try clear hb)))
 go_ret
 exact ⟨Q.en, Q.bw2 HB GE688 GE689⟩

/-! ### voussoirref02_Norm: function 53 -/
def voussoirref02_Norm.f (k : Nat) (a0_0 : Bool) (a0_1 : ByteArray) : Option (Bool × ByteArray) := (voussoirref02_of.f k a0_0 a0_1).bind fun bt695 => (some (bt695.1, bt695.2))
theorem voussoirref02_Norm.mono : ∀ a0 a1 k, LeO (voussoirref02_Norm.f k a0 a1) (voussoirref02_Norm.f (k + 1) a0 a1) := by
 intro a0 a1 k
 unfold voussoirref02_Norm.f
 repeat' first
   | (with_reducible exact voussoirref02_of.mono _ _ _)
   | (with_reducible exact LeO.refl _)
   | (with_reducible exact LeO.none _)
   | (with_reducible refine LeO.ite ?_ ?_)
   | (with_reducible refine LeO.bind ?_ (fun _ => ?_))
   | exact voussoirref02_of.mono _ _ _
   | exact LeO.none _
   | refine LeO.ite ?_ ?_
   | refine LeO.bind ?_ (fun _ => ?_)
set_option maxHeartbeats 8000000 in
set_option maxRecDepth 100000 in
theorem voussoirref02_Norm.calls (k : Nat) (a0_0 : Bool) (a0_1 : ByteArray) (r1 : Bool) (r2 : ByteArray) (w : World) (h : voussoirref02_Norm.f k a0_0 a0_1 = some (r1, r2)) :
  Calls Tryd.prog 53 #[.agg #[.bool a0_0, .string a0_1]] w fun e w' => e = .returned (.agg #[.bool r1, .string r2]) ∧ Below w.heap.size w w' := by
 have hu36 := Tryd.underlying36
 have HB := Q.a (Below.refl w.heap.size w)
 have H : ((voussoirref02_of.f k a0_0 a0_1).bind fun bt695 => (some (bt695.1, bt695.2))) = some (r1, r2) := h
 clear h
 replace H := Option.bind_eq_some_iff.mp H
 obtain ⟨⟨t695, t696⟩, A20, H⟩ := H
 try dsimp only at H
 have A2 := Q.a A20
 clear A20
 simp only [Option.some.injEq, Prod.mk.injEq] at H
 obtain ⟨rfl, rfl⟩ := H
 go_enter Tryd.func53, Tryd.ntmps53
 go_wp2_with (first | ((with_reducible refine gate_dst (N := 1) rfl ?_); refine Q.bx 1 #[.bool a0_0, .string a0_1] 36 rfl rfl ?_; intro gb693 hg w3 hbox hb; replace BK693 := Q.a (hbox); replace GW693 := Q.a (Q.gs hg (below_size (Q.bw HB))); replace GE693 := GW693; replace HB := Q.a (below_step (Q.bw HB) hb); clear hb hbox hg) | ((with_reducible refine gate_dst (N := 2) rfl ?_); refine Q.bx 2 #[.bool false, .string (⟨#[]⟩ : ByteArray)] 36 rfl rfl ?_; intro gb694 hg w4 hbox hb; replace BK694 := Q.a (hbox); replace GW694 := Q.a (Q.gs hg (below_size (Q.bw1 HB GE693))); replace GE694 := GW694; replace HB := Q.a (below_step (Q.bw1 HB GE693) hb); replace NB693_694 := Q.a (Q.nl hg BK693); replace NB694_693 := Q.a (Q.ng hg BK693); replace BK693 := Q.a (Q.bb BK693 hb); clear hb hbox hg; have hnb5 := NB693_694.out; have hnc5 := NB694_693.out; have hcz6_0 : w4.cell? ⟨gb693, 0, none⟩ = some (.bool a0_0) := (blk_cell BK693.out 0).trans rfl; have hcz6_1 : w4.cell? ⟨gb693, 1, none⟩ = some (.string a0_1) := (blk_cell BK693.out 1).trans rfl; have hfz6_0 := blk_frozen BK693.out 0; have hfz6_1 := blk_frozen BK693.out 1) | ((with_reducible refine gate_callee (f := 83) rfl ?_); refine Q.gl 7 Tryd.func83 #[.bool a0_0, .string a0_1] rfl rfl rfl rfl ?_; (with_reducible refine (voussoirref02_of.calls k a0_0 a0_1 t695 t696 _ A2.out).mono ?_); rintro e w7 ⟨rfl, hb⟩; refine ⟨_, rfl, ?_⟩; replace BK693 := Q.a (Q.bb BK693 hb); replace BK694 := Q.a (Q.bb BK694 hb); replace HB := Q.a (below_step (Q.bw2 HB GE693 GE694) hb); (try clear hb); have hcz8_0 : w7.cell? ⟨gb694, 0, none⟩ = some (.bool false) := (blk_cell BK694.out 0).trans rfl; have hcz8_1 : w7.cell? ⟨gb694, 1, none⟩ = some (.string (⟨#[]⟩ : ByteArray)) := (blk_cell BK694.out 1).trans rfl; have hfz8_0 := blk_frozen BK694.out 0; have hfz8_1 := blk_frozen BK694.out 1))
 refine bodyPost_ret (results_cell_row rfl _ _ gb694 36 #[.bool t695, .string t696] (0, 0) _ rfl (by (with_reducible repeat (first | refine blk_drewN ?_ _ | refine blk_drew ?_ | refine blk_alloc ?_ _)); refine blk_put (cs := #[.bool t695, .string (⟨#[]⟩ : ByteArray)]) ?_ 1 _ (by first | rfl | (cases a0.toList <;> rfl) | (cases a1.toList <;> rfl)); (with_reducible repeat (first | refine blk_drewN ?_ _ | refine blk_drew ?_ | refine blk_alloc ?_ _)); refine blk_put (cs := #[.bool false, .string (⟨#[]⟩ : ByteArray)]) ?_ 0 _ (by first | rfl | (cases a0.toList <;> rfl) | (cases a1.toList <;> rfl)); (with_reducible repeat (first | refine blk_drewN ?_ _ | refine blk_drew ?_ | refine blk_alloc ?_ _)); exact BK694.out) Tryd.underlying36 rfl (by kernel_rfl)) rfl ?_
 exact ⟨Q.en, Q.bw2 HB GE693 GE694⟩
end Go.Proofs.YtpokflilobkoaaaDoor.P
