/- Out of what mp.py printed for this seat (squeeze.py, repack.py). Not trusted: Lean checks it. -/
import Derived.Test.YtpokflilobkoaaaDoorPx0
import Derived.Test.YtpokflilobkoaaaDoorPx1
import Derived.Test.YtpokflilobkoaaaDoorPxIB
import Derived.Test.YtpokflilobkoaaaDoorPxIC
import Derived.Test.YtpokflilobkoaaaDoorPxID
import Derived.Test.YtpokflilobkoaaaDoorPxIntegerInt64
import Derived.Test.YtpokflilobkoaaaDoorPxIntegerMul
import Derived.Test.YtpokflilobkoaaaDoorPxIntegerParse
import Derived.Test.YtpokflilobkoaaaDoorPxVoussoirlaw02Fixed
import Derived.Test.YtpokflilobkoaaaDoorXQ
-- squeezed twice
namespace Go.Proofs.YtpokflilobkoaaaDoor.P
open Go.RowKit Go.Proofs.YtpokflilobkoaaaDoorW.PrintWords Go.Proofs.YtpokflilobkoaaaDoorW.PrintLast Go.Proofs.YtpokflilobkoaaaDoorW.PrintMore
attribute [local go_sem] max2_int min2_int max_two min_two max_three min_three max_four min_four   -- for this text's walks alone
attribute [local go_sem] XW.cell_twice   -- for this text's walks alone
set_option linter.unusedVariables false
set_option linter.unusedSimpArgs false
attribute [local go_sem high] eqA36

/-! ### voussoirlaw02_IntegerInt64: function 17 -/
mutual
def voussoirlaw02_IntegerInt64.j0 : Nat → Int → Int → Bool → Bool → ByteArray → Bool → ByteArray → Option (Bool)
 | 0, _, _, _, _, _, _, _ => none
 | k + 1, x0, x1, x45, x941000, x941001, x942000, x942001 => if x45 = true then (some false) else (if x0 > (-2147483648) then (if x0 < 2147483648 then (if x1 > (-2147483648) then (voussoirlaw02_IntegerInt64.j1 k x0 x1 (decide (x1 < 2147483648)) x941000 x941001 x942000 x942001) else (voussoirlaw02_IntegerInt64.j1 k x0 x1 false x941000 x941001 x942000 x942001)) else (voussoirlaw02_IntegerInt64.j1 k x0 x1 false x941000 x941001 x942000 x942001)) else (voussoirlaw02_IntegerInt64.j1 k x0 x1 false x941000 x941001 x942000 x942001))
def voussoirlaw02_IntegerInt64.j1 : Nat → Int → Int → Bool → Bool → ByteArray → Bool → ByteArray → Option (Bool)
 | 0, _, _, _, _, _, _, _ => none
 | k + 1, x0, x1, x59, x941000, x941001, x942000, x942001 => if x59 = true then ((integer_Add.f k x941000 x941001 x942000 x942001).bind fun bt945 => ((integer_FromInt64.f k (wrap64 (x0 + x1))).bind fun bt947 => (if (!(bt945.1 == bt947.1) || (!(bt945.2.toList == bt947.2.toList))) = true then (voussoirlaw02_IntegerInt64.j2 k true x941000 x941001) else ((integer_Mul.f k x941000 x941001 x942000 x942001).bind fun bt949 => ((integer_FromInt64.f k (wrap64 (x0 * x1))).bind fun bt951 => (if (!(bt949.1 == bt951.1) || (!(bt949.2.toList == bt951.2.toList))) = true then (voussoirlaw02_IntegerInt64.j2 k true x941000 x941001) else ((integer_Sub.f k x941000 x941001 x942000 x942001).bind fun bt953 => ((integer_FromInt64.f k (wrap64 (x0 - x1))).bind fun bt955 => (voussoirlaw02_IntegerInt64.j2 k (!(bt953.1 == bt955.1) || (!(bt953.2.toList == bt955.2.toList))) x941000 x941001))))))))) else ((integer_Format.f k x941000 x941001).bind fun t963 => ((integer_Parse.f k t963).bind fun bt964 => ((voussoirlaw02_fixed.f k).bind fun t968 => (if t968 = true then (if bt964.2.2 = true then (some (bt964.1 == x941000 && (bt964.2.1.toList == x941001.toList))) else (some false)) else (some false)))))
def voussoirlaw02_IntegerInt64.j2 : Nat → Bool → Bool → ByteArray → Option (Bool)
 | 0, _, _, _ => none
 | k + 1, x87, x941000, x941001 => if x87 = true then (some false) else ((integer_Format.f k x941000 x941001).bind fun t957 => ((integer_Parse.f k t957).bind fun bt958 => ((voussoirlaw02_fixed.f k).bind fun t962 => (if t962 = true then (if bt958.2.2 = true then (some (bt958.1 == x941000 && (bt958.2.1.toList == x941001.toList))) else (some false)) else (some false)))))
end
def voussoirlaw02_IntegerInt64.f (k : Nat) (a0 : Int) (a1 : Int) : Option (Bool) := (integer_FromInt64.f k a0).bind fun bt936 => ((integer_FromInt64.f k a1).bind fun bt938 => ((integer_Int64.f k bt936.1 bt936.2).bind fun bt942 => (if bt942.2 = true then (if bt942.1 = a0 then ((integer_Cmp.f k bt936.1 bt936.2 bt938.1 bt938.2).bind fun t944 => (if ((decide (t944 < 0)) != (decide (a0 < a1))) = true then (voussoirlaw02_IntegerInt64.j0 k a0 a1 true bt936.1 bt936.2 bt938.1 bt938.2) else (voussoirlaw02_IntegerInt64.j0 k a0 a1 ((bt936.1 == bt938.1 && (bt936.2.toList == bt938.2.toList)) != (a0 == a1)) bt936.1 bt936.2 bt938.1 bt938.2))) else (voussoirlaw02_IntegerInt64.j0 k a0 a1 true bt936.1 bt936.2 bt938.1 bt938.2)) else (voussoirlaw02_IntegerInt64.j0 k a0 a1 true bt936.1 bt936.2 bt938.1 bt938.2))))
theorem voussoirlaw02_IntegerInt64.mono_l : ∀ k, (∀ y0 y1 y2 y3 y4 y5 y6, LeO (voussoirlaw02_IntegerInt64.j0 k y0 y1 y2 y3 y4 y5 y6) (voussoirlaw02_IntegerInt64.j0 (k + 1) y0 y1 y2 y3 y4 y5 y6)) ∧ (∀ y0 y1 y2 y3 y4 y5 y6, LeO (voussoirlaw02_IntegerInt64.j1 k y0 y1 y2 y3 y4 y5 y6) (voussoirlaw02_IntegerInt64.j1 (k + 1) y0 y1 y2 y3 y4 y5 y6)) ∧ (∀ y0 y1 y2, LeO (voussoirlaw02_IntegerInt64.j2 k y0 y1 y2) (voussoirlaw02_IntegerInt64.j2 (k + 1) y0 y1 y2))
 | 0 => ⟨fun _ _ _ _ _ _ _ r h => by simp [voussoirlaw02_IntegerInt64.j0] at h, fun _ _ _ _ _ _ _ r h => by simp [voussoirlaw02_IntegerInt64.j1] at h, fun _ _ _ r h => by simp [voussoirlaw02_IntegerInt64.j2] at h⟩
 | k + 1 => by
  obtain ⟨ih0, ih1, ih2⟩ := voussoirlaw02_IntegerInt64.mono_l k
  refine ⟨?_, ?_, ?_⟩
  ·intro y0 y1 y2 y3 y4 y5 y6
   unfold voussoirlaw02_IntegerInt64.j0
   repeat' first
   | (with_reducible exact ih0 _ _ _ _ _ _ _)
   | (with_reducible exact ih1 _ _ _ _ _ _ _)
   | (with_reducible exact ih2 _ _ _)
   | (with_reducible exact integer_Add.mono _ _ _ _ _)
   | (with_reducible exact integer_Cmp.mono _ _ _ _ _)
   | (with_reducible exact integer_Format.mono _ _ _)
   | (with_reducible exact integer_FromInt64.mono _ _)
   | (with_reducible exact integer_Int64.mono _ _ _)
   | (with_reducible exact integer_Mul.mono _ _ _ _ _)
   | (with_reducible exact integer_Parse.mono _ _)
   | (with_reducible exact integer_Sub.mono _ _ _ _ _)
   | (with_reducible exact voussoirlaw02_fixed.mono _)
   | (with_reducible exact LeO.refl _)
   | (with_reducible exact LeO.none _)
   | (with_reducible refine LeO.ite ?_ ?_)
   | (with_reducible refine LeO.bind ?_ (fun _ => ?_))
   | exact ih0 _ _ _ _ _ _ _
   | exact ih1 _ _ _ _ _ _ _
   | exact ih2 _ _ _
   | exact integer_Add.mono _ _ _ _ _
   | exact integer_Cmp.mono _ _ _ _ _
   | exact integer_Format.mono _ _ _
   | exact integer_FromInt64.mono _ _
   | exact integer_Int64.mono _ _ _
   | exact integer_Mul.mono _ _ _ _ _
   | exact integer_Parse.mono _ _
   | exact integer_Sub.mono _ _ _ _ _
   | exact voussoirlaw02_fixed.mono _
   | exact LeO.none _
   | refine LeO.ite ?_ ?_
   | refine LeO.bind ?_ (fun _ => ?_)
  ·intro y0 y1 y2 y3 y4 y5 y6
   unfold voussoirlaw02_IntegerInt64.j1
   repeat' first
   | (with_reducible exact ih0 _ _ _ _ _ _ _)
   | (with_reducible exact ih1 _ _ _ _ _ _ _)
   | (with_reducible exact ih2 _ _ _)
   | (with_reducible exact integer_Add.mono _ _ _ _ _)
   | (with_reducible exact integer_Cmp.mono _ _ _ _ _)
   | (with_reducible exact integer_Format.mono _ _ _)
   | (with_reducible exact integer_FromInt64.mono _ _)
   | (with_reducible exact integer_Int64.mono _ _ _)
   | (with_reducible exact integer_Mul.mono _ _ _ _ _)
   | (with_reducible exact integer_Parse.mono _ _)
   | (with_reducible exact integer_Sub.mono _ _ _ _ _)
   | (with_reducible exact voussoirlaw02_fixed.mono _)
   | (with_reducible exact LeO.refl _)
   | (with_reducible exact LeO.none _)
   | (with_reducible refine LeO.ite ?_ ?_)
   | (with_reducible refine LeO.bind ?_ (fun _ => ?_))
   | exact ih0 _ _ _ _ _ _ _
   | exact ih1 _ _ _ _ _ _ _
   | exact ih2 _ _ _
   | exact integer_Add.mono _ _ _ _ _
   | exact integer_Cmp.mono _ _ _ _ _
   | exact integer_Format.mono _ _ _
   | exact integer_FromInt64.mono _ _
   | exact integer_Int64.mono _ _ _
   | exact integer_Mul.mono _ _ _ _ _
   | exact integer_Parse.mono _ _
   | exact integer_Sub.mono _ _ _ _ _
   | exact voussoirlaw02_fixed.mono _
   | exact LeO.none _
   | refine LeO.ite ?_ ?_
   | refine LeO.bind ?_ (fun _ => ?_)
  ·intro y0 y1 y2
   unfold voussoirlaw02_IntegerInt64.j2
   repeat' first
   | (with_reducible exact ih0 _ _ _ _ _ _ _)
   | (with_reducible exact ih1 _ _ _ _ _ _ _)
   | (with_reducible exact ih2 _ _ _)
   | (with_reducible exact integer_Add.mono _ _ _ _ _)
   | (with_reducible exact integer_Cmp.mono _ _ _ _ _)
   | (with_reducible exact integer_Format.mono _ _ _)
   | (with_reducible exact integer_FromInt64.mono _ _)
   | (with_reducible exact integer_Int64.mono _ _ _)
   | (with_reducible exact integer_Mul.mono _ _ _ _ _)
   | (with_reducible exact integer_Parse.mono _ _)
   | (with_reducible exact integer_Sub.mono _ _ _ _ _)
   | (with_reducible exact voussoirlaw02_fixed.mono _)
   | (with_reducible exact LeO.refl _)
   | (with_reducible exact LeO.none _)
   | (with_reducible refine LeO.ite ?_ ?_)
   | (with_reducible refine LeO.bind ?_ (fun _ => ?_))
   | exact ih0 _ _ _ _ _ _ _
   | exact ih1 _ _ _ _ _ _ _
   | exact ih2 _ _ _
   | exact integer_Add.mono _ _ _ _ _
   | exact integer_Cmp.mono _ _ _ _ _
   | exact integer_Format.mono _ _ _
   | exact integer_FromInt64.mono _ _
   | exact integer_Int64.mono _ _ _
   | exact integer_Mul.mono _ _ _ _ _
   | exact integer_Parse.mono _ _
   | exact integer_Sub.mono _ _ _ _ _
   | exact voussoirlaw02_fixed.mono _
   | exact LeO.none _
   | refine LeO.ite ?_ ?_
   | refine LeO.bind ?_ (fun _ => ?_)
theorem voussoirlaw02_IntegerInt64.mono : ∀ a0 a1 k, LeO (voussoirlaw02_IntegerInt64.f k a0 a1) (voussoirlaw02_IntegerInt64.f (k + 1) a0 a1) := by
 intro a0 a1 k
 obtain ⟨ih0, ih1, ih2⟩ := voussoirlaw02_IntegerInt64.mono_l k
 unfold voussoirlaw02_IntegerInt64.f
 repeat' first
   | (with_reducible exact ih0 _ _ _ _ _ _ _)
   | (with_reducible exact ih1 _ _ _ _ _ _ _)
   | (with_reducible exact ih2 _ _ _)
   | (with_reducible exact integer_Add.mono _ _ _ _ _)
   | (with_reducible exact integer_Cmp.mono _ _ _ _ _)
   | (with_reducible exact integer_Format.mono _ _ _)
   | (with_reducible exact integer_FromInt64.mono _ _)
   | (with_reducible exact integer_Int64.mono _ _ _)
   | (with_reducible exact integer_Mul.mono _ _ _ _ _)
   | (with_reducible exact integer_Parse.mono _ _)
   | (with_reducible exact integer_Sub.mono _ _ _ _ _)
   | (with_reducible exact voussoirlaw02_fixed.mono _)
   | (with_reducible exact LeO.refl _)
   | (with_reducible exact LeO.none _)
   | (with_reducible refine LeO.ite ?_ ?_)
   | (with_reducible refine LeO.bind ?_ (fun _ => ?_))
   | exact ih0 _ _ _ _ _ _ _
   | exact ih1 _ _ _ _ _ _ _
   | exact ih2 _ _ _
   | exact integer_Add.mono _ _ _ _ _
   | exact integer_Cmp.mono _ _ _ _ _
   | exact integer_Format.mono _ _ _
   | exact integer_FromInt64.mono _ _
   | exact integer_Int64.mono _ _ _
   | exact integer_Mul.mono _ _ _ _ _
   | exact integer_Parse.mono _ _
   | exact integer_Sub.mono _ _ _ _ _
   | exact voussoirlaw02_fixed.mono _
   | exact LeO.none _
   | refine LeO.ite ?_ ?_
   | refine LeO.bind ?_ (fun _ => ?_)
set_option maxHeartbeats 8000000 in
set_option maxRecDepth 100000 in
theorem voussoirlaw02_IntegerInt64.calls (k : Nat) (a0 : Int) (a1 : Int) (r : Bool) (hr : r = true) (w : World) (hG : X.G w) (h : voussoirlaw02_IntegerInt64.f k a0 a1 = some r) :
  Calls Tryd.prog 17 #[.int .i64 a0, .int .i64 a1] w fun e w' => e = .returned (.bool r) ∧ Below w.heap.size w w' := by
 have HR := Q.a hr
 clear hr
 have hu36 := Tryd.underlying36
 have HG := Q.a hG
 clear hG
 have HB := Q.a (Below.refl w.heap.size w)
 have H : ((integer_FromInt64.f k a0).bind fun bt936 => ((integer_FromInt64.f k a1).bind fun bt938 => ((integer_Int64.f k bt936.1 bt936.2).bind fun bt942 => (if bt942.2 = true then (if bt942.1 = a0 then ((integer_Cmp.f k bt936.1 bt936.2 bt938.1 bt938.2).bind fun t944 => (if ((decide (t944 < 0)) != (decide (a0 < a1))) = true then (voussoirlaw02_IntegerInt64.j0 k a0 a1 true bt936.1 bt936.2 bt938.1 bt938.2) else (voussoirlaw02_IntegerInt64.j0 k a0 a1 ((bt936.1 == bt938.1 && (bt936.2.toList == bt938.2.toList)) != (a0 == a1)) bt936.1 bt936.2 bt938.1 bt938.2))) else (voussoirlaw02_IntegerInt64.j0 k a0 a1 true bt936.1 bt936.2 bt938.1 bt938.2)) else (voussoirlaw02_IntegerInt64.j0 k a0 a1 true bt936.1 bt936.2 bt938.1 bt938.2))))) = some r := h
 clear h
 replace H := Option.bind_eq_some_iff.mp H
 obtain ⟨⟨t936, t937⟩, A30, H⟩ := H
 try dsimp only at H
 have A3 := Q.a A30
 clear A30
 replace H := Option.bind_eq_some_iff.mp H
 obtain ⟨⟨t938, t939⟩, A40, H⟩ := H
 try dsimp only at H
 have A4 := Q.a A40
 clear A40
 replace H := Option.bind_eq_some_iff.mp H
 obtain ⟨⟨t942, t943⟩, A50, H⟩ := H
 try dsimp only at H
 have A5 := Q.a A50
 clear A50
 have HC6 := Q.a H
 clear H
 go_enter Tryd.func17, Tryd.ntmps17
 go_upto_region 3 with (first | ((with_reducible refine gate_callee (f := 54) rfl ?_); refine Q.gl 12 Tryd.func54 #[.int .i64 a0] rfl rfl rfl rfl ?_; (with_reducible refine (integer_FromInt64.calls k a0 t936 t937 _ A3.out).mono ?_); rintro e w7 ⟨rfl, hb⟩; refine ⟨_, rfl, ?_⟩; replace HB := Q.a (below_step (Q.bw HB) hb); (try clear hb)) | ((with_reducible refine gate_callee (f := 54) rfl ?_); refine Q.gl 14 Tryd.func54 #[.int .i64 a1] rfl rfl rfl rfl ?_; (with_reducible refine (integer_FromInt64.calls k a1 t938 t939 _ A4.out).mono ?_); rintro e w8 ⟨rfl, hb⟩; refine ⟨_, rfl, ?_⟩; replace HB := Q.a (below_step (Q.bw HB) hb); (try clear hb)) | ((with_reducible refine gate_dst (N := 5) rfl ?_); refine Q.bx 5 #[.bool false, .string (⟨#[]⟩ : ByteArray)] 36 rfl rfl ?_; intro gb940 hg w9 hbox hb; replace BK940 := Q.a (hbox); replace GW940 := Q.a (Q.gs hg (below_size (Q.bw HB))); replace GE940 := GW940; replace HB := Q.a (below_step (Q.bw HB) hb); clear hb hbox hg) | ((with_reducible refine gate_dst (N := 6) rfl ?_); refine Q.bx 6 #[.bool false, .string (⟨#[]⟩ : ByteArray)] 36 rfl rfl ?_; intro gb941 hg w10 hbox hb; replace BK941 := Q.a (hbox); replace GW941 := Q.a (Q.gs hg (below_size (Q.bw1 HB GE940))); replace GE941 := GW941; replace HB := Q.a (below_step (Q.bw1 HB GE940) hb); replace NB940_941 := Q.a (Q.nl hg BK940); replace NB941_940 := Q.a (Q.ng hg BK940); replace BK940 := Q.a (Q.bb BK940 hb); clear hb hbox hg; have hnb11 := NB940_941.out; have hnc11 := NB941_940.out; have hcz12_0 : w10.cell? ⟨gb940, 0, none⟩ = some (.bool false) := (blk_cell BK940.out 0).trans rfl; have hcz12_1 : w10.cell? ⟨gb940, 1, none⟩ = some (.string (⟨#[]⟩ : ByteArray)) := (blk_cell BK940.out 1).trans rfl; have hfz12_0 := blk_frozen BK940.out 0; have hfz12_1 := blk_frozen BK940.out 1; have hcz13_0 : w10.cell? ⟨gb941, 0, none⟩ = some (.bool false) := (blk_cell BK941.out 0).trans rfl; have hcz13_1 : w10.cell? ⟨gb941, 1, none⟩ = some (.string (⟨#[]⟩ : ByteArray)) := (blk_cell BK941.out 1).trans rfl; have hfz13_0 := blk_frozen BK941.out 0; have hfz13_1 := blk_frozen BK941.out 1) | ((with_reducible refine gate_callee (f := 63) rfl ?_); refine Q.gl 17 Tryd.func63 #[.agg #[.bool t936, .string t937]] rfl rfl rfl rfl ?_; (with_reducible refine (integer_Int64.calls k t936 t937 t942 t943 _ A5.out).mono ?_); rintro e w14 ⟨rfl, hb⟩; refine ⟨_, rfl, ?_⟩; replace BK940 := Q.a (blk_below (g := gb940) (o := .cells #[.bool t936, .string t937] 36 (0, 0)) (by (with_reducible repeat (first | refine blk_drewN ?_ _ | refine blk_drew ?_ | refine blk_alloc ?_ _)); refine blk_far ?_ NB940_941.out _; (with_reducible repeat (first | refine blk_drewN ?_ _ | refine blk_drew ?_ | refine blk_alloc ?_ _)); refine blk_far ?_ NB940_941.out _; (with_reducible repeat (first | refine blk_drewN ?_ _ | refine blk_drew ?_ | refine blk_alloc ?_ _)); refine blk_put (cs := #[.bool t936, .string (⟨#[]⟩ : ByteArray)]) ?_ 1 _ (by first | rfl | (cases a0.toList <;> rfl) | (cases a1.toList <;> rfl)); (with_reducible repeat (first | refine blk_drewN ?_ _ | refine blk_drew ?_ | refine blk_alloc ?_ _)); refine blk_put (cs := #[.bool false, .string (⟨#[]⟩ : ByteArray)]) ?_ 0 _ (by first | rfl | (cases a0.toList <;> rfl) | (cases a1.toList <;> rfl)); (with_reducible repeat (first | refine blk_drewN ?_ _ | refine blk_drew ?_ | refine blk_alloc ?_ _)); exact BK940.out) hb); replace BK941 := Q.a (blk_below (g := gb941) (o := .cells #[.bool t938, .string t939] 36 (0, 0)) (by (with_reducible repeat (first | refine blk_drewN ?_ _ | refine blk_drew ?_ | refine blk_alloc ?_ _)); refine blk_put (cs := #[.bool t938, .string (⟨#[]⟩ : ByteArray)]) ?_ 1 _ (by first | rfl | (cases a0.toList <;> rfl) | (cases a1.toList <;> rfl)); (with_reducible repeat (first | refine blk_drewN ?_ _ | refine blk_drew ?_ | refine blk_alloc ?_ _)); refine blk_put (cs := #[.bool false, .string (⟨#[]⟩ : ByteArray)]) ?_ 0 _ (by first | rfl | (cases a0.toList <;> rfl) | (cases a1.toList <;> rfl)); (with_reducible repeat (first | refine blk_drewN ?_ _ | refine blk_drew ?_ | refine blk_alloc ?_ _)); refine blk_far ?_ NB941_940.out _; (with_reducible repeat (first | refine blk_drewN ?_ _ | refine blk_drew ?_ | refine blk_alloc ?_ _)); refine blk_far ?_ NB941_940.out _; (with_reducible repeat (first | refine blk_drewN ?_ _ | refine blk_drew ?_ | refine blk_alloc ?_ _)); exact BK941.out) hb); replace HB := Q.a (below_step (Q.bw2 HB GE940 GE941) hb); (try clear hb)))
 (try simp only [Act.put, List.setIfInBounds_toArray, List.set_cons_zero, List.set_cons_succ])
 go_cut [45] (fun v45 wc => ∃ (kq : Nat) (x45_5 : Bool), v45 = .bool x45_5 ∧ Aside0 (voussoirlaw02_IntegerInt64.j0 kq a0 a1 x45_5 t936 t937 t938 t939 = some r) ∧ Aside0 (kq ≤ k) ∧ Aside0 (wc.heap[gb940]? = some (.cells #[.bool t936, .string t937] 36 (0, 0))) ∧ Aside0 (wc.heap[gb941]? = some (.cells #[.bool t938, .string t939] 36 (0, 0))) ∧ Aside0 (Below w.heap.size w wc))
 case first =>
  have H := HC6.out
  clear HC6
  by_cases c15 : t943 = true
  ·subst c15
   rw [if_pos rfl] at H
   by_cases c16 : t942 = a0
   ·rw [if_pos c16] at H
    have c16b0 : (t942 == a0) = true := beq_iff_eq.mpr c16
    have c16b1 : (t942 != a0) = false := bne_eq_false_iff_eq.mpr c16
    clear c16
    (first | rw [c16b0] | (simp only [i64_w, i32_w]; rw [c16b0]) | skip)
    replace H := Option.bind_eq_some_iff.mp H
    obtain ⟨t944, A170, H⟩ := H
    try dsimp only at H
    have A17 := Q.a A170
    clear A170
    by_cases c18 : ((decide (t944 < 0)) != (decide (a0 < a1))) = true
    ·rw [if_pos c18] at H
     have c18b0 : ((decide (t944 < 0)) != (decide (a0 < a1))) = true := c18
     (try (have c18b1 : decide ((decide (t944 < 0)) = (decide (a0 < a1))) = false := by simpa using c18))
     (try (have c18b2 : ((decide (t944 < 0)) == (decide (a0 < a1))) = false := by simpa using c18))
     (try (have c18b3 : ¬ ((decide (t944 < 0)) = (decide (a0 < a1))) := by simpa using c18))
     clear c18
     have H' := Q.a H
     clear H
     have hnb19 := NB940_941.out
     have hnc19 := NB941_940.out
     have hcz20_0 : w14.cell? ⟨gb940, 0, none⟩ = some (.bool t936) := (blk_cell BK940.out 0).trans rfl
     have hcz20_1 : w14.cell? ⟨gb940, 1, none⟩ = some (.string t937) := (blk_cell BK940.out 1).trans rfl
     have hfz20_0 := blk_frozen BK940.out 0
     have hfz20_1 := blk_frozen BK940.out 1
     have hcz21_0 : w14.cell? ⟨gb941, 0, none⟩ = some (.bool t938) := (blk_cell BK941.out 0).trans rfl
     have hcz21_1 : w14.cell? ⟨gb941, 1, none⟩ = some (.string t939) := (blk_cell BK941.out 1).trans rfl
     have hfz21_0 := blk_frozen BK941.out 0
     have hfz21_1 := blk_frozen BK941.out 1
     go_wp2_with (first | (go_at_call 48; (with_reducible refine (integer_Cmp.calls k t936 t937 t938 t939 t944 _ A17.out).mono ?_); rintro e w22 ⟨rfl, hb⟩; replace BK940 := Q.a (Q.bb BK940 hb); replace BK941 := Q.a (Q.bb BK941 hb); replace HB := Q.a (below_step (Q.bw2 HB GE940 GE941) hb); (try clear hb)))
     go_meet
     case rel => exact ⟨_, (true), Q.rs, H', ⟨by first | omega | exact Nat.le_refl _⟩, ⟨Q.kb BK940⟩, ⟨Q.kb BK941⟩, ⟨Q.bw2 HB GE940 GE941⟩⟩
    ·rw [if_neg c18] at H
     have c18b0 : ((decide (t944 < 0)) != (decide (a0 < a1))) = false := by simpa using c18
     (try (have c18b1 : decide ((decide (t944 < 0)) = (decide (a0 < a1))) = true := by simpa using c18))
     (try (have c18b2 : ((decide (t944 < 0)) == (decide (a0 < a1))) = true := by simpa using c18))
     clear c18
     have H' := Q.a H
     clear H
     have hnb23 := NB940_941.out
     have hnc23 := NB941_940.out
     have hcz24_0 : w14.cell? ⟨gb940, 0, none⟩ = some (.bool t936) := (blk_cell BK940.out 0).trans rfl
     have hcz24_1 : w14.cell? ⟨gb940, 1, none⟩ = some (.string t937) := (blk_cell BK940.out 1).trans rfl
     have hfz24_0 := blk_frozen BK940.out 0
     have hfz24_1 := blk_frozen BK940.out 1
     have hcz25_0 : w14.cell? ⟨gb941, 0, none⟩ = some (.bool t938) := (blk_cell BK941.out 0).trans rfl
     have hcz25_1 : w14.cell? ⟨gb941, 1, none⟩ = some (.string t939) := (blk_cell BK941.out 1).trans rfl
     have hfz25_0 := blk_frozen BK941.out 0
     have hfz25_1 := blk_frozen BK941.out 1
     go_wp2_with (first | (go_at_call 48; (with_reducible refine (integer_Cmp.calls k t936 t937 t938 t939 t944 _ A17.out).mono ?_); rintro e w26 ⟨rfl, hb⟩; replace BK940 := Q.a (Q.bb BK940 hb); replace BK941 := Q.a (Q.bb BK941 hb); replace HB := Q.a (below_step (Q.bw2 HB GE940 GE941) hb); (try clear hb); have hcz27_0 : w26.cell? ⟨gb940, 0, none⟩ = some (.bool t936) := (blk_cell BK940.out 0).trans rfl; have hcz27_1 : w26.cell? ⟨gb940, 1, none⟩ = some (.string t937) := (blk_cell BK940.out 1).trans rfl; have hfz27_0 := blk_frozen BK940.out 0; have hfz27_1 := blk_frozen BK940.out 1; have hcz28_0 : w26.cell? ⟨gb941, 0, none⟩ = some (.bool t938) := (blk_cell BK941.out 0).trans rfl; have hcz28_1 : w26.cell? ⟨gb941, 1, none⟩ = some (.string t939) := (blk_cell BK941.out 1).trans rfl; have hfz28_0 := blk_frozen BK941.out 0; have hfz28_1 := blk_frozen BK941.out 1))
     go_meet
     case rel => exact ⟨_, (((t936 == t938 && (t937.toList == t939.toList)) != (a0 == a1))), Q.rs, H', ⟨by first | omega | exact Nat.le_refl _⟩, ⟨Q.kb BK940⟩, ⟨Q.kb BK941⟩, ⟨Q.bw2 HB GE940 GE941⟩⟩
   ·rw [if_neg c16] at H
    have c16b0 : (t942 == a0) = false := beq_eq_false_iff_ne.mpr c16
    have c16b1 : (t942 != a0) = true := bne_iff_ne.mpr c16
    (first | rw [c16b0] | (simp only [i64_w, i32_w]; rw [c16b0]) | skip)
    have H' := Q.a H
    clear H
    go_wp2
    go_meet
    case rel => exact ⟨_, (true), Q.rs, H', ⟨by first | omega | exact Nat.le_refl _⟩, ⟨Q.kb BK940⟩, ⟨Q.kb BK941⟩, ⟨Q.bw2 HB GE940 GE941⟩⟩
  ·replace c15 := Bool.eq_false_iff.mpr c15
   subst c15
   rw [if_neg (show ¬ (false = true) by decide)] at H
   have H' := Q.a H
   clear H
   go_wp2
   go_meet
   case rel => exact ⟨_, (true), Q.rs, H', ⟨by first | omega | exact Nat.le_refl _⟩, ⟨Q.kb BK940⟩, ⟨Q.kb BK941⟩, ⟨Q.bw2 HB GE940 GE941⟩⟩
 case rest =>
  clear HC6
  try clear c1
  try clear c2
  try clear p2
  try clear c5
  try clear c6
  try clear c11
  try clear c15
  try clear c16
  try clear c16b0
  try clear c16b1
  try clear c17
  try clear c18
  try clear c18b0
  try clear c18b1
  try clear c18b2
  try clear c19
  try clear c23
  try clear hcz12_0
  try clear hcz12_1
  try clear hcz13_0
  try clear hcz13_1
  try clear hcz20_0
  try clear hcz20_1
  try clear hcz21_0
  try clear hcz21_1
  try clear hcz24_0
  try clear hcz24_1
  try clear hcz25_0
  try clear hcz25_1
  try clear hcz27_0
  try clear hcz27_1
  try clear hcz28_0
  try clear hcz28_1
  try clear hfz12_0
  try clear hfz12_1
  try clear hfz13_0
  try clear hfz13_1
  try clear hfz20_0
  try clear hfz20_1
  try clear hfz21_0
  try clear hfz21_1
  try clear hfz24_0
  try clear hfz24_1
  try clear hfz25_0
  try clear hfz25_1
  try clear hfz27_0
  try clear hfz27_1
  try clear hfz28_0
  try clear hfz28_1
  obtain ⟨kq, x45_5, rfl, HA, HJ5, BK940, BK941, HB⟩ := hcut
  cases kq with
  | zero => exact absurd HA.out (by simp [voussoirlaw02_IntegerInt64.j0])
  | succ kj5 =>
   have H := HA.out
   clear HA
   simp only [voussoirlaw02_IntegerInt64.j0] at H
   by_cases c29 : x45_5 = true
   ·subst c29
    rw [if_pos rfl] at H
    obtain rfl := Option.some.inj H
    exact absurd HR.out (by decide)
   ·replace c29 := Bool.eq_false_iff.mpr c29
    subst c29
    rw [if_neg (show ¬ (false = true) by decide)] at H
    have HC30 := Q.a H
    clear H
    go_upto_region 5 with (fail)
    go_cut [59] (fun v59 wc => ∃ (kq : Nat) (x59_29 : Bool), v59 = .bool x59_29 ∧ Aside0 (voussoirlaw02_IntegerInt64.j1 kq a0 a1 x59_29 t936 t937 t938 t939 = some r) ∧ Aside0 (kq ≤ kj5) ∧ Aside0 (wc.heap[gb940]? = some (.cells #[.bool t936, .string t937] 36 (0, 0))) ∧ Aside0 (wc.heap[gb941]? = some (.cells #[.bool t938, .string t939] 36 (0, 0))) ∧ Aside0 (Below w.heap.size w wc))
    case first =>
     have H := HC30.out
     clear HC30
     by_cases c31 : a0 > (-2147483648)
     ·rw [if_pos c31] at H
      have c31b0 : decide ((-2147483648) < a0) = true := decide_eq_true c31
      clear c31
      (first | rw [c31b0] | (simp only [i64_w, i32_w]; rw [c31b0]) | skip)
      by_cases c32 : a0 < 2147483648
      ·rw [if_pos c32] at H
       have c32b0 : decide (a0 < 2147483648) = true := decide_eq_true c32
       clear c32
       by_cases c33 : a1 > (-2147483648)
       ·rw [if_pos c33] at H
        have c33b0 : decide ((-2147483648) < a1) = true := decide_eq_true c33
        clear c33
        have H' := Q.a H
        clear H
        go_wp2
        go_meet
        case rel => exact ⟨_, (decide (a1 < 2147483648)), Q.rs, H', ⟨by have := HJ5.out; first | omega | exact Nat.le_refl _⟩, ⟨Q.kb BK940⟩, ⟨Q.kb BK941⟩, ⟨Q.bw2 HB GE940 GE941⟩⟩
       ·rw [if_neg c33] at H
        have c33b0 : decide ((-2147483648) < a1) = false := decide_eq_false c33
        clear c33
        have H' := Q.a H
        clear H
        go_wp2
        go_meet
        case rel => exact ⟨_, (false), Q.rs, H', ⟨by have := HJ5.out; first | omega | exact Nat.le_refl _⟩, ⟨Q.kb BK940⟩, ⟨Q.kb BK941⟩, ⟨Q.bw2 HB GE940 GE941⟩⟩
      ·rw [if_neg c32] at H
       have c32b0 : decide (a0 < 2147483648) = false := decide_eq_false c32
       clear c32
       have H' := Q.a H
       clear H
       go_wp2
       go_meet
       case rel => exact ⟨_, (false), Q.rs, H', ⟨by have := HJ5.out; first | omega | exact Nat.le_refl _⟩, ⟨Q.kb BK940⟩, ⟨Q.kb BK941⟩, ⟨Q.bw2 HB GE940 GE941⟩⟩
     ·rw [if_neg c31] at H
      have c31b0 : decide ((-2147483648) < a0) = false := decide_eq_false c31
      clear c31
      (first | rw [c31b0] | (simp only [i64_w, i32_w]; rw [c31b0]) | skip)
      have H' := Q.a H
      clear H
      go_wp2
      go_meet
      case rel => exact ⟨_, (false), Q.rs, H', ⟨by have := HJ5.out; first | omega | exact Nat.le_refl _⟩, ⟨Q.kb BK940⟩, ⟨Q.kb BK941⟩, ⟨Q.bw2 HB GE940 GE941⟩⟩
    case rest =>
     clear HC30
     try clear c1
     try clear c2
     try clear p2
     try clear c3
     try clear c5
     try clear c6
     try clear c11
     try clear c15
     try clear c16
     try clear c16b0
     try clear c16b1
     try clear c17
     try clear c18
     try clear c18b0
     try clear c18b1
     try clear c18b2
     try clear c19
     try clear c23
     try clear c29
     try clear c31
     try clear c31b0
     try clear c32
     try clear c32b0
     try clear c33
     try clear c33b0
     try clear hcz12_0
     try clear hcz12_1
     try clear hcz13_0
     try clear hcz13_1
     try clear hcz20_0
     try clear hcz20_1
     try clear hcz21_0
     try clear hcz21_1
     try clear hcz24_0
     try clear hcz24_1
     try clear hcz25_0
     try clear hcz25_1
     try clear hcz27_0
     try clear hcz27_1
     try clear hcz28_0
     try clear hcz28_1
     try clear hfz12_0
     try clear hfz12_1
     try clear hfz13_0
     try clear hfz13_1
     try clear hfz20_0
     try clear hfz20_1
     try clear hfz21_0
     try clear hfz21_1
     try clear hfz24_0
     try clear hfz24_1
     try clear hfz25_0
     try clear hfz25_1
     try clear hfz27_0
     try clear hfz27_1
     try clear hfz28_0
     try clear hfz28_1
     try clear p2
     obtain ⟨kq, x59_29, rfl, HA, HJ29, BK940, BK941, HB⟩ := hcut
     cases kq with
     | zero => exact absurd HA.out (by simp [voussoirlaw02_IntegerInt64.j1])
     | succ kj29 =>
      have H := HA.out
      clear HA
      simp only [voussoirlaw02_IntegerInt64.j1] at H
      by_cases c34 : x59_29 = true
      ·subst c34
       rw [if_pos rfl] at H
       have HC35 := Q.a H
       clear H
       go_upto_region 6 with (fail)
       go_cut [87] (fun v87 wc => ∃ (kq : Nat) (x87_34 : Bool), v87 = .bool x87_34 ∧ Aside0 (voussoirlaw02_IntegerInt64.j2 kq x87_34 t936 t937 = some r) ∧ Aside0 (kq ≤ kj29) ∧ Aside0 (wc.heap[gb940]? = some (.cells #[.bool t936, .string t937] 36 (0, 0))) ∧ Aside0 (wc.heap[gb941]? = some (.cells #[.bool t938, .string t939] 36 (0, 0))) ∧ Aside0 (Below w.heap.size w wc))
       case first =>
        have H := HC35.out
        clear HC35
        replace H := Option.bind_eq_some_iff.mp H
        obtain ⟨⟨t945, t946⟩, A360, H⟩ := H
        try dsimp only at H
        have A36 := Q.a A360
        clear A360
        replace H := Option.bind_eq_some_iff.mp H
        obtain ⟨⟨t947, t948⟩, A370, H⟩ := H
        try dsimp only at H
        have A37 := Q.a A370
        clear A370
        by_cases c38 : (!(t945 == t947) || (!(t946.toList == t948.toList))) = true
        ·rw [if_pos c38] at H
         have c38b0 : (!(t945 == t947) || (!(t946.toList == t948.toList))) = true := c38
         clear c38
         (first | rw [c38b0] | (simp only [i64_w, i32_w]; rw [c38b0]) | skip)
         have H' := Q.a H
         clear H
         have hnb39 := NB940_941.out
         have hnc39 := NB941_940.out
         have hcz40_0 : wc.cell? ⟨gb940, 0, none⟩ = some (.bool t936) := (blk_cell BK940.out 0).trans rfl
         have hcz40_1 : wc.cell? ⟨gb940, 1, none⟩ = some (.string t937) := (blk_cell BK940.out 1).trans rfl
         have hfz40_0 := blk_frozen BK940.out 0
         have hfz40_1 := blk_frozen BK940.out 1
         have hcz41_0 : wc.cell? ⟨gb941, 0, none⟩ = some (.bool t938) := (blk_cell BK941.out 0).trans rfl
         have hcz41_1 : wc.cell? ⟨gb941, 1, none⟩ = some (.string t939) := (blk_cell BK941.out 1).trans rfl
         have hfz41_0 := blk_frozen BK941.out 0
         have hfz41_1 := blk_frozen BK941.out 1
         go_wp2_with (first | ((with_reducible refine gate_callee (f := 42) rfl ?_); refine Q.gl 62 Tryd.func42 #[.agg #[.bool t936, .string t937], .agg #[.bool t938, .string t939]] rfl rfl rfl rfl ?_; (with_reducible refine (integer_Add.calls kj29 t936 t937 t938 t939 t945 t946 _ A36.out).mono ?_); rintro e w42 ⟨rfl, hb⟩; refine ⟨_, rfl, ?_⟩; replace BK940 := Q.a (Q.bb BK940 hb); replace BK941 := Q.a (Q.bb BK941 hb); replace HB := Q.a (below_step (Q.bw2 HB GE940 GE941) hb); (try clear hb)) | ((with_reducible refine gate_callee (f := 54) rfl ?_); refine Q.gl 66 Tryd.func54 #[.int .i64 (wrap64 (a0 + a1))] rfl rfl rfl rfl ?_; (with_reducible refine (integer_FromInt64.calls kj29 (wrap64 (a0 + a1)) t947 t948 _ A37.out).mono ?_); rintro e w43 ⟨rfl, hb⟩; refine ⟨_, rfl, ?_⟩; replace BK940 := Q.a (Q.bb BK940 hb); replace BK941 := Q.a (Q.bb BK941 hb); replace HB := Q.a (below_step (Q.bw2 HB GE940 GE941) hb); (try clear hb)))
         go_meet
         case rel => exact ⟨_, (true), Q.rs, H', ⟨by have := HJ5.out; have := HJ29.out; first | omega | exact Nat.le_refl _⟩, ⟨Q.kb BK940⟩, ⟨Q.kb BK941⟩, ⟨Q.bw2 HB GE940 GE941⟩⟩
        ·rw [if_neg c38] at H
         have c38b0 : (!(t945 == t947) || (!(t946.toList == t948.toList))) = false := by simpa using c38
         clear c38
         (first | rw [c38b0] | (simp only [i64_w, i32_w]; rw [c38b0]) | skip)
         replace H := Option.bind_eq_some_iff.mp H
         obtain ⟨⟨t949, t950⟩, A440, H⟩ := H
         try dsimp only at H
         have A44 := Q.a A440
         clear A440
         replace H := Option.bind_eq_some_iff.mp H
         obtain ⟨⟨t951, t952⟩, A450, H⟩ := H
         try dsimp only at H
         have A45 := Q.a A450
         clear A450
         by_cases c46 : (!(t949 == t951) || (!(t950.toList == t952.toList))) = true
         ·rw [if_pos c46] at H
          have c46b0 : (!(t949 == t951) || (!(t950.toList == t952.toList))) = true := c46
          clear c46
          have H' := Q.a H
          clear H
          have hnb47 := NB940_941.out
          have hnc47 := NB941_940.out
          have hcz48_0 : wc.cell? ⟨gb940, 0, none⟩ = some (.bool t936) := (blk_cell BK940.out 0).trans rfl
          have hcz48_1 : wc.cell? ⟨gb940, 1, none⟩ = some (.string t937) := (blk_cell BK940.out 1).trans rfl
          have hfz48_0 := blk_frozen BK940.out 0
          have hfz48_1 := blk_frozen BK940.out 1
          have hcz49_0 : wc.cell? ⟨gb941, 0, none⟩ = some (.bool t938) := (blk_cell BK941.out 0).trans rfl
          have hcz49_1 : wc.cell? ⟨gb941, 1, none⟩ = some (.string t939) := (blk_cell BK941.out 1).trans rfl
          have hfz49_0 := blk_frozen BK941.out 0
          have hfz49_1 := blk_frozen BK941.out 1
          go_wp2_with (first | ((with_reducible refine gate_callee (f := 42) rfl ?_); refine Q.gl 62 Tryd.func42 #[.agg #[.bool t936, .string t937], .agg #[.bool t938, .string t939]] rfl rfl rfl rfl ?_; (with_reducible refine (integer_Add.calls kj29 t936 t937 t938 t939 t945 t946 _ A36.out).mono ?_); rintro e w50 ⟨rfl, hb⟩; refine ⟨_, rfl, ?_⟩; replace BK940 := Q.a (Q.bb BK940 hb); replace BK941 := Q.a (Q.bb BK941 hb); replace HB := Q.a (below_step (Q.bw2 HB GE940 GE941) hb); (try clear hb)) | ((with_reducible refine gate_callee (f := 54) rfl ?_); refine Q.gl 66 Tryd.func54 #[.int .i64 (wrap64 (a0 + a1))] rfl rfl rfl rfl ?_; (with_reducible refine (integer_FromInt64.calls kj29 (wrap64 (a0 + a1)) t947 t948 _ A37.out).mono ?_); rintro e w51 ⟨rfl, hb⟩; refine ⟨_, rfl, ?_⟩; replace BK940 := Q.a (Q.bb BK940 hb); replace BK941 := Q.a (Q.bb BK941 hb); replace HB := Q.a (below_step (Q.bw2 HB GE940 GE941) hb); (try clear hb); have hcz52_0 : w51.cell? ⟨gb940, 0, none⟩ = some (.bool t936) := (blk_cell BK940.out 0).trans rfl; have hcz52_1 : w51.cell? ⟨gb940, 1, none⟩ = some (.string t937) := (blk_cell BK940.out 1).trans rfl; have hfz52_0 := blk_frozen BK940.out 0; have hfz52_1 := blk_frozen BK940.out 1; have hcz53_0 : w51.cell? ⟨gb941, 0, none⟩ = some (.bool t938) := (blk_cell BK941.out 0).trans rfl; have hcz53_1 : w51.cell? ⟨gb941, 1, none⟩ = some (.string t939) := (blk_cell BK941.out 1).trans rfl; have hfz53_0 := blk_frozen BK941.out 0; have hfz53_1 := blk_frozen BK941.out 1) | (go_at_call 40; (with_reducible refine (integer_Mul.calls kj29 t936 t937 t938 t939 t949 t950 _ A44.out).mono ?_); rintro e w54 ⟨rfl, hb⟩; replace BK940 := Q.a (Q.bb BK940 hb); replace BK941 := Q.a (Q.bb BK941 hb); replace HB := Q.a (below_step (Q.bw2 HB GE940 GE941) hb); (try clear hb)) | (go_at_call 54; (with_reducible refine (integer_FromInt64.calls kj29 (wrap64 (a0 * a1)) t951 t952 _ A45.out).mono ?_); rintro e w55 ⟨rfl, hb⟩; replace BK940 := Q.a (Q.bb BK940 hb); replace BK941 := Q.a (Q.bb BK941 hb); replace HB := Q.a (below_step (Q.bw2 HB GE940 GE941) hb); (try clear hb)))
          go_meet
          case rel => exact ⟨_, (true), Q.rs, H', ⟨by have := HJ5.out; have := HJ29.out; first | omega | exact Nat.le_refl _⟩, ⟨Q.kb BK940⟩, ⟨Q.kb BK941⟩, ⟨Q.bw2 HB GE940 GE941⟩⟩
         ·rw [if_neg c46] at H
          have c46b0 : (!(t949 == t951) || (!(t950.toList == t952.toList))) = false := by simpa using c46
          clear c46
          replace H := Option.bind_eq_some_iff.mp H
          obtain ⟨⟨t953, t954⟩, A560, H⟩ := H
          try dsimp only at H
          have A56 := Q.a A560
          clear A560
          replace H := Option.bind_eq_some_iff.mp H
          obtain ⟨⟨t955, t956⟩, A570, H⟩ := H
          try dsimp only at H
          have A57 := Q.a A570
          clear A570
          have H' := Q.a H
          clear H
          have hnb58 := NB940_941.out
          have hnc58 := NB941_940.out
          have hcz59_0 : wc.cell? ⟨gb940, 0, none⟩ = some (.bool t936) := (blk_cell BK940.out 0).trans rfl
          have hcz59_1 : wc.cell? ⟨gb940, 1, none⟩ = some (.string t937) := (blk_cell BK940.out 1).trans rfl
          have hfz59_0 := blk_frozen BK940.out 0
          have hfz59_1 := blk_frozen BK940.out 1
          have hcz60_0 : wc.cell? ⟨gb941, 0, none⟩ = some (.bool t938) := (blk_cell BK941.out 0).trans rfl
          have hcz60_1 : wc.cell? ⟨gb941, 1, none⟩ = some (.string t939) := (blk_cell BK941.out 1).trans rfl
          have hfz60_0 := blk_frozen BK941.out 0
          have hfz60_1 := blk_frozen BK941.out 1
          go_wp2_with (first | ((with_reducible refine gate_callee (f := 42) rfl ?_); refine Q.gl 62 Tryd.func42 #[.agg #[.bool t936, .string t937], .agg #[.bool t938, .string t939]] rfl rfl rfl rfl ?_; (with_reducible refine (integer_Add.calls kj29 t936 t937 t938 t939 t945 t946 _ A36.out).mono ?_); rintro e w61 ⟨rfl, hb⟩; refine ⟨_, rfl, ?_⟩; replace BK940 := Q.a (Q.bb BK940 hb); replace BK941 := Q.a (Q.bb BK941 hb); replace HB := Q.a (below_step (Q.bw2 HB GE940 GE941) hb); (try clear hb)) | ((with_reducible refine gate_callee (f := 54) rfl ?_); refine Q.gl 66 Tryd.func54 #[.int .i64 (wrap64 (a0 + a1))] rfl rfl rfl rfl ?_; (with_reducible refine (integer_FromInt64.calls kj29 (wrap64 (a0 + a1)) t947 t948 _ A37.out).mono ?_); rintro e w62 ⟨rfl, hb⟩; refine ⟨_, rfl, ?_⟩; replace BK940 := Q.a (Q.bb BK940 hb); replace BK941 := Q.a (Q.bb BK941 hb); replace HB := Q.a (below_step (Q.bw2 HB GE940 GE941) hb); (try clear hb); have hcz63_0 : w62.cell? ⟨gb940, 0, none⟩ = some (.bool t936) := (blk_cell BK940.out 0).trans rfl; have hcz63_1 : w62.cell? ⟨gb940, 1, none⟩ = some (.string t937) := (blk_cell BK940.out 1).trans rfl; have hfz63_0 := blk_frozen BK940.out 0; have hfz63_1 := blk_frozen BK940.out 1; have hcz64_0 : w62.cell? ⟨gb941, 0, none⟩ = some (.bool t938) := (blk_cell BK941.out 0).trans rfl; have hcz64_1 : w62.cell? ⟨gb941, 1, none⟩ = some (.string t939) := (blk_cell BK941.out 1).trans rfl; have hfz64_0 := blk_frozen BK941.out 0; have hfz64_1 := blk_frozen BK941.out 1) | (go_at_call 40; (with_reducible refine (integer_Mul.calls kj29 t936 t937 t938 t939 t949 t950 _ A44.out).mono ?_); rintro e w65 ⟨rfl, hb⟩; replace BK940 := Q.a (Q.bb BK940 hb); replace BK941 := Q.a (Q.bb BK941 hb); replace HB := Q.a (below_step (Q.bw2 HB GE940 GE941) hb); (try clear hb)) | (go_at_call 54; (with_reducible refine (integer_FromInt64.calls kj29 (wrap64 (a0 * a1)) t951 t952 _ A45.out).mono ?_); rintro e w66 ⟨rfl, hb⟩; replace BK940 := Q.a (Q.bb BK940 hb); replace BK941 := Q.a (Q.bb BK941 hb); replace HB := Q.a (below_step (Q.bw2 HB GE940 GE941) hb); (try clear hb); have hcz67_0 : w66.cell? ⟨gb940, 0, none⟩ = some (.bool t936) := (blk_cell BK940.out 0).trans rfl; have hcz67_1 : w66.cell? ⟨gb940, 1, none⟩ = some (.string t937) := (blk_cell BK940.out 1).trans rfl; have hfz67_0 := blk_frozen BK940.out 0; have hfz67_1 := blk_frozen BK940.out 1; have hcz68_0 : w66.cell? ⟨gb941, 0, none⟩ = some (.bool t938) := (blk_cell BK941.out 0).trans rfl; have hcz68_1 : w66.cell? ⟨gb941, 1, none⟩ = some (.string t939) := (blk_cell BK941.out 1).trans rfl; have hfz68_0 := blk_frozen BK941.out 0; have hfz68_1 := blk_frozen BK941.out 1) | (go_at_call 44; (with_reducible refine (integer_Sub.calls kj29 t936 t937 t938 t939 t953 t954 _ A56.out).mono ?_); rintro e w69 ⟨rfl, hb⟩; replace BK940 := Q.a (Q.bb BK940 hb); replace BK941 := Q.a (Q.bb BK941 hb); replace HB := Q.a (below_step (Q.bw2 HB GE940 GE941) hb); (try clear hb)) | (go_at_call 54; (with_reducible refine (integer_FromInt64.calls kj29 (wrap64 (a0 - a1)) t955 t956 _ A57.out).mono ?_); rintro e w70 ⟨rfl, hb⟩; replace BK940 := Q.a (Q.bb BK940 hb); replace BK941 := Q.a (Q.bb BK941 hb); replace HB := Q.a (below_step (Q.bw2 HB GE940 GE941) hb); (try clear hb)))
          go_meet
          case rel => exact ⟨_, ((!(t953 == t955) || (!(t954.toList == t956.toList)))), Q.rs, H', ⟨by have := HJ5.out; have := HJ29.out; first | omega | exact Nat.le_refl _⟩, ⟨Q.kb BK940⟩, ⟨Q.kb BK941⟩, ⟨Q.bw2 HB GE940 GE941⟩⟩
       case rest =>
        clear HC35
        try clear c1
        try clear c2
        try clear p2
        try clear c3
        try clear c4
        try clear c5
        try clear c6
        try clear p6
        try clear c11
        try clear c15
        try clear c16
        try clear c16b0
        try clear c16b1
        try clear c17
        try clear c18
        try clear c18b0
        try clear c18b1
        try clear c18b2
        try clear c19
        try clear c23
        try clear c29
        try clear c31
        try clear c31b0
        try clear c32
        try clear c32b0
        try clear c33
        try clear c33b0
        try clear c34
        try clear c38
        try clear c38b0
        try clear c39
        try clear c42
        try clear c46
        try clear c46b0
        try clear c47
        try clear c54
        try clear c58
        try clear c63
        try clear p64
        try clear hcz12_0
        try clear hcz12_1
        try clear hcz13_0
        try clear hcz13_1
        try clear hcz20_0
        try clear hcz20_1
        try clear hcz21_0
        try clear hcz21_1
        try clear hcz24_0
        try clear hcz24_1
        try clear hcz25_0
        try clear hcz25_1
        try clear hcz27_0
        try clear hcz27_1
        try clear hcz28_0
        try clear hcz28_1
        try clear hcz40_0
        try clear hcz40_1
        try clear hcz41_0
        try clear hcz41_1
        try clear hcz48_0
        try clear hcz48_1
        try clear hcz49_0
        try clear hcz49_1
        try clear hcz52_0
        try clear hcz52_1
        try clear hcz53_0
        try clear hcz53_1
        try clear hcz59_0
        try clear hcz59_1
        try clear hcz60_0
        try clear hcz60_1
        try clear hcz63_0
        try clear hcz63_1
        try clear hcz64_0
        try clear hcz64_1
        try clear hcz67_0
        try clear hcz67_1
        try clear hcz68_0
        try clear hcz68_1
        try clear hfz12_0
        try clear hfz12_1
        try clear hfz13_0
        try clear hfz13_1
        try clear hfz20_0
        try clear hfz20_1
        try clear hfz21_0
        try clear hfz21_1
        try clear hfz24_0
        try clear hfz24_1
        try clear hfz25_0
        try clear hfz25_1
        try clear hfz27_0
        try clear hfz27_1
        try clear hfz28_0
        try clear hfz28_1
        try clear hfz40_0
        try clear hfz40_1
        try clear hfz41_0
        try clear hfz41_1
        try clear hfz48_0
        try clear hfz48_1
        try clear hfz49_0
        try clear hfz49_1
        try clear hfz52_0
        try clear hfz52_1
        try clear hfz53_0
        try clear hfz53_1
        try clear hfz59_0
        try clear hfz59_1
        try clear hfz60_0
        try clear hfz60_1
        try clear hfz63_0
        try clear hfz63_1
        try clear hfz64_0
        try clear hfz64_1
        try clear hfz67_0
        try clear hfz67_1
        try clear hfz68_0
        try clear hfz68_1
        try clear p2
        obtain ⟨kq, x87_34, rfl, HA, HJ34, BK940, BK941, HB⟩ := hcut
        cases kq with
        | zero => exact absurd HA.out (by simp [voussoirlaw02_IntegerInt64.j2])
        | succ kj34 =>
         have H := HA.out
         clear HA
         simp only [voussoirlaw02_IntegerInt64.j2] at H
         by_cases c71 : x87_34 = true
         ·subst c71
          rw [if_pos rfl] at H
          obtain rfl := Option.some.inj H
          exact absurd HR.out (by decide)
         ·replace c71 := Bool.eq_false_iff.mpr c71
          subst c71
          rw [if_neg (show ¬ (false = true) by decide)] at H
          replace H := Option.bind_eq_some_iff.mp H
          obtain ⟨t957, A720, H⟩ := H
          try dsimp only at H
          have A72 := Q.a A720
          clear A720
          replace H := Option.bind_eq_some_iff.mp H
          obtain ⟨⟨t958, t959, t960⟩, A730, H⟩ := H
          try dsimp only at H
          have A73 := Q.a A730
          clear A730
          replace H := Option.bind_eq_some_iff.mp H
          obtain ⟨t962, A740, H⟩ := H
          try dsimp only at H
          have A74 := Q.a A740
          clear A740
          by_cases c75 : t962 = true
          ·subst c75
           rw [if_pos rfl] at H
           by_cases c76 : t960 = true
           ·subst c76
            rw [if_pos rfl] at H
            obtain rfl := Option.some.inj H
            have hnb77 := NB940_941.out
            have hnc77 := NB941_940.out
            have hcz78_0 : wc.cell? ⟨gb940, 0, none⟩ = some (.bool t936) := (blk_cell BK940.out 0).trans rfl
            have hcz78_1 : wc.cell? ⟨gb940, 1, none⟩ = some (.string t937) := (blk_cell BK940.out 1).trans rfl
            have hfz78_0 := blk_frozen BK940.out 0
            have hfz78_1 := blk_frozen BK940.out 1
            go_wp2_with (first | ((with_reducible refine gate_callee (f := 65) rfl ?_); refine Q.gl 90 Tryd.func65 #[.agg #[.bool t936, .string t937]] rfl rfl rfl rfl ?_; (with_reducible refine (integer_Format.calls kj34 t936 t937 t957 _ ?side1 A72.out).mono ?_); (case side1 => exact X.G.below HG.out (Q.bw2 HB GE940 GE941)); rintro e w79 ⟨rfl, hb⟩; refine ⟨_, rfl, ?_⟩; replace BK940 := Q.a (Q.bb BK940 hb); replace BK941 := Q.a (Q.bb BK941 hb); replace HB := Q.a (below_step (Q.bw2 HB GE940 GE941) hb); (try clear hb)) | ((with_reducible refine gate_callee (f := 64) rfl ?_); refine Q.gl 91 Tryd.func64 #[.string t957] rfl rfl rfl rfl ?_; (with_reducible refine (integer_Parse.calls kj34 t957 t958 t959 true _ A73.out).mono ?_); rintro e w80 ⟨rfl, hb⟩; refine ⟨_, rfl, ?_⟩; replace BK940 := Q.a (Q.bb BK940 hb); replace BK941 := Q.a (Q.bb BK941 hb); replace HB := Q.a (below_step (Q.bw2 HB GE940 GE941) hb); (try clear hb)) | ((with_reducible refine gate_dst (N := 9) rfl ?_); refine Q.bx 9 #[.bool false, .string (⟨#[]⟩ : ByteArray)] 36 rfl rfl ?_; intro gb961 hg w81 hbox hb; replace BK961 := Q.a (hbox); replace GW961 := Q.a (Q.gs hg (below_size (Q.bw2 HB GE940 GE941))); replace GE961 := GW961; replace HB := Q.a (below_step (Q.bw2 HB GE940 GE941) hb); replace NB940_961 := Q.a (Q.nl hg BK940); replace NB961_940 := Q.a (Q.ng hg BK940); replace BK940 := Q.a (Q.bb BK940 hb); replace NB941_961 := Q.a (Q.nl hg BK941); replace NB961_941 := Q.a (Q.ng hg BK941); replace BK941 := Q.a (Q.bb BK941 hb); clear hb hbox hg; have hnb82 := NB961_940.out; have hnc82 := NB940_961.out; have hnb83 := NB961_941.out; have hnc83 := NB941_961.out; have hcz84_0 : w81.cell? ⟨gb961, 0, none⟩ = some (.bool false) := (blk_cell BK961.out 0).trans rfl; have hcz84_1 : w81.cell? ⟨gb961, 1, none⟩ = some (.string (⟨#[]⟩ : ByteArray)) := (blk_cell BK961.out 1).trans rfl; have hfz84_0 := blk_frozen BK961.out 0; have hfz84_1 := blk_frozen BK961.out 1) | ((with_reducible refine gate_callee (f := 37) rfl ?_); refine Q.gl 94 Tryd.func37 #[] rfl rfl rfl rfl ?_; (with_reducible refine (voussoirlaw02_fixed.calls kj34  true rfl _ ?side1 A74.out).mono ?_); (case side1 => exact X.G.below HG.out (Q.bw3 HB GE940 GE941 GE961)); rintro e w85 ⟨rfl, hb⟩; refine ⟨_, rfl, ?_⟩; replace BK940 := Q.a (Q.bf BK940 NB940_961 hb); replace BK941 := Q.a (Q.bf BK941 NB941_961 hb); replace BK961 := Q.a (blk_below (g := gb961) (o := .cells #[.bool t958, .string t959] 36 (0, 0)) (by (with_reducible repeat (first | refine blk_drewN ?_ _ | refine blk_drew ?_ | refine blk_alloc ?_ _)); refine blk_put (cs := #[.bool t958, .string (⟨#[]⟩ : ByteArray)]) ?_ 1 _ (by first | rfl | (cases a0.toList <;> rfl) | (cases a1.toList <;> rfl)); (with_reducible repeat (first | refine blk_drewN ?_ _ | refine blk_drew ?_ | refine blk_alloc ?_ _)); refine blk_put (cs := #[.bool false, .string (⟨#[]⟩ : ByteArray)]) ?_ 0 _ (by first | rfl | (cases a0.toList <;> rfl) | (cases a1.toList <;> rfl)); (with_reducible repeat (first | refine blk_drewN ?_ _ | refine blk_drew ?_ | refine blk_alloc ?_ _)); exact BK961.out) hb); replace HB := Q.a (below_step (Q.bw3 HB GE940 GE941 GE961) hb); (try clear hb); have hcz86_0 : w85.cell? ⟨gb961, 0, none⟩ = some (.bool t958) := (blk_cell BK961.out 0).trans rfl; have hcz86_1 : w85.cell? ⟨gb961, 1, none⟩ = some (.string t959) := (blk_cell BK961.out 1).trans rfl; have hfz86_0 := blk_frozen BK961.out 0; have hfz86_1 := blk_frozen BK961.out 1; have hcz87_0 : w85.cell? ⟨gb940, 0, none⟩ = some (.bool t936) := (blk_cell BK940.out 0).trans rfl; have hcz87_1 : w85.cell? ⟨gb940, 1, none⟩ = some (.string t937) := (blk_cell BK940.out 1).trans rfl; have hfz87_0 := blk_frozen BK940.out 0; have hfz87_1 := blk_frozen BK940.out 1))
            go_ret
            exact ⟨Q.en, Q.bw3 HB GE940 GE941 GE961⟩
           ·replace c76 := Bool.eq_false_iff.mpr c76
            subst c76
            rw [if_neg (show ¬ (false = true) by decide)] at H
            obtain rfl := Option.some.inj H
            exact absurd HR.out (by decide)
          ·replace c75 := Bool.eq_false_iff.mpr c75
           subst c75
           rw [if_neg (show ¬ (false = true) by decide)] at H
           obtain rfl := Option.some.inj H
           exact absurd HR.out (by decide)
      ·replace c34 := Bool.eq_false_iff.mpr c34
       subst c34
       rw [if_neg (show ¬ (false = true) by decide)] at H
       replace H := Option.bind_eq_some_iff.mp H
       obtain ⟨t963, A1060, H⟩ := H
       try dsimp only at H
       have A106 := Q.a A1060
       clear A1060
       replace H := Option.bind_eq_some_iff.mp H
       obtain ⟨⟨t964, t965, t966⟩, A1070, H⟩ := H
       try dsimp only at H
       have A107 := Q.a A1070
       clear A1070
       replace H := Option.bind_eq_some_iff.mp H
       obtain ⟨t968, A1080, H⟩ := H
       try dsimp only at H
       have A108 := Q.a A1080
       clear A1080
       by_cases c109 : t968 = true
       ·subst c109
        rw [if_pos rfl] at H
        by_cases c110 : t966 = true
        ·subst c110
         rw [if_pos rfl] at H
         obtain rfl := Option.some.inj H
         have hnb111 := NB940_941.out
         have hnc111 := NB941_940.out
         have hcz112_0 : wc.cell? ⟨gb940, 0, none⟩ = some (.bool t936) := (blk_cell BK940.out 0).trans rfl
         have hcz112_1 : wc.cell? ⟨gb940, 1, none⟩ = some (.string t937) := (blk_cell BK940.out 1).trans rfl
         have hfz112_0 := blk_frozen BK940.out 0
         have hfz112_1 := blk_frozen BK940.out 1
         go_wp2_with (first | ((with_reducible refine gate_callee (f := 65) rfl ?_); refine Q.gl 90 Tryd.func65 #[.agg #[.bool t936, .string t937]] rfl rfl rfl rfl ?_; (with_reducible refine (integer_Format.calls kj29 t936 t937 t963 _ ?side1 A106.out).mono ?_); (case side1 => exact X.G.below HG.out (Q.bw2 HB GE940 GE941)); rintro e w113 ⟨rfl, hb⟩; refine ⟨_, rfl, ?_⟩; replace BK940 := Q.a (Q.bb BK940 hb); replace BK941 := Q.a (Q.bb BK941 hb); replace HB := Q.a (below_step (Q.bw2 HB GE940 GE941) hb); (try clear hb)) | ((with_reducible refine gate_callee (f := 64) rfl ?_); refine Q.gl 91 Tryd.func64 #[.string t963] rfl rfl rfl rfl ?_; (with_reducible refine (integer_Parse.calls kj29 t963 t964 t965 true _ A107.out).mono ?_); rintro e w114 ⟨rfl, hb⟩; refine ⟨_, rfl, ?_⟩; replace BK940 := Q.a (Q.bb BK940 hb); replace BK941 := Q.a (Q.bb BK941 hb); replace HB := Q.a (below_step (Q.bw2 HB GE940 GE941) hb); (try clear hb)) | ((with_reducible refine gate_dst (N := 9) rfl ?_); refine Q.bx 9 #[.bool false, .string (⟨#[]⟩ : ByteArray)] 36 rfl rfl ?_; intro gb967 hg w115 hbox hb; replace BK967 := Q.a (hbox); replace GW967 := Q.a (Q.gs hg (below_size (Q.bw2 HB GE940 GE941))); replace GE967 := GW967; replace HB := Q.a (below_step (Q.bw2 HB GE940 GE941) hb); replace NB940_967 := Q.a (Q.nl hg BK940); replace NB967_940 := Q.a (Q.ng hg BK940); replace BK940 := Q.a (Q.bb BK940 hb); replace NB941_967 := Q.a (Q.nl hg BK941); replace NB967_941 := Q.a (Q.ng hg BK941); replace BK941 := Q.a (Q.bb BK941 hb); clear hb hbox hg; have hnb116 := NB967_940.out; have hnc116 := NB940_967.out; have hnb117 := NB967_941.out; have hnc117 := NB941_967.out; have hcz118_0 : w115.cell? ⟨gb967, 0, none⟩ = some (.bool false) := (blk_cell BK967.out 0).trans rfl; have hcz118_1 : w115.cell? ⟨gb967, 1, none⟩ = some (.string (⟨#[]⟩ : ByteArray)) := (blk_cell BK967.out 1).trans rfl; have hfz118_0 := blk_frozen BK967.out 0; have hfz118_1 := blk_frozen BK967.out 1) | ((with_reducible refine gate_callee (f := 37) rfl ?_); refine Q.gl 94 Tryd.func37 #[] rfl rfl rfl rfl ?_; (with_reducible refine (voussoirlaw02_fixed.calls kj29  true rfl _ ?side1 A108.out).mono ?_); (case side1 => exact X.G.below HG.out (Q.bw3 HB GE940 GE941 GE967)); rintro e w119 ⟨rfl, hb⟩; refine ⟨_, rfl, ?_⟩; replace BK940 := Q.a (Q.bf BK940 NB940_967 hb); replace BK941 := Q.a (Q.bf BK941 NB941_967 hb); replace BK967 := Q.a (blk_below (g := gb967) (o := .cells #[.bool t964, .string t965] 36 (0, 0)) (by (with_reducible repeat (first | refine blk_drewN ?_ _ | refine blk_drew ?_ | refine blk_alloc ?_ _)); refine blk_put (cs := #[.bool t964, .string (⟨#[]⟩ : ByteArray)]) ?_ 1 _ (by first | rfl | (cases a0.toList <;> rfl) | (cases a1.toList <;> rfl)); (with_reducible repeat (first | refine blk_drewN ?_ _ | refine blk_drew ?_ | refine blk_alloc ?_ _)); refine blk_put (cs := #[.bool false, .string (⟨#[]⟩ : ByteArray)]) ?_ 0 _ (by first | rfl | (cases a0.toList <;> rfl) | (cases a1.toList <;> rfl)); (with_reducible repeat (first | refine blk_drewN ?_ _ | refine blk_drew ?_ | refine blk_alloc ?_ _)); exact BK967.out) hb); replace HB := Q.a (below_step (Q.bw3 HB GE940 GE941 GE967) hb); (try clear hb); have hcz120_0 : w119.cell? ⟨gb967, 0, none⟩ = some (.bool t964) := (blk_cell BK967.out 0).trans rfl; have hcz120_1 : w119.cell? ⟨gb967, 1, none⟩ = some (.string t965) := (blk_cell BK967.out 1).trans rfl; have hfz120_0 := blk_frozen BK967.out 0; have hfz120_1 := blk_frozen BK967.out 1; have hcz121_0 : w119.cell? ⟨gb940, 0, none⟩ = some (.bool t936) := (blk_cell BK940.out 0).trans rfl; have hcz121_1 : w119.cell? ⟨gb940, 1, none⟩ = some (.string t937) := (blk_cell BK940.out 1).trans rfl; have hfz121_0 := blk_frozen BK940.out 0; have hfz121_1 := blk_frozen BK940.out 1))
         go_ret
         exact ⟨Q.en, Q.bw3 HB GE940 GE941 GE967⟩
        ·replace c110 := Bool.eq_false_iff.mpr c110
         subst c110
         rw [if_neg (show ¬ (false = true) by decide)] at H
         obtain rfl := Option.some.inj H
         exact absurd HR.out (by decide)
       ·replace c109 := Bool.eq_false_iff.mpr c109
        subst c109
        rw [if_neg (show ¬ (false = true) by decide)] at H
        obtain rfl := Option.some.inj H
        exact absurd HR.out (by decide)
/-- THE ONE PURE STATEMENT of voussoirlaw02_IntegerInt64: yours. -/
def voussoirlaw02_IntegerInt64.Pure : Prop := ∀ (a0 : Int) (a1 : Int), (Lit.int .i64 a0).wf = true → (Lit.int .i64 a1).wf = true → ∃ k, voussoirlaw02_IntegerInt64.f k a0 a1 = some true
theorem voussoirlaw02_IntegerInt64.walk (P : voussoirlaw02_IntegerInt64.Pure) (a0 : Int) (a1 : Int) (w : World) (w0 : (Lit.int .i64 a0).wf = true) (w1 : (Lit.int .i64 a1).wf = true) (hG : X.G w) :
  Calls Tryd.prog 17 #[.int .i64 a0, .int .i64 a1] w fun e w' => e = .returned (.bool true) ∧ Below w.heap.size w w' := by
 obtain ⟨k, h⟩ := P a0 a1 w0 w1
 refine (voussoirlaw02_IntegerInt64.calls k a0 a1 true rfl w hG h).mono ?_
 rintro e w' ⟨rfl, hd⟩
 exact ⟨rfl, hd⟩
end Go.Proofs.YtpokflilobkoaaaDoor.P
