-- Written by mp.py (a program of this session's, over the kit's printer). Not trusted: Lean checks it.
import Derived.Test.YtpokflilobkoaaaDoorPx0
import Derived.Test.YtpokflilobkoaaaDoorPx2
import Derived.Test.YtpokflilobkoaaaDoorPx6
import Derived.Test.YtpokflilobkoaaaDoorPx7
import Derived.Test.YtpokflilobkoaaaDoorPx10
import Derived.Test.YtpokflilobkoaaaDoorPx16
import Derived.Test.YtpokflilobkoaaaDoorPx28
import Derived.Test.YtpokflilobkoaaaDoorPx29
import Derived.Test.YtpokflilobkoaaaDoorXQ
namespace Go.Proofs.YtpokflilobkoaaaDoor.P
open Go.RowKit Go.Proofs.YtpokflilobkoaaaDoorW.PrintWords Go.Proofs.YtpokflilobkoaaaDoorW.PrintLast Go.Proofs.YtpokflilobkoaaaDoorW.PrintMore
attribute [local go_sem] max2_int min2_int max_two min_two max_three min_three max_four min_four   -- for this text's walks alone
attribute [local go_sem] XW.cell_twice   -- for this text's walks alone
set_option linter.unusedVariables false
set_option linter.unusedSimpArgs false

/-! ### voussoirlaw01_NatStrings: function 16 -/
def voussoirlaw01_NatStrings.j0 : Nat → ByteArray → ByteArray → Int → Bool → Option (Bool)
  | 0, _, _, _, _ => none
  | k + 1, x0, x1, x2, x29 => if x29 = true then (some true) else ((nat_Parse.f k x1).bind fun bt905 => ((voussoirref01_Parse.f k x1).bind fun bt907 => ((nat_Uint64.f k x0).bind fun bt909 => ((voussoirref01_Num.f k x0).bind fun bt911 => ((nat_Format.f k x0).bind fun t913 => ((nat_Parse.f k t913).bind fun bt914 => ((nat_FromUint64.f k x2).bind fun t916 => ((nat_Uint64.f k t916).bind fun bt917 => (if bt905.1.toList = bt907.1.toList then (if (bt905.2 == bt907.2) = true then (if bt909.1 = bt911.1 then (if (bt909.2 == bt911.2) = true then ((voussoirref01_Text.f k x0).bind fun t919 => (if t913.toList = t919.toList then (if bt914.2 = true then ((nat_Normalize.f k x0).bind fun t920 => (if bt914.1.toList = t920.toList then ((nat_FromUint64.f k x2).bind fun t921 => ((voussoirref01_Of.f k x2).bind fun t922 => (if t921.toList = t922.toList then (if bt917.1 = x2 then (if bt917.2 = true then (if bt905.2 = true then ((nat_Format.f k bt905.1).bind fun t923 => (some (t923.toList == x1.toList))) else (some true)) else (some false)) else (some false)) else (some false)))) else (some false))) else (some false)) else (some false))) else (some false)) else (some false)) else (some false)) else (some false))))))))))
def voussoirlaw01_NatStrings.f (k : Nat) (a0 : ByteArray) (a1 : ByteArray) (a2 : Int) : Option (Bool) := (voussoirlaw01_natAlive.f k).bind fun t900 => (if t900 = true then ((voussoirlaw01_wide.f k (([a0] : List ByteArray))).bind fun t904 => (if t904 = true then (voussoirlaw01_NatStrings.j0 k a0 a1 a2 true) else (voussoirlaw01_NatStrings.j0 k a0 a1 a2 (decide ((a1.size : Int) > 90))))) else (some false))
theorem voussoirlaw01_NatStrings.mono_l : ∀ k, (∀ y0 y1 y2 y3, LeO (voussoirlaw01_NatStrings.j0 k y0 y1 y2 y3) (voussoirlaw01_NatStrings.j0 (k + 1) y0 y1 y2 y3))
  | 0 => fun _ _ _ _ r h => by simp [voussoirlaw01_NatStrings.j0] at h
  | k + 1 => by
    have ih0 := voussoirlaw01_NatStrings.mono_l k
    · intro y0 y1 y2 y3
      unfold voussoirlaw01_NatStrings.j0
      repeat' first
      | (with_reducible exact ih0 _ _ _ _)
      | (with_reducible exact nat_Format.mono _ _)
      | (with_reducible exact nat_FromUint64.mono _ _)
      | (with_reducible exact nat_Normalize.mono _ _)
      | (with_reducible exact nat_Parse.mono _ _)
      | (with_reducible exact nat_Uint64.mono _ _)
      | (with_reducible exact voussoirlaw01_natAlive.mono _)
      | (with_reducible exact voussoirlaw01_wide.mono _ _)
      | (with_reducible exact voussoirref01_Num.mono _ _)
      | (with_reducible exact voussoirref01_Of.mono _ _)
      | (with_reducible exact voussoirref01_Parse.mono _ _)
      | (with_reducible exact voussoirref01_Text.mono _ _)
      | (with_reducible exact LeO.refl _)
      | (with_reducible exact LeO.none _)
      | (with_reducible refine LeO.ite ?_ ?_)
      | (with_reducible refine LeO.bind ?_ (fun _ => ?_))
      | exact ih0 _ _ _ _
      | exact nat_Format.mono _ _
      | exact nat_FromUint64.mono _ _
      | exact nat_Normalize.mono _ _
      | exact nat_Parse.mono _ _
      | exact nat_Uint64.mono _ _
      | exact voussoirlaw01_natAlive.mono _
      | exact voussoirlaw01_wide.mono _ _
      | exact voussoirref01_Num.mono _ _
      | exact voussoirref01_Of.mono _ _
      | exact voussoirref01_Parse.mono _ _
      | exact voussoirref01_Text.mono _ _
      | exact LeO.none _
      | refine LeO.ite ?_ ?_
      | refine LeO.bind ?_ (fun _ => ?_)
theorem voussoirlaw01_NatStrings.mono : ∀ a0 a1 a2 k, LeO (voussoirlaw01_NatStrings.f k a0 a1 a2) (voussoirlaw01_NatStrings.f (k + 1) a0 a1 a2) := by
  intro a0 a1 a2 k
  have ih0 := voussoirlaw01_NatStrings.mono_l k
  unfold voussoirlaw01_NatStrings.f
  repeat' first
      | (with_reducible exact ih0 _ _ _ _)
      | (with_reducible exact nat_Format.mono _ _)
      | (with_reducible exact nat_FromUint64.mono _ _)
      | (with_reducible exact nat_Normalize.mono _ _)
      | (with_reducible exact nat_Parse.mono _ _)
      | (with_reducible exact nat_Uint64.mono _ _)
      | (with_reducible exact voussoirlaw01_natAlive.mono _)
      | (with_reducible exact voussoirlaw01_wide.mono _ _)
      | (with_reducible exact voussoirref01_Num.mono _ _)
      | (with_reducible exact voussoirref01_Of.mono _ _)
      | (with_reducible exact voussoirref01_Parse.mono _ _)
      | (with_reducible exact voussoirref01_Text.mono _ _)
      | (with_reducible exact LeO.refl _)
      | (with_reducible exact LeO.none _)
      | (with_reducible refine LeO.ite ?_ ?_)
      | (with_reducible refine LeO.bind ?_ (fun _ => ?_))
      | exact ih0 _ _ _ _
      | exact nat_Format.mono _ _
      | exact nat_FromUint64.mono _ _
      | exact nat_Normalize.mono _ _
      | exact nat_Parse.mono _ _
      | exact nat_Uint64.mono _ _
      | exact voussoirlaw01_natAlive.mono _
      | exact voussoirlaw01_wide.mono _ _
      | exact voussoirref01_Num.mono _ _
      | exact voussoirref01_Of.mono _ _
      | exact voussoirref01_Parse.mono _ _
      | exact voussoirref01_Text.mono _ _
      | exact LeO.none _
      | refine LeO.ite ?_ ?_
      | refine LeO.bind ?_ (fun _ => ?_)
set_option maxHeartbeats 8000000 in
set_option maxRecDepth 100000 in
theorem voussoirlaw01_NatStrings.calls (k : Nat) (a0 : ByteArray) (a1 : ByteArray) (a2 : Int) (r : Bool) (hr : r = true) (w : World) (hG : X.G w) (h : voussoirlaw01_NatStrings.f k a0 a1 a2 = some r) :
    Calls Tryd.prog 16 #[.string a0, .string a1, .int .u64 a2] w fun e w' => e = .returned (.bool r) ∧ Below w.heap.size w w' := by
  have HR := Q.a hr
  clear hr
  have HG := Q.a hG
  clear hG
  have HB := Q.a (Below.refl w.heap.size w)
  have H : ((voussoirlaw01_natAlive.f k).bind fun t900 => (if t900 = true then ((voussoirlaw01_wide.f k (([a0] : List ByteArray))).bind fun t904 => (if t904 = true then (voussoirlaw01_NatStrings.j0 k a0 a1 a2 true) else (voussoirlaw01_NatStrings.j0 k a0 a1 a2 (decide ((a1.size : Int) > 90))))) else (some false))) = some r := h
  clear h
  replace H := Option.bind_eq_some_iff.mp H
  obtain ⟨t900, A40, H⟩ := H
  try dsimp only at H
  have A4 := Q.a A40
  clear A40
  by_cases c5 : t900 = true
  · subst c5
    rw [if_pos rfl] at H
    have HC6 := Q.a H
    clear H
    go_enter Tryd.func16, Tryd.ntmps16
    go_upto_region 3 with (first | ((with_reducible refine gate_callee (f := 18) rfl ?_); refine Q.gl 20 Tryd.func18 #[] rfl rfl rfl rfl ?_; (with_reducible refine (voussoirlaw01_natAlive.calls k  true rfl _ ?side1 A4.out).mono ?_); (case side1 => exact X.G.below HG.out (Q.bw HB)); rintro e w7 ⟨rfl, hb⟩; refine ⟨_, rfl, ?_⟩; replace HB := Q.a (below_step (Q.bw HB) hb); (try clear hb)))
    (try simp only [Act.put, List.setIfInBounds_toArray, List.set_cons_zero, List.set_cons_succ])
    go_cut [29] (fun v29 wc => ∃ (kq : Nat) (x29_5 : Bool), v29 = .bool x29_5 ∧ Aside0 (voussoirlaw01_NatStrings.j0 kq a0 a1 a2 x29_5 = some r) ∧ Aside0 (kq ≤ k) ∧ Aside0 (Below w.heap.size w wc))
    case first =>
      have H := HC6.out
      clear HC6
      obtain ⟨y901, hy901⟩ : ∃ y_ : List ByteArray, y_ = (([a0] : List ByteArray)) := ⟨_, rfl⟩
      replace H : ((voussoirlaw01_wide.f k y901).bind fun t904 => (if t904 = true then (voussoirlaw01_NatStrings.j0 k a0 a1 a2 true) else (voussoirlaw01_NatStrings.j0 k a0 a1 a2 (decide ((a1.size : Int) > 90))))) = some r := by first | (rw [hy901]; with_reducible exact H) | (have H2_ := (Option.bind_some _ _).symm.trans H; rw [hy901]; with_reducible exact H2_) | (have H2_ := (Option.bind_some _ _).symm.trans H; with_reducible exact H2_) | with_reducible exact H | (rw [hy901]; exact H) | exact H
      have Ny901 := Q.a hy901
      clear hy901
      replace H := Option.bind_eq_some_iff.mp H
      obtain ⟨t904, A80, H⟩ := H
      try dsimp only at H
      have A8 := Q.a A80
      clear A80
      by_cases c9 : t904 = true
      · subst c9
        rw [if_pos rfl] at H
        have H' := Q.a H
        clear H
        go_wp2_with (first | ((with_reducible refine gate_dst (N := 23) rfl ?_); (try (refine gate_guard (by rfl) ?_; dsimp only)); refine Kd.R_lit Kd.string _ 9 ?hg (N := 23) ?hd (xs := ([a0] : List ByteArray)) (inner := [.string a0]) (ok := fun _ => True) (okp := fun _ => True) ?hr ?hp (fun _ hk => hk) trivial (Below.refl _ _) (Nat.le_refl _) (by simp) ?_; (case hd => rfl); (case hg => rfl); (case hr => first | (go_simp; done) | (go_simp; rfl)); (case hp => exact (Reps.one (show Kd.M Kd.string _ _ _ a0 [.string a0] from rfl) (Reps.none _ _))); intro v902 w10 ho11 hb hg_ hnew_; clear hg_ hnew_; (first | rw [← Ny901.out] at ho11 | (simp only [Int.reduceToNat] at ho11; rw [← Ny901.out] at ho11)); replace HO903 := Q.a (Kd.R_lower ho11 (below_size (Q.bw HB))); replace HB := Q.a (below_step (Q.bw HB) hb); clear hb ho11; obtain ⟨Ao12, co12, eo12⟩ := Kd.R_slice HO903.out; subst eo12) | ((with_reducible refine gate_callee (f := 21) rfl ?_); refine Q.gl 24 Tryd.func21 #[.slice Ao12 y901.length co12] rfl rfl rfl rfl ?_; (with_reducible refine (voussoirlaw01_wide.calls k _ _ y901 true _ ?side1 ?side2 A8.out).mono ?_); (case side1 => repeat (first | exact (Kd.R_reads' HO903.out).2.2 | (with_reducible refine Kd.C_alloc ?_ _) | (with_reducible refine Kd.C_drewN ?_ _) | (with_reducible refine Kd.C_drew ?_))); (case side2 => exact (Kd.R_reads' HO903.out).2.1); rintro e w' ⟨rfl, ⟨nd, rfl⟩⟩; refine ⟨_, rfl, ?_⟩))
        go_meet
        case rel => exact ⟨_, (true), Q.rs, H', ⟨by first | omega | exact Nat.le_refl _⟩, ⟨Q.bw HB⟩⟩
      · replace c9 := Bool.eq_false_iff.mpr c9
        subst c9
        rw [if_neg (show ¬ (false = true) by decide)] at H
        have H' := Q.a H
        clear H
        go_wp2_with (first | ((with_reducible refine gate_dst (N := 23) rfl ?_); (try (refine gate_guard (by rfl) ?_; dsimp only)); refine Kd.R_lit Kd.string _ 9 ?hg (N := 23) ?hd (xs := ([a0] : List ByteArray)) (inner := [.string a0]) (ok := fun _ => True) (okp := fun _ => True) ?hr ?hp (fun _ hk => hk) trivial (Below.refl _ _) (Nat.le_refl _) (by simp) ?_; (case hd => rfl); (case hg => rfl); (case hr => first | (go_simp; done) | (go_simp; rfl)); (case hp => exact (Reps.one (show Kd.M Kd.string _ _ _ a0 [.string a0] from rfl) (Reps.none _ _))); intro v902 w13 ho14 hb hg_ hnew_; clear hg_ hnew_; (first | rw [← Ny901.out] at ho14 | (simp only [Int.reduceToNat] at ho14; rw [← Ny901.out] at ho14)); replace HO903 := Q.a (Kd.R_lower ho14 (below_size (Q.bw HB))); replace HB := Q.a (below_step (Q.bw HB) hb); clear hb ho14; obtain ⟨Ao15, co15, eo15⟩ := Kd.R_slice HO903.out; subst eo15) | ((with_reducible refine gate_callee (f := 21) rfl ?_); refine Q.gl 24 Tryd.func21 #[.slice Ao15 y901.length co15] rfl rfl rfl rfl ?_; (with_reducible refine (voussoirlaw01_wide.calls k _ _ y901 false _ ?side1 ?side2 A8.out).mono ?_); (case side1 => repeat (first | exact (Kd.R_reads' HO903.out).2.2 | (with_reducible refine Kd.C_alloc ?_ _) | (with_reducible refine Kd.C_drewN ?_ _) | (with_reducible refine Kd.C_drew ?_))); (case side2 => exact (Kd.R_reads' HO903.out).2.1); rintro e w' ⟨rfl, ⟨nd, rfl⟩⟩; refine ⟨_, rfl, ?_⟩))
        go_meet
        case rel => exact ⟨_, (decide ((a1.size : Int) > 90)), Q.rs, H', ⟨by first | omega | exact Nat.le_refl _⟩, ⟨Q.bw HB⟩⟩
    case rest =>
      clear HC6
      try clear c1
      try clear c2
      try clear p2
      try clear c5
      try clear c9
      obtain ⟨kq, x29_5, rfl, HA, HJ5, HB⟩ := hcut
      cases kq with
      | zero => exact absurd HA.out (by simp [voussoirlaw01_NatStrings.j0])
      | succ kj5 =>
        have H := HA.out
        clear HA
        simp only [voussoirlaw01_NatStrings.j0] at H
        by_cases c16 : x29_5 = true
        · subst c16
          rw [if_pos rfl] at H
          obtain rfl := Option.some.inj H
          go_wp2
          go_ret
          exact ⟨Q.en, Q.bw HB⟩
        · replace c16 := Bool.eq_false_iff.mpr c16
          subst c16
          rw [if_neg (show ¬ (false = true) by decide)] at H
          replace H := Option.bind_eq_some_iff.mp H
          obtain ⟨⟨t905, t906⟩, A170, H⟩ := H
          try dsimp only at H
          have A17 := Q.a A170
          clear A170
          replace H := Option.bind_eq_some_iff.mp H
          obtain ⟨⟨t907, t908⟩, A180, H⟩ := H
          try dsimp only at H
          have A18 := Q.a A180
          clear A180
          replace H := Option.bind_eq_some_iff.mp H
          obtain ⟨⟨t909, t910⟩, A190, H⟩ := H
          try dsimp only at H
          have A19 := Q.a A190
          clear A190
          replace H := Option.bind_eq_some_iff.mp H
          obtain ⟨⟨t911, t912⟩, A200, H⟩ := H
          try dsimp only at H
          have A20 := Q.a A200
          clear A200
          replace H := Option.bind_eq_some_iff.mp H
          obtain ⟨t913, A210, H⟩ := H
          try dsimp only at H
          have A21 := Q.a A210
          clear A210
          replace H := Option.bind_eq_some_iff.mp H
          obtain ⟨⟨t914, t915⟩, A220, H⟩ := H
          try dsimp only at H
          have A22 := Q.a A220
          clear A220
          replace H := Option.bind_eq_some_iff.mp H
          obtain ⟨t916, A230, H⟩ := H
          try dsimp only at H
          have A23 := Q.a A230
          clear A230
          replace H := Option.bind_eq_some_iff.mp H
          obtain ⟨⟨t917, t918⟩, A240, H⟩ := H
          try dsimp only at H
          have A24 := Q.a A240
          clear A240
          by_cases c25 : t905.toList = t907.toList
          · rw [if_pos c25] at H
            have c25b0 : (t905.toList == t907.toList) = true := beq_iff_eq.mpr c25
            have c25b1 : (t905.toList != t907.toList) = false := bne_eq_false_iff_eq.mpr c25
            clear c25
            by_cases c26 : (t906 == t908) = true
            · rw [if_pos c26] at H
              have c26b0 : (t906 == t908) = true := c26
              (try (have c26b1 : decide (t906 = t908) = true := by simpa using c26))
              (try (have c26b2 : (t906 == t908) = true := by simpa using c26))
              clear c26
              by_cases c27 : t909 = t911
              · rw [if_pos c27] at H
                have c27b0 : (t909 == t911) = true := beq_iff_eq.mpr c27
                have c27b1 : (t909 != t911) = false := bne_eq_false_iff_eq.mpr c27
                clear c27
                by_cases c28 : (t910 == t912) = true
                · rw [if_pos c28] at H
                  have c28b0 : (t910 == t912) = true := c28
                  (try (have c28b1 : decide (t910 = t912) = true := by simpa using c28))
                  (try (have c28b2 : (t910 == t912) = true := by simpa using c28))
                  clear c28
                  replace H := Option.bind_eq_some_iff.mp H
                  obtain ⟨t919, A290, H⟩ := H
                  try dsimp only at H
                  have A29 := Q.a A290
                  clear A290
                  by_cases c30 : t913.toList = t919.toList
                  · rw [if_pos c30] at H
                    have c30b0 : (t913.toList == t919.toList) = true := beq_iff_eq.mpr c30
                    have c30b1 : (t913.toList != t919.toList) = false := bne_eq_false_iff_eq.mpr c30
                    clear c30
                    by_cases c31 : t915 = true
                    · subst c31
                      rw [if_pos rfl] at H
                      replace H := Option.bind_eq_some_iff.mp H
                      obtain ⟨t920, A320, H⟩ := H
                      try dsimp only at H
                      have A32 := Q.a A320
                      clear A320
                      by_cases c33 : t914.toList = t920.toList
                      · rw [if_pos c33] at H
                        have c33b0 : (t914.toList == t920.toList) = true := beq_iff_eq.mpr c33
                        have c33b1 : (t914.toList != t920.toList) = false := bne_eq_false_iff_eq.mpr c33
                        clear c33
                        replace H := Option.bind_eq_some_iff.mp H
                        obtain ⟨t921, A340, H⟩ := H
                        try dsimp only at H
                        have A34 := Q.a A340
                        clear A340
                        obtain rfl := Option.some.inj (A23.out.symm.trans A34.out)
                        replace H := Option.bind_eq_some_iff.mp H
                        obtain ⟨t922, A350, H⟩ := H
                        try dsimp only at H
                        have A35 := Q.a A350
                        clear A350
                        by_cases c36 : t916.toList = t922.toList
                        · rw [if_pos c36] at H
                          have c36b0 : (t916.toList == t922.toList) = true := beq_iff_eq.mpr c36
                          have c36b1 : (t916.toList != t922.toList) = false := bne_eq_false_iff_eq.mpr c36
                          clear c36
                          by_cases c37 : t917 = a2
                          · rw [if_pos c37] at H
                            have c37b0 : (t917 == a2) = true := beq_iff_eq.mpr c37
                            have c37b1 : (t917 != a2) = false := bne_eq_false_iff_eq.mpr c37
                            clear c37
                            by_cases c38 : t918 = true
                            · subst c38
                              rw [if_pos rfl] at H
                              by_cases c39 : t906 = true
                              · subst c39
                                rw [if_pos rfl] at H
                                replace H := Option.bind_eq_some_iff.mp H
                                obtain ⟨t923, A400, H⟩ := H
                                try dsimp only at H
                                have A40 := Q.a A400
                                clear A400
                                obtain rfl := Option.some.inj H
                                go_wp2_with (first | ((with_reducible refine gate_callee (f := 56) rfl ?_); refine Q.gl 32 Tryd.func56 #[.string a1] rfl rfl rfl rfl ?_; (with_reducible refine (nat_Parse.calls kj5 a1 t905 true _ A17.out).mono ?_); rintro e w41 ⟨rfl, hb⟩; refine ⟨_, rfl, ?_⟩; replace HB := Q.a (below_step (Q.bw HB) hb); (try clear hb)) | ((with_reducible refine gate_callee (f := 57) rfl ?_); refine Q.gl 37 Tryd.func57 #[.string a1] rfl rfl rfl rfl ?_; (with_reducible refine (voussoirref01_Parse.calls kj5 a1 t907 t908 _ A18.out).mono ?_); rintro e w42 ⟨rfl, hb⟩; refine ⟨_, rfl, ?_⟩; replace HB := Q.a (below_step (Q.bw HB) hb); (try clear hb)) | ((with_reducible refine gate_callee (f := 58) rfl ?_); refine Q.gl 42 Tryd.func58 #[.string a0] rfl rfl rfl rfl ?_; (with_reducible refine (nat_Uint64.calls kj5 a0 t909 t910 _ A19.out).mono ?_); rintro e w43 ⟨rfl, hb⟩; refine ⟨_, rfl, ?_⟩; replace HB := Q.a (below_step (Q.bw HB) hb); (try clear hb)) | ((with_reducible refine gate_callee (f := 59) rfl ?_); refine Q.gl 47 Tryd.func59 #[.string a0] rfl rfl rfl rfl ?_; (with_reducible refine (voussoirref01_Num.calls kj5 a0 t911 t912 _ A20.out).mono ?_); rintro e w' ⟨rfl, ⟨nd, rfl⟩⟩; refine ⟨_, rfl, ?_⟩) | ((with_reducible refine gate_callee (f := 35) rfl ?_); refine Q.gl 51 Tryd.func35 #[.string a0] rfl rfl rfl rfl ?_; (with_reducible refine (nat_Format.calls kj5 a0 t913 _ ?side1 A21.out).mono ?_); (case side1 => exact X.G.below HG.out (Q.bw HB)); rintro e w44 ⟨rfl, hb⟩; refine ⟨_, rfl, ?_⟩; replace HB := Q.a (below_step (Q.bw HB) hb); (try clear hb)) | ((with_reducible refine gate_callee (f := 56) rfl ?_); refine Q.gl 54 Tryd.func56 #[.string t913] rfl rfl rfl rfl ?_; (with_reducible refine (nat_Parse.calls kj5 t913 t914 true _ A22.out).mono ?_); rintro e w45 ⟨rfl, hb⟩; refine ⟨_, rfl, ?_⟩; replace HB := Q.a (below_step (Q.bw HB) hb); (try clear hb)) | ((with_reducible refine gate_callee (f := 60) rfl ?_); refine Q.gl 59 Tryd.func60 #[.int .u64 a2] rfl rfl rfl rfl ?_; (with_reducible refine (nat_FromUint64.calls kj5 a2 t916 _ A23.out).mono ?_); rintro e w46 ⟨rfl, hb⟩; refine ⟨_, rfl, ?_⟩; replace HB := Q.a (below_step (Q.bw HB) hb); (try clear hb)) | ((with_reducible refine gate_callee (f := 58) rfl ?_); refine Q.gl 60 Tryd.func58 #[.string t916] rfl rfl rfl rfl ?_; (with_reducible refine (nat_Uint64.calls kj5 t916 t917 true _ A24.out).mono ?_); rintro e w47 ⟨rfl, hb⟩; refine ⟨_, rfl, ?_⟩; replace HB := Q.a (below_step (Q.bw HB) hb); (try clear hb)) | (go_at_call 61; (with_reducible refine (voussoirref01_Text.calls kj5 a0 t919 _ A29.out).mono ?_); rintro e w48 ⟨rfl, hb⟩; replace HB := Q.a (below_step (Q.bw HB) hb); (try clear hb)) | (go_at_call 26; (with_reducible refine (nat_Normalize.calls kj5 a0 t920 _ A32.out).mono ?_); rintro e w49 ⟨rfl, hb⟩; replace HB := Q.a (below_step (Q.bw HB) hb); (try clear hb)) | (go_at_call 60; (with_reducible refine (nat_FromUint64.calls kj5 a2 t916 _ A34.out).mono ?_); rintro e w50 ⟨rfl, hb⟩; replace HB := Q.a (below_step (Q.bw HB) hb); (try clear hb)) | (go_at_call 62; (with_reducible refine (voussoirref01_Of.calls kj5 a2 t922 _ A35.out).mono ?_); rintro e w51 ⟨rfl, hb⟩; replace HB := Q.a (below_step (Q.bw HB) hb); (try clear hb)) | (go_at_call 35; (with_reducible refine (nat_Format.calls kj5 t905 t923 _ ?side1 A40.out).mono ?_); (case side1 => exact X.G.below HG.out (Q.bw HB)); rintro e w52 ⟨rfl, hb⟩; replace HB := Q.a (below_step (Q.bw HB) hb); (try clear hb)))
                                go_ret
                                exact ⟨Q.en, Q.bw HB⟩
                              · replace c39 := Bool.eq_false_iff.mpr c39
                                subst c39
                                rw [if_neg (show ¬ (false = true) by decide)] at H
                                obtain rfl := Option.some.inj H
                                go_wp2_with (first | ((with_reducible refine gate_callee (f := 56) rfl ?_); refine Q.gl 32 Tryd.func56 #[.string a1] rfl rfl rfl rfl ?_; (with_reducible refine (nat_Parse.calls kj5 a1 t905 false _ A17.out).mono ?_); rintro e w53 ⟨rfl, hb⟩; refine ⟨_, rfl, ?_⟩; replace HB := Q.a (below_step (Q.bw HB) hb); (try clear hb)) | ((with_reducible refine gate_callee (f := 57) rfl ?_); refine Q.gl 37 Tryd.func57 #[.string a1] rfl rfl rfl rfl ?_; (with_reducible refine (voussoirref01_Parse.calls kj5 a1 t907 t908 _ A18.out).mono ?_); rintro e w54 ⟨rfl, hb⟩; refine ⟨_, rfl, ?_⟩; replace HB := Q.a (below_step (Q.bw HB) hb); (try clear hb)) | ((with_reducible refine gate_callee (f := 58) rfl ?_); refine Q.gl 42 Tryd.func58 #[.string a0] rfl rfl rfl rfl ?_; (with_reducible refine (nat_Uint64.calls kj5 a0 t909 t910 _ A19.out).mono ?_); rintro e w55 ⟨rfl, hb⟩; refine ⟨_, rfl, ?_⟩; replace HB := Q.a (below_step (Q.bw HB) hb); (try clear hb)) | ((with_reducible refine gate_callee (f := 59) rfl ?_); refine Q.gl 47 Tryd.func59 #[.string a0] rfl rfl rfl rfl ?_; (with_reducible refine (voussoirref01_Num.calls kj5 a0 t911 t912 _ A20.out).mono ?_); rintro e w' ⟨rfl, ⟨nd, rfl⟩⟩; refine ⟨_, rfl, ?_⟩) | ((with_reducible refine gate_callee (f := 35) rfl ?_); refine Q.gl 51 Tryd.func35 #[.string a0] rfl rfl rfl rfl ?_; (with_reducible refine (nat_Format.calls kj5 a0 t913 _ ?side1 A21.out).mono ?_); (case side1 => exact X.G.below HG.out (Q.bw HB)); rintro e w56 ⟨rfl, hb⟩; refine ⟨_, rfl, ?_⟩; replace HB := Q.a (below_step (Q.bw HB) hb); (try clear hb)) | ((with_reducible refine gate_callee (f := 56) rfl ?_); refine Q.gl 54 Tryd.func56 #[.string t913] rfl rfl rfl rfl ?_; (with_reducible refine (nat_Parse.calls kj5 t913 t914 true _ A22.out).mono ?_); rintro e w57 ⟨rfl, hb⟩; refine ⟨_, rfl, ?_⟩; replace HB := Q.a (below_step (Q.bw HB) hb); (try clear hb)) | ((with_reducible refine gate_callee (f := 60) rfl ?_); refine Q.gl 59 Tryd.func60 #[.int .u64 a2] rfl rfl rfl rfl ?_; (with_reducible refine (nat_FromUint64.calls kj5 a2 t916 _ A23.out).mono ?_); rintro e w58 ⟨rfl, hb⟩; refine ⟨_, rfl, ?_⟩; replace HB := Q.a (below_step (Q.bw HB) hb); (try clear hb)) | ((with_reducible refine gate_callee (f := 58) rfl ?_); refine Q.gl 60 Tryd.func58 #[.string t916] rfl rfl rfl rfl ?_; (with_reducible refine (nat_Uint64.calls kj5 t916 t917 true _ A24.out).mono ?_); rintro e w59 ⟨rfl, hb⟩; refine ⟨_, rfl, ?_⟩; replace HB := Q.a (below_step (Q.bw HB) hb); (try clear hb)) | (go_at_call 61; (with_reducible refine (voussoirref01_Text.calls kj5 a0 t919 _ A29.out).mono ?_); rintro e w60 ⟨rfl, hb⟩; replace HB := Q.a (below_step (Q.bw HB) hb); (try clear hb)) | (go_at_call 26; (with_reducible refine (nat_Normalize.calls kj5 a0 t920 _ A32.out).mono ?_); rintro e w61 ⟨rfl, hb⟩; replace HB := Q.a (below_step (Q.bw HB) hb); (try clear hb)) | (go_at_call 60; (with_reducible refine (nat_FromUint64.calls kj5 a2 t916 _ A34.out).mono ?_); rintro e w62 ⟨rfl, hb⟩; replace HB := Q.a (below_step (Q.bw HB) hb); (try clear hb)) | (go_at_call 62; (with_reducible refine (voussoirref01_Of.calls kj5 a2 t922 _ A35.out).mono ?_); rintro e w63 ⟨rfl, hb⟩; replace HB := Q.a (below_step (Q.bw HB) hb); (try clear hb)))
                                go_ret
                                exact ⟨Q.en, Q.bw HB⟩
                            · replace c38 := Bool.eq_false_iff.mpr c38
                              subst c38
                              rw [if_neg (show ¬ (false = true) by decide)] at H
                              obtain rfl := Option.some.inj H
                              exact absurd HR.out (by decide)
                          · rw [if_neg c37] at H
                            have c37b0 : (t917 == a2) = false := beq_eq_false_iff_ne.mpr c37
                            have c37b1 : (t917 != a2) = true := bne_iff_ne.mpr c37
                            obtain rfl := Option.some.inj H
                            exact absurd HR.out (by decide)
                        · rw [if_neg c36] at H
                          have c36b0 : (t916.toList == t922.toList) = false := beq_eq_false_iff_ne.mpr c36
                          have c36b1 : (t916.toList != t922.toList) = true := bne_iff_ne.mpr c36
                          obtain rfl := Option.some.inj H
                          exact absurd HR.out (by decide)
                      · rw [if_neg c33] at H
                        have c33b0 : (t914.toList == t920.toList) = false := beq_eq_false_iff_ne.mpr c33
                        have c33b1 : (t914.toList != t920.toList) = true := bne_iff_ne.mpr c33
                        obtain rfl := Option.some.inj H
                        exact absurd HR.out (by decide)
                    · replace c31 := Bool.eq_false_iff.mpr c31
                      subst c31
                      rw [if_neg (show ¬ (false = true) by decide)] at H
                      obtain rfl := Option.some.inj H
                      exact absurd HR.out (by decide)
                  · rw [if_neg c30] at H
                    have c30b0 : (t913.toList == t919.toList) = false := beq_eq_false_iff_ne.mpr c30
                    have c30b1 : (t913.toList != t919.toList) = true := bne_iff_ne.mpr c30
                    obtain rfl := Option.some.inj H
                    exact absurd HR.out (by decide)
                · rw [if_neg c28] at H
                  have c28b0 : (t910 == t912) = false := by simpa using c28
                  (try (have c28b1 : decide (t910 = t912) = false := by simpa using c28))
                  (try (have c28b2 : (t910 == t912) = false := by simpa using c28))
                  (try (have c28b3 : ¬ (t910 = t912) := by simpa using c28))
                  clear c28
                  obtain rfl := Option.some.inj H
                  exact absurd HR.out (by decide)
              · rw [if_neg c27] at H
                have c27b0 : (t909 == t911) = false := beq_eq_false_iff_ne.mpr c27
                have c27b1 : (t909 != t911) = true := bne_iff_ne.mpr c27
                obtain rfl := Option.some.inj H
                exact absurd HR.out (by decide)
            · rw [if_neg c26] at H
              have c26b0 : (t906 == t908) = false := by simpa using c26
              (try (have c26b1 : decide (t906 = t908) = false := by simpa using c26))
              (try (have c26b2 : (t906 == t908) = false := by simpa using c26))
              (try (have c26b3 : ¬ (t906 = t908) := by simpa using c26))
              clear c26
              obtain rfl := Option.some.inj H
              exact absurd HR.out (by decide)
          · rw [if_neg c25] at H
            have c25b0 : (t905.toList == t907.toList) = false := beq_eq_false_iff_ne.mpr c25
            have c25b1 : (t905.toList != t907.toList) = true := bne_iff_ne.mpr c25
            obtain rfl := Option.some.inj H
            exact absurd HR.out (by decide)
  · replace c5 := Bool.eq_false_iff.mpr c5
    subst c5
    rw [if_neg (show ¬ (false = true) by decide)] at H
    obtain rfl := Option.some.inj H
    exact absurd HR.out (by decide)
/-- THE ONE PURE STATEMENT of voussoirlaw01_NatStrings: yours. -/
def voussoirlaw01_NatStrings.Pure : Prop := ∀ (a0 : ByteArray) (a1 : ByteArray) (a2 : Int), a0.size ≤ 140737488351232 → a1.size ≤ 140737488351232 → (Lit.int .u64 a2).wf = true → ∃ k, voussoirlaw01_NatStrings.f k a0 a1 a2 = some true
theorem voussoirlaw01_NatStrings.walk (P : voussoirlaw01_NatStrings.Pure) (a0 : ByteArray) (a1 : ByteArray) (a2 : Int) (w : World) (w0 : a0.size ≤ 140737488351232) (w1 : a1.size ≤ 140737488351232) (w2 : (Lit.int .u64 a2).wf = true) (hG : X.G w) :
    Calls Tryd.prog 16 #[.string a0, .string a1, .int .u64 a2] w fun e w' => e = .returned (.bool true) ∧ Below w.heap.size w w' := by
  obtain ⟨k, h⟩ := P a0 a1 a2 w0 w1 w2
  refine (voussoirlaw01_NatStrings.calls k a0 a1 a2 true rfl w hG h).mono ?_
  rintro e w' ⟨rfl, hd⟩
  exact ⟨rfl, hd⟩

end Go.Proofs.YtpokflilobkoaaaDoor.P
