-- Written by mp.py (a program of this session's, over the kit's printer). Not trusted: Lean checks it.
import Derived.Test.YtpokflilobkoaaaDoorPx0
import Derived.Test.YtpokflilobkoaaaDoorPx2
import Derived.Test.YtpokflilobkoaaaDoorPx7
import Derived.Test.YtpokflilobkoaaaDoorPx10
import Derived.Test.YtpokflilobkoaaaDoorPx11
import Derived.Test.YtpokflilobkoaaaDoorXQ
namespace Go.Proofs.YtpokflilobkoaaaDoor.P
open Go.RowKit Go.Proofs.YtpokflilobkoaaaDoorW.PrintWords Go.Proofs.YtpokflilobkoaaaDoorW.PrintLast Go.Proofs.YtpokflilobkoaaaDoorW.PrintMore
attribute [local go_sem] max2_int min2_int max_two min_two max_three min_three max_four min_four   -- for this text's walks alone
attribute [local go_sem] XW.cell_twice   -- for this text's walks alone
set_option linter.unusedVariables false
set_option linter.unusedSimpArgs false

/-! ### voussoirlaw01_NatRing: function 8 -/
def voussoirlaw01_NatRing.f (k : Nat) (a0 : ByteArray) (a1 : ByteArray) (a2 : ByteArray) : Option (Bool) := (voussoirlaw01_natAlive.f k).bind fun t969 => (if t969 = true then ((voussoirlaw01_wide.f k (([a0, a1, a2] : List ByteArray))).bind fun t973 => (if t973 = true then (some true) else ((nat_Add.f k a0 a1).bind fun t974 => ((nat_Sub.f k t974 a1).bind fun bt975 => ((nat_Add.f k a0 a1).bind fun t977 => ((nat_Add.f k a1 a0).bind fun t978 => (if t977.toList = t978.toList then ((nat_Mul.f k a0 a1).bind fun t979 => ((nat_Mul.f k a1 a0).bind fun t980 => (if t979.toList = t980.toList then ((nat_Add.f k a0 a1).bind fun t981 => ((nat_Add.f k t981 a2).bind fun t982 => ((nat_Add.f k a1 a2).bind fun t983 => ((nat_Add.f k a0 t983).bind fun t984 => (if t982.toList = t984.toList then ((nat_Mul.f k a0 a1).bind fun t985 => ((nat_Mul.f k t985 a2).bind fun t986 => ((nat_Mul.f k a1 a2).bind fun t987 => ((nat_Mul.f k a0 t987).bind fun t988 => (if t986.toList = t988.toList then ((nat_Add.f k a1 a2).bind fun t989 => ((nat_Mul.f k a0 t989).bind fun t990 => ((nat_Mul.f k a0 a1).bind fun t991 => ((nat_Mul.f k a0 a2).bind fun t992 => ((nat_Add.f k t991 t992).bind fun t993 => (if t990.toList = t993.toList then (if bt975.2 = true then ((nat_Normalize.f k a0).bind fun t994 => (if bt975.1.toList = t994.toList then ((nat_Mul.f k a0 (⟨#[1]⟩ : ByteArray)).bind fun t995 => ((nat_Normalize.f k a0).bind fun t996 => (if t995.toList = t996.toList then ((nat_Mul.f k a0 (⟨#[]⟩ : ByteArray)).bind fun t997 => (some (t997.toList == ([] : List UInt8)))) else (some false)))) else (some false))) else (some false)) else (some false))))))) else (some false)))))) else (some false)))))) else (some false)))) else (some false)))))))) else (some false))
theorem voussoirlaw01_NatRing.mono : ∀ a0 a1 a2 k, LeO (voussoirlaw01_NatRing.f k a0 a1 a2) (voussoirlaw01_NatRing.f (k + 1) a0 a1 a2) := by
  intro a0 a1 a2 k
  unfold voussoirlaw01_NatRing.f
  repeat' first
      | (with_reducible exact nat_Add.mono _ _ _)
      | (with_reducible exact nat_Mul.mono _ _ _)
      | (with_reducible exact nat_Normalize.mono _ _)
      | (with_reducible exact nat_Sub.mono _ _ _)
      | (with_reducible exact voussoirlaw01_natAlive.mono _)
      | (with_reducible exact voussoirlaw01_wide.mono _ _)
      | (with_reducible exact LeO.refl _)
      | (with_reducible exact LeO.none _)
      | (with_reducible refine LeO.ite ?_ ?_)
      | (with_reducible refine LeO.bind ?_ (fun _ => ?_))
      | exact nat_Add.mono _ _ _
      | exact nat_Mul.mono _ _ _
      | exact nat_Normalize.mono _ _
      | exact nat_Sub.mono _ _ _
      | exact voussoirlaw01_natAlive.mono _
      | exact voussoirlaw01_wide.mono _ _
      | exact LeO.none _
      | refine LeO.ite ?_ ?_
      | refine LeO.bind ?_ (fun _ => ?_)
set_option maxHeartbeats 8000000 in
set_option maxRecDepth 100000 in
theorem voussoirlaw01_NatRing.calls (k : Nat) (a0 : ByteArray) (a1 : ByteArray) (a2 : ByteArray) (r : Bool) (hr : r = true) (w : World) (hG : X.G w) (h : voussoirlaw01_NatRing.f k a0 a1 a2 = some r) :
    Calls Tryd.prog 8 #[.string a0, .string a1, .string a2] w fun e w' => e = .returned (.bool r) ∧ Below w.heap.size w w' := by
  have HR := Q.a hr
  clear hr
  have HG := Q.a hG
  clear hG
  have HB := Q.a (Below.refl w.heap.size w)
  have H : ((voussoirlaw01_natAlive.f k).bind fun t969 => (if t969 = true then ((voussoirlaw01_wide.f k (([a0, a1, a2] : List ByteArray))).bind fun t973 => (if t973 = true then (some true) else ((nat_Add.f k a0 a1).bind fun t974 => ((nat_Sub.f k t974 a1).bind fun bt975 => ((nat_Add.f k a0 a1).bind fun t977 => ((nat_Add.f k a1 a0).bind fun t978 => (if t977.toList = t978.toList then ((nat_Mul.f k a0 a1).bind fun t979 => ((nat_Mul.f k a1 a0).bind fun t980 => (if t979.toList = t980.toList then ((nat_Add.f k a0 a1).bind fun t981 => ((nat_Add.f k t981 a2).bind fun t982 => ((nat_Add.f k a1 a2).bind fun t983 => ((nat_Add.f k a0 t983).bind fun t984 => (if t982.toList = t984.toList then ((nat_Mul.f k a0 a1).bind fun t985 => ((nat_Mul.f k t985 a2).bind fun t986 => ((nat_Mul.f k a1 a2).bind fun t987 => ((nat_Mul.f k a0 t987).bind fun t988 => (if t986.toList = t988.toList then ((nat_Add.f k a1 a2).bind fun t989 => ((nat_Mul.f k a0 t989).bind fun t990 => ((nat_Mul.f k a0 a1).bind fun t991 => ((nat_Mul.f k a0 a2).bind fun t992 => ((nat_Add.f k t991 t992).bind fun t993 => (if t990.toList = t993.toList then (if bt975.2 = true then ((nat_Normalize.f k a0).bind fun t994 => (if bt975.1.toList = t994.toList then ((nat_Mul.f k a0 (⟨#[1]⟩ : ByteArray)).bind fun t995 => ((nat_Normalize.f k a0).bind fun t996 => (if t995.toList = t996.toList then ((nat_Mul.f k a0 (⟨#[]⟩ : ByteArray)).bind fun t997 => (some (t997.toList == ([] : List UInt8)))) else (some false)))) else (some false))) else (some false)) else (some false))))))) else (some false)))))) else (some false)))))) else (some false)))) else (some false)))))))) else (some false))) = some r := h
  clear h
  replace H := Option.bind_eq_some_iff.mp H
  obtain ⟨t969, A40, H⟩ := H
  try dsimp only at H
  have A4 := Q.a A40
  clear A40
  by_cases c5 : t969 = true
  · subst c5
    rw [if_pos rfl] at H
    obtain ⟨y970, hy970⟩ : ∃ y_ : List ByteArray, y_ = (([a0, a1, a2] : List ByteArray)) := ⟨_, rfl⟩
    replace H : ((voussoirlaw01_wide.f k y970).bind fun t973 => (if t973 = true then (some true) else ((nat_Add.f k a0 a1).bind fun t974 => ((nat_Sub.f k t974 a1).bind fun bt975 => ((nat_Add.f k a0 a1).bind fun t977 => ((nat_Add.f k a1 a0).bind fun t978 => (if t977.toList = t978.toList then ((nat_Mul.f k a0 a1).bind fun t979 => ((nat_Mul.f k a1 a0).bind fun t980 => (if t979.toList = t980.toList then ((nat_Add.f k a0 a1).bind fun t981 => ((nat_Add.f k t981 a2).bind fun t982 => ((nat_Add.f k a1 a2).bind fun t983 => ((nat_Add.f k a0 t983).bind fun t984 => (if t982.toList = t984.toList then ((nat_Mul.f k a0 a1).bind fun t985 => ((nat_Mul.f k t985 a2).bind fun t986 => ((nat_Mul.f k a1 a2).bind fun t987 => ((nat_Mul.f k a0 t987).bind fun t988 => (if t986.toList = t988.toList then ((nat_Add.f k a1 a2).bind fun t989 => ((nat_Mul.f k a0 t989).bind fun t990 => ((nat_Mul.f k a0 a1).bind fun t991 => ((nat_Mul.f k a0 a2).bind fun t992 => ((nat_Add.f k t991 t992).bind fun t993 => (if t990.toList = t993.toList then (if bt975.2 = true then ((nat_Normalize.f k a0).bind fun t994 => (if bt975.1.toList = t994.toList then ((nat_Mul.f k a0 (⟨#[1]⟩ : ByteArray)).bind fun t995 => ((nat_Normalize.f k a0).bind fun t996 => (if t995.toList = t996.toList then ((nat_Mul.f k a0 (⟨#[]⟩ : ByteArray)).bind fun t997 => (some (t997.toList == ([] : List UInt8)))) else (some false)))) else (some false))) else (some false)) else (some false))))))) else (some false)))))) else (some false)))))) else (some false)))) else (some false)))))))) = some r := by first | (rw [hy970]; with_reducible exact H) | (have H2_ := (Option.bind_some _ _).symm.trans H; rw [hy970]; with_reducible exact H2_) | (have H2_ := (Option.bind_some _ _).symm.trans H; with_reducible exact H2_) | with_reducible exact H | (rw [hy970]; exact H) | exact H
    have Ny970 := Q.a hy970
    clear hy970
    replace H := Option.bind_eq_some_iff.mp H
    obtain ⟨t973, A60, H⟩ := H
    try dsimp only at H
    have A6 := Q.a A60
    clear A60
    by_cases c7 : t973 = true
    · subst c7
      rw [if_pos rfl] at H
      obtain rfl := Option.some.inj H
      go_enter Tryd.func8, Tryd.ntmps8
      go_wp2_with (first | ((with_reducible refine gate_callee (f := 18) rfl ?_); refine Q.gl 9 Tryd.func18 #[] rfl rfl rfl rfl ?_; (with_reducible refine (voussoirlaw01_natAlive.calls k  true rfl _ ?side1 A4.out).mono ?_); (case side1 => exact X.G.below HG.out (Q.bw HB)); rintro e w8 ⟨rfl, hb⟩; refine ⟨_, rfl, ?_⟩; replace HB := Q.a (below_step (Q.bw HB) hb); (try clear hb)) | ((with_reducible refine gate_dst (N := 14) rfl ?_); refine Kd.R_lit Kd.string _ 9 ?hg (N := 14) ?hd (xs := ([a0, a1, a2] : List ByteArray)) (inner := [.string a0, .string a1, .string a2]) (ok := fun _ => True) (okp := fun _ => True) ?hr ?hp (fun _ hk => hk) trivial (Below.refl _ _) (Nat.le_refl _) (by simp) ?_; (case hd => rfl); (case hg => rfl); (case hr => first | (go_simp; done) | (go_simp; rfl)); (case hp => exact (Reps.one (show Kd.M Kd.string _ _ _ a0 [.string a0] from rfl) (Reps.one (show Kd.M Kd.string _ _ _ a1 [.string a1] from rfl) (Reps.one (show Kd.M Kd.string _ _ _ a2 [.string a2] from rfl) (Reps.none _ _))))); intro v971 w9 ho10 hb hg_ hnew_; clear hg_ hnew_; (first | rw [← Ny970.out] at ho10 | (simp only [Int.reduceToNat] at ho10; rw [← Ny970.out] at ho10)); replace HO972 := Q.a (Kd.R_lower ho10 (below_size (Q.bw HB))); replace HB := Q.a (below_step (Q.bw HB) hb); clear hb ho10; obtain ⟨Ao11, co11, eo11⟩ := Kd.R_slice HO972.out; subst eo11) | ((with_reducible refine gate_callee (f := 21) rfl ?_); refine Q.gl 15 Tryd.func21 #[.slice Ao11 y970.length co11] rfl rfl rfl rfl ?_; (with_reducible refine (voussoirlaw01_wide.calls k _ _ y970 true _ ?side1 ?side2 A6.out).mono ?_); (case side1 => repeat (first | exact (Kd.R_reads' HO972.out).2.2 | (with_reducible refine Kd.C_alloc ?_ _) | (with_reducible refine Kd.C_drewN ?_ _) | (with_reducible refine Kd.C_drew ?_))); (case side2 => exact (Kd.R_reads' HO972.out).2.1); rintro e w' ⟨rfl, ⟨nd, rfl⟩⟩; refine ⟨_, rfl, ?_⟩))
      go_ret
      exact ⟨Q.en, Q.bw HB⟩
    · replace c7 := Bool.eq_false_iff.mpr c7
      subst c7
      rw [if_neg (show ¬ (false = true) by decide)] at H
      replace H := Option.bind_eq_some_iff.mp H
      obtain ⟨t974, A120, H⟩ := H
      try dsimp only at H
      have A12 := Q.a A120
      clear A120
      replace H := Option.bind_eq_some_iff.mp H
      obtain ⟨⟨t975, t976⟩, A130, H⟩ := H
      try dsimp only at H
      have A13 := Q.a A130
      clear A130
      replace H := Option.bind_eq_some_iff.mp H
      obtain ⟨t977, A140, H⟩ := H
      try dsimp only at H
      have A14 := Q.a A140
      clear A140
      obtain rfl := Option.some.inj (A12.out.symm.trans A14.out)
      replace H := Option.bind_eq_some_iff.mp H
      obtain ⟨t978, A150, H⟩ := H
      try dsimp only at H
      have A15 := Q.a A150
      clear A150
      by_cases c16 : t974.toList = t978.toList
      · rw [if_pos c16] at H
        have c16b0 : (t974.toList == t978.toList) = true := beq_iff_eq.mpr c16
        have c16b1 : (t974.toList != t978.toList) = false := bne_eq_false_iff_eq.mpr c16
        clear c16
        replace H := Option.bind_eq_some_iff.mp H
        obtain ⟨t979, A170, H⟩ := H
        try dsimp only at H
        have A17 := Q.a A170
        clear A170
        replace H := Option.bind_eq_some_iff.mp H
        obtain ⟨t980, A180, H⟩ := H
        try dsimp only at H
        have A18 := Q.a A180
        clear A180
        by_cases c19 : t979.toList = t980.toList
        · rw [if_pos c19] at H
          have c19b0 : (t979.toList == t980.toList) = true := beq_iff_eq.mpr c19
          have c19b1 : (t979.toList != t980.toList) = false := bne_eq_false_iff_eq.mpr c19
          clear c19
          replace H := Option.bind_eq_some_iff.mp H
          obtain ⟨t981, A200, H⟩ := H
          try dsimp only at H
          have A20 := Q.a A200
          clear A200
          obtain rfl := Option.some.inj (A12.out.symm.trans A20.out)
          replace H := Option.bind_eq_some_iff.mp H
          obtain ⟨t982, A210, H⟩ := H
          try dsimp only at H
          have A21 := Q.a A210
          clear A210
          replace H := Option.bind_eq_some_iff.mp H
          obtain ⟨t983, A220, H⟩ := H
          try dsimp only at H
          have A22 := Q.a A220
          clear A220
          replace H := Option.bind_eq_some_iff.mp H
          obtain ⟨t984, A230, H⟩ := H
          try dsimp only at H
          have A23 := Q.a A230
          clear A230
          by_cases c24 : t982.toList = t984.toList
          · rw [if_pos c24] at H
            have c24b0 : (t982.toList == t984.toList) = true := beq_iff_eq.mpr c24
            have c24b1 : (t982.toList != t984.toList) = false := bne_eq_false_iff_eq.mpr c24
            clear c24
            replace H := Option.bind_eq_some_iff.mp H
            obtain ⟨t985, A250, H⟩ := H
            try dsimp only at H
            have A25 := Q.a A250
            clear A250
            obtain rfl := Option.some.inj (A17.out.symm.trans A25.out)
            replace H := Option.bind_eq_some_iff.mp H
            obtain ⟨t986, A260, H⟩ := H
            try dsimp only at H
            have A26 := Q.a A260
            clear A260
            replace H := Option.bind_eq_some_iff.mp H
            obtain ⟨t987, A270, H⟩ := H
            try dsimp only at H
            have A27 := Q.a A270
            clear A270
            replace H := Option.bind_eq_some_iff.mp H
            obtain ⟨t988, A280, H⟩ := H
            try dsimp only at H
            have A28 := Q.a A280
            clear A280
            by_cases c29 : t986.toList = t988.toList
            · rw [if_pos c29] at H
              have c29b0 : (t986.toList == t988.toList) = true := beq_iff_eq.mpr c29
              have c29b1 : (t986.toList != t988.toList) = false := bne_eq_false_iff_eq.mpr c29
              clear c29
              replace H := Option.bind_eq_some_iff.mp H
              obtain ⟨t989, A300, H⟩ := H
              try dsimp only at H
              have A30 := Q.a A300
              clear A300
              obtain rfl := Option.some.inj (A22.out.symm.trans A30.out)
              replace H := Option.bind_eq_some_iff.mp H
              obtain ⟨t990, A310, H⟩ := H
              try dsimp only at H
              have A31 := Q.a A310
              clear A310
              replace H := Option.bind_eq_some_iff.mp H
              obtain ⟨t991, A320, H⟩ := H
              try dsimp only at H
              have A32 := Q.a A320
              clear A320
              obtain rfl := Option.some.inj (A17.out.symm.trans A32.out)
              replace H := Option.bind_eq_some_iff.mp H
              obtain ⟨t992, A330, H⟩ := H
              try dsimp only at H
              have A33 := Q.a A330
              clear A330
              replace H := Option.bind_eq_some_iff.mp H
              obtain ⟨t993, A340, H⟩ := H
              try dsimp only at H
              have A34 := Q.a A340
              clear A340
              by_cases c35 : t990.toList = t993.toList
              · rw [if_pos c35] at H
                have c35b0 : (t990.toList == t993.toList) = true := beq_iff_eq.mpr c35
                have c35b1 : (t990.toList != t993.toList) = false := bne_eq_false_iff_eq.mpr c35
                clear c35
                by_cases c36 : t976 = true
                · subst c36
                  rw [if_pos rfl] at H
                  replace H := Option.bind_eq_some_iff.mp H
                  obtain ⟨t994, A370, H⟩ := H
                  try dsimp only at H
                  have A37 := Q.a A370
                  clear A370
                  by_cases c38 : t975.toList = t994.toList
                  · rw [if_pos c38] at H
                    have c38b0 : (t975.toList == t994.toList) = true := beq_iff_eq.mpr c38
                    have c38b1 : (t975.toList != t994.toList) = false := bne_eq_false_iff_eq.mpr c38
                    clear c38
                    replace H := Option.bind_eq_some_iff.mp H
                    obtain ⟨t995, A390, H⟩ := H
                    try dsimp only at H
                    have A39 := Q.a A390
                    clear A390
                    replace H := Option.bind_eq_some_iff.mp H
                    obtain ⟨t996, A400, H⟩ := H
                    try dsimp only at H
                    have A40 := Q.a A400
                    clear A400
                    obtain rfl := Option.some.inj (A37.out.symm.trans A40.out)
                    by_cases c41 : t995.toList = t994.toList
                    · rw [if_pos c41] at H
                      have c41b0 : (t995.toList == t994.toList) = true := beq_iff_eq.mpr c41
                      have c41b1 : (t995.toList != t994.toList) = false := bne_eq_false_iff_eq.mpr c41
                      clear c41
                      replace H := Option.bind_eq_some_iff.mp H
                      obtain ⟨t997, A420, H⟩ := H
                      try dsimp only at H
                      have A42 := Q.a A420
                      clear A420
                      obtain rfl := Option.some.inj H
                      go_enter Tryd.func8, Tryd.ntmps8
                      go_wp2_with (first | ((with_reducible refine gate_callee (f := 18) rfl ?_); refine Q.gl 9 Tryd.func18 #[] rfl rfl rfl rfl ?_; (with_reducible refine (voussoirlaw01_natAlive.calls k  true rfl _ ?side1 A4.out).mono ?_); (case side1 => exact X.G.below HG.out (Q.bw HB)); rintro e w43 ⟨rfl, hb⟩; refine ⟨_, rfl, ?_⟩; replace HB := Q.a (below_step (Q.bw HB) hb); (try clear hb)) | ((with_reducible refine gate_dst (N := 14) rfl ?_); refine Kd.R_lit Kd.string _ 9 ?hg (N := 14) ?hd (xs := ([a0, a1, a2] : List ByteArray)) (inner := [.string a0, .string a1, .string a2]) (ok := fun _ => True) (okp := fun _ => True) ?hr ?hp (fun _ hk => hk) trivial (Below.refl _ _) (Nat.le_refl _) (by simp) ?_; (case hd => rfl); (case hg => rfl); (case hr => first | (go_simp; done) | (go_simp; rfl)); (case hp => exact (Reps.one (show Kd.M Kd.string _ _ _ a0 [.string a0] from rfl) (Reps.one (show Kd.M Kd.string _ _ _ a1 [.string a1] from rfl) (Reps.one (show Kd.M Kd.string _ _ _ a2 [.string a2] from rfl) (Reps.none _ _))))); intro v971 w44 ho45 hb hg_ hnew_; clear hg_ hnew_; (first | rw [← Ny970.out] at ho45 | (simp only [Int.reduceToNat] at ho45; rw [← Ny970.out] at ho45)); replace HO972 := Q.a (Kd.R_lower ho45 (below_size (Q.bw HB))); replace HB := Q.a (below_step (Q.bw HB) hb); clear hb ho45; obtain ⟨Ao46, co46, eo46⟩ := Kd.R_slice HO972.out; subst eo46) | ((with_reducible refine gate_callee (f := 21) rfl ?_); refine Q.gl 15 Tryd.func21 #[.slice Ao46 y970.length co46] rfl rfl rfl rfl ?_; (with_reducible refine (voussoirlaw01_wide.calls k _ _ y970 false _ ?side1 ?side2 A6.out).mono ?_); (case side1 => repeat (first | exact (Kd.R_reads' HO972.out).2.2 | (with_reducible refine Kd.C_alloc ?_ _) | (with_reducible refine Kd.C_drewN ?_ _) | (with_reducible refine Kd.C_drew ?_))); (case side2 => exact (Kd.R_reads' HO972.out).2.1); rintro e w' ⟨rfl, ⟨nd, rfl⟩⟩; refine ⟨_, rfl, ?_⟩) | ((with_reducible refine gate_callee (f := 27) rfl ?_); refine Q.gl 19 Tryd.func27 #[.string a0, .string a1] rfl rfl rfl rfl ?_; (with_reducible refine (nat_Add.calls k a0 a1 t974 _ A12.out).mono ?_); rintro e w47 ⟨rfl, hb⟩; refine ⟨_, rfl, ?_⟩; replace HO972 := Q.a (Kd.R_below (Q.kr HO972) hb); replace HB := Q.a (below_step (Q.bw HB) hb); (try clear hb)) | ((with_reducible refine gate_callee (f := 29) rfl ?_); refine Q.gl 21 Tryd.func29 #[.string t974, .string a1] rfl rfl rfl rfl ?_; (with_reducible refine (nat_Sub.calls k t974 a1 t975 true _ A13.out).mono ?_); rintro e w48 ⟨rfl, hb⟩; refine ⟨_, rfl, ?_⟩; replace HO972 := Q.a (Kd.R_below (Q.kr HO972) hb); replace HB := Q.a (below_step (Q.bw HB) hb); (try clear hb)) | ((with_reducible refine gate_callee (f := 27) rfl ?_); refine Q.gl 26 Tryd.func27 #[.string a0, .string a1] rfl rfl rfl rfl ?_; (with_reducible refine (nat_Add.calls k a0 a1 t974 _ A14.out).mono ?_); rintro e w49 ⟨rfl, hb⟩; refine ⟨_, rfl, ?_⟩; replace HO972 := Q.a (Kd.R_below (Q.kr HO972) hb); replace HB := Q.a (below_step (Q.bw HB) hb); (try clear hb)) | ((with_reducible refine gate_callee (f := 27) rfl ?_); refine Q.gl 29 Tryd.func27 #[.string a1, .string a0] rfl rfl rfl rfl ?_; (with_reducible refine (nat_Add.calls k a1 a0 t978 _ A15.out).mono ?_); rintro e w50 ⟨rfl, hb⟩; refine ⟨_, rfl, ?_⟩; replace HO972 := Q.a (Kd.R_below (Q.kr HO972) hb); replace HB := Q.a (below_step (Q.bw HB) hb); (try clear hb)) | (go_at_call 24; (with_reducible refine (nat_Mul.calls k a0 a1 t979 _ A17.out).mono ?_); rintro e w51 ⟨rfl, hb⟩; replace HO972 := Q.a (Kd.R_below (Q.kr HO972) hb); replace HB := Q.a (below_step (Q.bw HB) hb); (try clear hb)) | (go_at_call 24; (with_reducible refine (nat_Mul.calls k a1 a0 t980 _ A18.out).mono ?_); rintro e w52 ⟨rfl, hb⟩; replace HO972 := Q.a (Kd.R_below (Q.kr HO972) hb); replace HB := Q.a (below_step (Q.bw HB) hb); (try clear hb)) | (go_at_call 27; (with_reducible refine (nat_Add.calls k a0 a1 t974 _ A20.out).mono ?_); rintro e w53 ⟨rfl, hb⟩; replace HO972 := Q.a (Kd.R_below (Q.kr HO972) hb); replace HB := Q.a (below_step (Q.bw HB) hb); (try clear hb)) | (go_at_call 27; (with_reducible refine (nat_Add.calls k t974 a2 t982 _ A21.out).mono ?_); rintro e w54 ⟨rfl, hb⟩; replace HO972 := Q.a (Kd.R_below (Q.kr HO972) hb); replace HB := Q.a (below_step (Q.bw HB) hb); (try clear hb)) | (go_at_call 27; (with_reducible refine (nat_Add.calls k a1 a2 t983 _ A22.out).mono ?_); rintro e w55 ⟨rfl, hb⟩; replace HO972 := Q.a (Kd.R_below (Q.kr HO972) hb); replace HB := Q.a (below_step (Q.bw HB) hb); (try clear hb)) | (go_at_call 27; (with_reducible refine (nat_Add.calls k a0 t983 t984 _ A23.out).mono ?_); rintro e w56 ⟨rfl, hb⟩; replace HO972 := Q.a (Kd.R_below (Q.kr HO972) hb); replace HB := Q.a (below_step (Q.bw HB) hb); (try clear hb)) | (go_at_call 24; (with_reducible refine (nat_Mul.calls k a0 a1 t979 _ A25.out).mono ?_); rintro e w57 ⟨rfl, hb⟩; replace HO972 := Q.a (Kd.R_below (Q.kr HO972) hb); replace HB := Q.a (below_step (Q.bw HB) hb); (try clear hb)) | (go_at_call 24; (with_reducible refine (nat_Mul.calls k t979 a2 t986 _ A26.out).mono ?_); rintro e w58 ⟨rfl, hb⟩; replace HO972 := Q.a (Kd.R_below (Q.kr HO972) hb); replace HB := Q.a (below_step (Q.bw HB) hb); (try clear hb)) | (go_at_call 24; (with_reducible refine (nat_Mul.calls k a1 a2 t987 _ A27.out).mono ?_); rintro e w59 ⟨rfl, hb⟩; replace HO972 := Q.a (Kd.R_below (Q.kr HO972) hb); replace HB := Q.a (below_step (Q.bw HB) hb); (try clear hb)) | (go_at_call 24; (with_reducible refine (nat_Mul.calls k a0 t987 t988 _ A28.out).mono ?_); rintro e w60 ⟨rfl, hb⟩; replace HO972 := Q.a (Kd.R_below (Q.kr HO972) hb); replace HB := Q.a (below_step (Q.bw HB) hb); (try clear hb)) | (go_at_call 27; (with_reducible refine (nat_Add.calls k a1 a2 t983 _ A30.out).mono ?_); rintro e w61 ⟨rfl, hb⟩; replace HO972 := Q.a (Kd.R_below (Q.kr HO972) hb); replace HB := Q.a (below_step (Q.bw HB) hb); (try clear hb)) | (go_at_call 24; (with_reducible refine (nat_Mul.calls k a0 t983 t990 _ A31.out).mono ?_); rintro e w62 ⟨rfl, hb⟩; replace HO972 := Q.a (Kd.R_below (Q.kr HO972) hb); replace HB := Q.a (below_step (Q.bw HB) hb); (try clear hb)) | (go_at_call 24; (with_reducible refine (nat_Mul.calls k a0 a1 t979 _ A32.out).mono ?_); rintro e w63 ⟨rfl, hb⟩; replace HO972 := Q.a (Kd.R_below (Q.kr HO972) hb); replace HB := Q.a (below_step (Q.bw HB) hb); (try clear hb)) | (go_at_call 24; (with_reducible refine (nat_Mul.calls k a0 a2 t992 _ A33.out).mono ?_); rintro e w64 ⟨rfl, hb⟩; replace HO972 := Q.a (Kd.R_below (Q.kr HO972) hb); replace HB := Q.a (below_step (Q.bw HB) hb); (try clear hb)) | (go_at_call 27; (with_reducible refine (nat_Add.calls k t979 t992 t993 _ A34.out).mono ?_); rintro e w65 ⟨rfl, hb⟩; replace HO972 := Q.a (Kd.R_below (Q.kr HO972) hb); replace HB := Q.a (below_step (Q.bw HB) hb); (try clear hb)) | (go_at_call 26; (with_reducible refine (nat_Normalize.calls k a0 t994 _ A37.out).mono ?_); rintro e w66 ⟨rfl, hb⟩; replace HO972 := Q.a (Kd.R_below (Q.kr HO972) hb); replace HB := Q.a (below_step (Q.bw HB) hb); (try clear hb)) | (go_at_call 24; (with_reducible refine (nat_Mul.calls k a0 (⟨#[1]⟩ : ByteArray) t995 _ A39.out).mono ?_); rintro e w67 ⟨rfl, hb⟩; replace HO972 := Q.a (Kd.R_below (Q.kr HO972) hb); replace HB := Q.a (below_step (Q.bw HB) hb); (try clear hb)) | (go_at_call 26; (with_reducible refine (nat_Normalize.calls k a0 t994 _ A40.out).mono ?_); rintro e w68 ⟨rfl, hb⟩; replace HO972 := Q.a (Kd.R_below (Q.kr HO972) hb); replace HB := Q.a (below_step (Q.bw HB) hb); (try clear hb)) | (go_at_call 24; (with_reducible refine (nat_Mul.calls k a0 (⟨#[]⟩ : ByteArray) t997 _ A42.out).mono ?_); rintro e w69 ⟨rfl, hb⟩; replace HO972 := Q.a (Kd.R_below (Q.kr HO972) hb); replace HB := Q.a (below_step (Q.bw HB) hb); (try clear hb)) | (go_at_call 27; (with_reducible refine (nat_Add.calls k a1 a0 t978 _ A15.out).mono ?_); rintro e w50 ⟨rfl, hb⟩; replace HO972 := Q.a (Kd.R_below (Q.kr HO972) hb); replace HB := Q.a (below_step (Q.bw HB) hb); (try clear hb)))
                      go_ret
                      exact ⟨Q.en, Q.bw HB⟩
                    · rw [if_neg c41] at H
                      have c41b0 : (t995.toList == t994.toList) = false := beq_eq_false_iff_ne.mpr c41
                      have c41b1 : (t995.toList != t994.toList) = true := bne_iff_ne.mpr c41
                      obtain rfl := Option.some.inj H
                      exact absurd HR.out (by decide)
                  · rw [if_neg c38] at H
                    have c38b0 : (t975.toList == t994.toList) = false := beq_eq_false_iff_ne.mpr c38
                    have c38b1 : (t975.toList != t994.toList) = true := bne_iff_ne.mpr c38
                    obtain rfl := Option.some.inj H
                    exact absurd HR.out (by decide)
                · replace c36 := Bool.eq_false_iff.mpr c36
                  subst c36
                  rw [if_neg (show ¬ (false = true) by decide)] at H
                  obtain rfl := Option.some.inj H
                  exact absurd HR.out (by decide)
              · rw [if_neg c35] at H
                have c35b0 : (t990.toList == t993.toList) = false := beq_eq_false_iff_ne.mpr c35
                have c35b1 : (t990.toList != t993.toList) = true := bne_iff_ne.mpr c35
                obtain rfl := Option.some.inj H
                exact absurd HR.out (by decide)
            · rw [if_neg c29] at H
              have c29b0 : (t986.toList == t988.toList) = false := beq_eq_false_iff_ne.mpr c29
              have c29b1 : (t986.toList != t988.toList) = true := bne_iff_ne.mpr c29
              obtain rfl := Option.some.inj H
              exact absurd HR.out (by decide)
          · rw [if_neg c24] at H
            have c24b0 : (t982.toList == t984.toList) = false := beq_eq_false_iff_ne.mpr c24
            have c24b1 : (t982.toList != t984.toList) = true := bne_iff_ne.mpr c24
            obtain rfl := Option.some.inj H
            exact absurd HR.out (by decide)
        · rw [if_neg c19] at H
          have c19b0 : (t979.toList == t980.toList) = false := beq_eq_false_iff_ne.mpr c19
          have c19b1 : (t979.toList != t980.toList) = true := bne_iff_ne.mpr c19
          obtain rfl := Option.some.inj H
          exact absurd HR.out (by decide)
      · rw [if_neg c16] at H
        have c16b0 : (t974.toList == t978.toList) = false := beq_eq_false_iff_ne.mpr c16
        have c16b1 : (t974.toList != t978.toList) = true := bne_iff_ne.mpr c16
        obtain rfl := Option.some.inj H
        exact absurd HR.out (by decide)
  · replace c5 := Bool.eq_false_iff.mpr c5
    subst c5
    rw [if_neg (show ¬ (false = true) by decide)] at H
    obtain rfl := Option.some.inj H
    exact absurd HR.out (by decide)
/-- THE ONE PURE STATEMENT of voussoirlaw01_NatRing: yours. -/
def voussoirlaw01_NatRing.Pure : Prop := ∀ (a0 : ByteArray) (a1 : ByteArray) (a2 : ByteArray), a0.size ≤ 140737488351232 → a1.size ≤ 140737488351232 → a2.size ≤ 140737488351232 → ∃ k, voussoirlaw01_NatRing.f k a0 a1 a2 = some true
theorem voussoirlaw01_NatRing.walk (P : voussoirlaw01_NatRing.Pure) (a0 : ByteArray) (a1 : ByteArray) (a2 : ByteArray) (w : World) (w0 : a0.size ≤ 140737488351232) (w1 : a1.size ≤ 140737488351232) (w2 : a2.size ≤ 140737488351232) (hG : X.G w) :
    Calls Tryd.prog 8 #[.string a0, .string a1, .string a2] w fun e w' => e = .returned (.bool true) ∧ Below w.heap.size w w' := by
  obtain ⟨k, h⟩ := P a0 a1 a2 w0 w1 w2
  refine (voussoirlaw01_NatRing.calls k a0 a1 a2 true rfl w hG h).mono ?_
  rintro e w' ⟨rfl, hd⟩
  exact ⟨rfl, hd⟩

end Go.Proofs.YtpokflilobkoaaaDoor.P
