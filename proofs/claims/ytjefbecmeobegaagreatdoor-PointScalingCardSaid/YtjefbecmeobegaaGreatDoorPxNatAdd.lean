import Derived.Test.YtjefbecmeobegaaGreatDoorPx0
import Derived.Test.YtjefbecmeobegaaGreatDoorPxNA
import Derived.Test.YtjefbecmeobegaaGreatDoorPxNB
import Derived.Test.YtjefbecmeobegaaGreatDoorXQ
namespace Go.Proofs.YtjefbecmeobegaaGreatDoor.P
open Go.RowKit YtjefbecmeobegaaGreatDoorW.PrintWords YtjefbecmeobegaaGreatDoorW.PrintLast YtjefbecmeobegaaGreatDoorW.PrintMore
attribute [local go_sem] aBj aBk aB1 aB2 aAW aAX aBl aBm
attribute [local go_sem] XW.cell_twice
set_option linter.unusedVariables false
set_option linter.unusedSimpArgs false
mutual
def nat_Add.j0 : Nat → List Int → List Int → Option (ByteArray)
 | 0, _, _ => none
 | k + 1, x5, x6 => if 0 ≤ (wrap64 ((x5.length : Int) + 1)) then (if (wrap64 ((x5.length : Int) + 1) : Int).toNat ≤ 70368744177664 then (nat_Add.l0 k x5 x6 (List.replicate (wrap64 ((x5.length : Int) + 1) : Int).toNat 0) 0 (x5.length : Int) 0) else (none)) else (none)
def nat_Add.l0 : Nat → List Int → List Int → List Int → Int → Int → Int → Option (ByteArray)
 | 0, _, _, _, _, _, _ => none
 | k + 1, x5, x6, x7, x8, x27, x28 => if x28 < x27 then (if x28 < (x6.length : Int) then (if 0 ≤ x28 then (if x28 < (x5.length : Int) then ((bits_Add32.f (rd x5 x28) (rd x6 x28) x8).bind fun bt256 => (if x28 < (x7.length : Int) then (nat_Add.l0 k x5 x6 (x7.set (x28 : Int).toNat bt256.1) bt256.2 x27 (wrap64 (x28 + 1))) else (none))) else (none)) else (none)) else (if 0 ≤ x28 then (if x28 < (x5.length : Int) then ((bits_Add32.f (rd x5 x28) 0 x8).bind fun bt260 => (if x28 < (x7.length : Int) then (nat_Add.l0 k x5 x6 (x7.set (x28 : Int).toNat bt260.1) bt260.2 x27 (wrap64 (x28 + 1))) else (none))) else (none)) else (none))) else (if 0 ≤ (x5.length : Int) then (if (x5.length : Int) < (x7.length : Int) then ((nat_mag.f k (x7.set ((x5.length : Int) : Int).toNat x8)).bind fun t264 => (some t264)) else (none)) else (none))
end
def nat_Add.f (k : Nat) (a0 : ByteArray) (a1 : ByteArray) : Option (ByteArray) := (nat_limbs.f k a0).bind fun t245 => ((nat_limbs.f k a1).bind fun t248 => (if (t245.length : Int) < (t248.length : Int) then (nat_Add.j0 k t248 t245) else (nat_Add.j0 k t245 t248)))
theorem nat_Add.mono_l : ∀ k, (∀ y0 y1, LeO (nat_Add.j0 k y0 y1) (nat_Add.j0 (k + 1) y0 y1)) ∧ (∀ y0 y1 y2 y3 y4 y5, LeO (nat_Add.l0 k y0 y1 y2 y3 y4 y5) (nat_Add.l0 (k + 1) y0 y1 y2 y3 y4 y5))
 | 0 => ⟨fun _ _ r h => by simp [nat_Add.j0] at h, fun _ _ _ _ _ _ r h => by simp [nat_Add.l0] at h⟩
 | k + 1 => by
  obtain ⟨ih0, ih1⟩ := nat_Add.mono_l k
  refine ⟨?_, ?_⟩
  ·intro y0 y1
   unfold nat_Add.j0
   repeat' first
   | (with_reducible exact ih0 _ _)
   | (with_reducible exact ih1 _ _ _ _ _ _)
   | (with_reducible exact nat_limbs.mono _ _)
   | (with_reducible exact nat_mag.mono _ _)
   | (with_reducible exact LeO.refl _)
   | (with_reducible exact LeO.none _)
   | (with_reducible refine LeO.ite ?_ ?_)
   | (with_reducible refine LeO.bind ?_ (fun _ => ?_))
   | exact ih0 _ _
   | exact ih1 _ _ _ _ _ _
   | exact nat_limbs.mono _ _
   | exact nat_mag.mono _ _
   | exact LeO.none _
   | refine LeO.ite ?_ ?_
   | refine LeO.bind ?_ (fun _ => ?_)
  ·intro y0 y1 y2 y3 y4 y5
   unfold nat_Add.l0
   repeat' first
   | (with_reducible exact ih0 _ _)
   | (with_reducible exact ih1 _ _ _ _ _ _)
   | (with_reducible exact nat_limbs.mono _ _)
   | (with_reducible exact nat_mag.mono _ _)
   | (with_reducible exact LeO.refl _)
   | (with_reducible exact LeO.none _)
   | (with_reducible refine LeO.ite ?_ ?_)
   | (with_reducible refine LeO.bind ?_ (fun _ => ?_))
   | exact ih0 _ _
   | exact ih1 _ _ _ _ _ _
   | exact nat_limbs.mono _ _
   | exact nat_mag.mono _ _
   | exact LeO.none _
   | refine LeO.ite ?_ ?_
   | refine LeO.bind ?_ (fun _ => ?_)
theorem nat_Add.mono : ∀ a0 a1 k, LeO (nat_Add.f k a0 a1) (nat_Add.f (k + 1) a0 a1) := by
 intro a0 a1 k
 obtain ⟨ih0, ih1⟩ := nat_Add.mono_l k
 unfold nat_Add.f
 repeat' first
   | (with_reducible exact ih0 _ _)
   | (with_reducible exact ih1 _ _ _ _ _ _)
   | (with_reducible exact nat_limbs.mono _ _)
   | (with_reducible exact nat_mag.mono _ _)
   | (with_reducible exact LeO.refl _)
   | (with_reducible exact LeO.none _)
   | (with_reducible refine LeO.ite ?_ ?_)
   | (with_reducible refine LeO.bind ?_ (fun _ => ?_))
   | exact ih0 _ _
   | exact ih1 _ _ _ _ _ _
   | exact nat_limbs.mono _ _
   | exact nat_mag.mono _ _
   | exact LeO.none _
   | refine LeO.ite ?_ ?_
   | refine LeO.bind ?_ (fun _ => ?_)
set_option maxHeartbeats 8000000 in
set_option maxRecDepth 100000 in
theorem nat_Add.calls (k : Nat) (a0 : ByteArray) (a1 : ByteArray) (r : ByteArray) (w : World) (h : nat_Add.f k a0 a1 = some r) :
  Calls Tryz.prog 127 #[.string a0, .string a1] w fun e w' => e = .returned (.string r) ∧ Below w.heap.size w w' := by
 have HB := Q.a (Below.refl w.heap.size w)
 have H : ((nat_limbs.f k a0).bind fun t245 => ((nat_limbs.f k a1).bind fun t248 => (if (t245.length : Int) < (t248.length : Int) then (nat_Add.j0 k t248 t245) else (nat_Add.j0 k t245 t248)))) = some r := h
 clear h
 replace H := Option.bind_eq_some_iff.mp H
 obtain ⟨t245, A30, H⟩ := H
 try dsimp only at H
 have A3 := Q.a A30
 clear A30
 replace H := Option.bind_eq_some_iff.mp H
 obtain ⟨t248, A40, H⟩ := H
 try dsimp only at H
 have A4 := Q.a A40
 clear A40
 have HC5 := Q.a H
 clear H
 go_enter Tryz.func127, Tryz.ntmps127
 go_upto_if 19 with (first | ((with_reducible refine aAe (f := 149) rfl ?_); refine Q.gl 12 Tryz.func149 #[.string a0] rfl rfl rfl rfl ?_; (with_reducible refine (nat_limbs.calls k a0 t245 _ A3.out).mono ?_); rintro e w6 ⟨v246, rfl, ho0, hb⟩; refine ⟨_, rfl, ?_⟩; replace HO247 := Q.a (Kd.R_lower ho0 (aAf (Q.bw HB))); replace HB := Q.a (aAb (Q.bw HB) hb); (try clear hb); (try clear ho0)) | ((with_reducible refine aAe (f := 149) rfl ?_); refine Q.gl 14 Tryz.func149 #[.string a1] rfl rfl rfl rfl ?_; (with_reducible refine (nat_limbs.calls k a1 t248 _ A4.out).mono ?_); rintro e w7 ⟨v249, rfl, ho0, hb⟩; refine ⟨_, rfl, ?_⟩; replace HO250 := Q.a (Kd.R_lower (Kd.R_new' ho0 (Kd.R_lt (Q.kr HO247))) (aAf (Q.bw HB))); replace HO247 := Q.a (Kd.R_elder' (Q.kr HO247) (Kd.R_base ho0) hb); replace HB := Q.a (aAb (Q.bw HB) hb); (try clear hb); (try clear ho0); obtain ⟨Ao8, co8, eo8⟩ := Kd.R_slice HO247.out; subst eo8; obtain ⟨Ao9, co9, eo9⟩ := Kd.R_slice HO250.out; subst eo9))
 (try simp only [Act.put, List.setIfInBounds_toArray, List.set_cons_zero, List.set_cons_succ])
 go_cut [5, 6] (fun v5 v6 wc => ∃ (kq : Nat) (x5_4 : List Int) (x6_4 : List Int), Aside0 (nat_Add.j0 kq x5_4 x6_4 = some r) ∧ Aside0 (kq ≤ k) ∧ Aside0 (Kd.R (Kd.int .u32) 143 wc w.heap.size (fun k_ => some k_ ≠ (v6 : Value).ownBlock) v5 x5_4) ∧ Aside0 (Kd.R (Kd.int .u32) 143 wc w.heap.size (fun k_ => some k_ ≠ (v5 : Value).ownBlock) v6 x6_4) ∧ Aside0 (Below w.heap.size w wc))
 case first =>
  have H := HC5.out
  clear HC5
  by_cases c10 : (t245.length : Int) < (t248.length : Int)
  ·rw [if_pos c10] at H
   have c10b0 : decide ((t245.length : Int) < (t248.length : Int)) = true := decide_eq_true c10
   have c10b1 : decide (t245.length < t248.length) = true := decide_eq_true (Int.ofNat_lt.mp c10)
   clear c10
   (first | rw [c10b0] | rw [c10b1] | (simp only [aAn, aA3]; rw [c10b0]) | skip)
   have H' := Q.a H
   clear H
   go_wp2
   go_meet
   case rel => exact ⟨_, (t248), (t245), H', ⟨by first | omega | exact Nat.le_refl _⟩, ⟨by (with_reducible repeat (first | apply Kd.R_alloc | apply Kd.R_drewN | apply Kd.R_drew)); exact Kd.R_mono HO250.out (fun _ hk => hk.2)⟩, ⟨by (with_reducible repeat (first | apply Kd.R_alloc | apply Kd.R_drewN | apply Kd.R_drew)); exact Kd.R_mono HO247.out (fun _ hk => hk.2)⟩, ⟨Q.bw HB⟩⟩
  ·rw [if_neg c10] at H
   have c10b0 : decide ((t245.length : Int) < (t248.length : Int)) = false := decide_eq_false c10
   have c10b1 : decide (t245.length < t248.length) = false := decide_eq_false (fun h => c10 (Int.ofNat_lt.mpr h))
   clear c10
   (first | rw [c10b0] | rw [c10b1] | (simp only [aAn, aA3]; rw [c10b0]) | skip)
   have H' := Q.a H
   clear H
   go_wp2
   go_meet
   case rel => exact ⟨_, (t245), (t248), H', ⟨by first | omega | exact Nat.le_refl _⟩, ⟨by (with_reducible repeat (first | apply Kd.R_alloc | apply Kd.R_drewN | apply Kd.R_drew)); exact Kd.R_mono HO247.out (fun _ hk => hk.2)⟩, ⟨by (with_reducible repeat (first | apply Kd.R_alloc | apply Kd.R_drewN | apply Kd.R_drew)); exact Kd.R_mono HO250.out (fun _ hk => hk.2)⟩, ⟨Q.bw HB⟩⟩
 case rest =>
  clear HC5
  try clear c1
  try clear p2
  try clear c10
  try clear c10b0
  try clear c10b1
  obtain ⟨kq, x5_4, x6_4, HA, HJ4, HO_5, HO_6, HB⟩ := hcut
  cases kq with
  | zero => exact absurd HA.out (by simp [nat_Add.j0])
  | succ kj4 =>
   have H := HA.out
   clear HA
   simp only [nat_Add.j0] at H
   obtain ⟨ji11, hji11⟩ : ∃ j_ : Int, (wrap64 ((x5_4.length : Int) + 1)) = j_ := ⟨_, rfl⟩
   replace H : (if 0 ≤ (ji11) then (if (ji11 : Int).toNat ≤ 70368744177664 then (nat_Add.l0 kj4 x5_4 x6_4 (List.replicate (ji11 : Int).toNat 0) 0 (x5_4.length : Int) 0) else (none)) else (none)) = some r := by first | (rw [hji11] at H; exact H) | (simp only [hji11] at H ⊢; exact H)
   have hji11w : (IntKind.i64.wrap ((x5_4.length : Int) + 1)) = ji11 := (aAn _).trans hji11
   by_cases c12 : 0 ≤ (ji11)
   ·rw [if_pos c12] at H
    have c12b0 := eq_true c12
    have c12b1 : decide (0 ≤ (ji11)) = true := decide_eq_true c12
    clear c12
    by_cases c13 : (ji11 : Int).toNat ≤ 70368744177664
    ·rw [if_pos c13] at H
     have c13b0 := eq_true c13
     have c13b1 : decide ((ji11 : Int).toNat ≤ 70368744177664) = true := decide_eq_true c13
     clear c13
     obtain ⟨y251, hy251⟩ : ∃ y_ : List Int, y_ = (List.replicate (ji11 : Int).toNat 0) := ⟨_, rfl⟩
     replace H : (nat_Add.l0 kj4 x5_4 x6_4 y251 0 (x5_4.length : Int) 0) = some r := by first | (rw [hy251]; with_reducible exact H) | (have H2_ := (Option.bind_some _ _).symm.trans H; rw [hy251]; with_reducible exact H2_) | (have H2_ := (Option.bind_some _ _).symm.trans H; with_reducible exact H2_) | with_reducible exact H | (rw [hy251]; exact H) | exact H
     have Ny251 := Q.a hy251
     clear hy251
     have H' := Q.a H
     clear H
     obtain ⟨Ao14, co14, eo14⟩ := Kd.R_slice HO_5.out
     subst eo14
     go_wp2_with (first | ((with_reducible refine aAR (N := 25) rfl ?_); refine Kd.R_make (Kd.int .u32) _ 143 rfl (N := 25) rfl 145 _ _ rfl ji11 rfl rfl Tryz.underlying145 (.int .u32 0) 4 aAC rfl (by decide) (by omega) 0 (ok := fun _ => True) (okp := fun _ => True) rfl (fun _ hk => hk) trivial Q.od (Nat.le_trans (Nat.mul_le_mul_right _ (of_decide_eq_true (by first | (with_reducible assumption) | assumption) : ji11.toNat ≤ 70368744177664)) (by omega)) (Below.refl _ _) (Nat.le_refl _) ?_; intro v252 w15 ho16 hb hg_ hnew_; clear hg_ hnew_; (first | rw [← Ny251.out] at ho16 | (simp only [Int.reduceToNat] at ho16; rw [← Ny251.out] at ho16)); replace HO253 := Q.a (Kd.R_lower (Kd.R_new' (Kd.R_new' ho16 (Kd.R_lt (Q.kr HO_5))) (Kd.R_lt (Q.kr HO_6))) (aAf (Q.bw HB))); replace HO_5 := Q.a (Kd.R_elder' (Q.kr HO_5) (Kd.R_base ho16) hb); replace HO_6 := Q.a (Kd.R_elder' (Q.kr HO_6) (Kd.R_base ho16) hb); replace HB := Q.a (aAb (Q.bw HB) hb); clear hb ho16))
     go_loopg [8, 28] kj4 (fun kq v8 v28 w' => ∃ (x7_2 : List Int) (x8_2 : Int) (x28_2 : Int), v8 = .int .u32 x8_2 ∧ v28 = .int .i64 x28_2 ∧ Aside0 (nat_Add.l0 kq x5_4 x6_4 x7_2 x8_2 (x5_4.length : Int) x28_2 = some r) ∧ Aside0 (kq ≤ kj4) ∧ Aside0 (Kd.R (Kd.int .u32) 143 w' w.heap.size (fun k_ => some k_ ≠ (u6 : Value).ownBlock ∧ some k_ ≠ (v252 : Value).ownBlock) (.slice Ao14 x5_4.length co14) x5_4) ∧ Aside0 (Kd.R (Kd.int .u32) 143 w' w.heap.size (fun k_ => some k_ ≠ ((.slice Ao14 x5_4.length co14) : Value).ownBlock ∧ some k_ ≠ (v252 : Value).ownBlock) u6 x6_4) ∧ Aside0 (Kd.R (Kd.int .u32) 143 w' w.heap.size (fun k_ => some k_ ≠ ((.slice Ao14 x5_4.length co14) : Value).ownBlock ∧ some k_ ≠ (u6 : Value).ownBlock) v252 x7_2) ∧ Aside0 (Below w.heap.size w w'))
     case atStart => exact ⟨(y251), (0), (0), Q.rs, Q.rs, H', ⟨Nat.le_refl _⟩, ⟨Q.kr HO_5⟩, ⟨Q.kr HO_6⟩, ⟨by (with_reducible repeat (first | apply Kd.R_alloc | apply Kd.R_drewN | apply Kd.R_drew)); exact Kd.R_mono HO253.out (fun _ hk => ⟨hk.1.2, hk.2⟩)⟩, ⟨Q.bw HB⟩⟩
     case round =>
      clear H'
      try clear c1
      try clear p2
      try clear p6
      try clear c10
      try clear c10b0
      try clear c10b1
      try clear c12
      try clear c12b0
      try clear c12b1
      try clear c13
      try clear c13b0
      try clear c13b1
      try clear c14
      try clear p2
      obtain ⟨x7_2, x8_2, x28_2, rfl, rfl, HA, HK2, HO_5, HO_6, HO_7, HB⟩ := hrel
      cases gk with
      | zero => exact absurd HA.out (by simp [nat_Add.l0])
      | succ k2 =>
       have H := HA.out
       clear HA
       simp only [nat_Add.l0] at H
       by_cases c17 : x28_2 < (x5_4.length : Int)
       ·rw [if_pos c17] at H
        have c17b0 : decide (x28_2 < (x5_4.length : Int)) = true := decide_eq_true c17
        clear c17
        by_cases c18 : x28_2 < (x6_4.length : Int)
        ·rw [if_pos c18] at H
         have c18b0 : decide (x28_2 < (x6_4.length : Int)) = true := decide_eq_true c18
         clear c18
         by_cases c19 : 0 ≤ x28_2
         ·rw [if_pos c19] at H
          have c19b0 : decide (0 ≤ x28_2) = true := decide_eq_true c19
          clear c19
          by_cases c20 : x28_2 < (x5_4.length : Int)
          ·rw [if_pos c20] at H
           have c20b0 : decide (x28_2 < (x5_4.length : Int)) = true := decide_eq_true c20
           clear c20
           replace H := Option.bind_eq_some_iff.mp H
           obtain ⟨⟨t256, t257⟩, A210, H⟩ := H
           try dsimp only at H
           have A21 := Q.a A210
           clear A210
           by_cases c22 : x28_2 < (x7_2.length : Int)
           ·rw [if_pos c22] at H
            have c22b0 : decide (x28_2 < (x7_2.length : Int)) = true := decide_eq_true c22
            clear c22
            obtain ⟨y258, hy258⟩ : ∃ y_ : List Int, y_ = (x7_2.set (x28_2 : Int).toNat t256) := ⟨_, rfl⟩
            replace H : (nat_Add.l0 k2 x5_4 x6_4 y258 t257 (x5_4.length : Int) (wrap64 (x28_2 + 1))) = some r := by first | (rw [hy258]; with_reducible exact H) | (have H2_ := (Option.bind_some _ _).symm.trans H; rw [hy258]; with_reducible exact H2_) | (have H2_ := (Option.bind_some _ _).symm.trans H; with_reducible exact H2_) | with_reducible exact H | (rw [hy258]; exact H) | exact H
            have Ny258 := Q.a hy258
            clear hy258
            have H' := Q.a H
            clear H
            obtain ⟨Ao24, co24, eo24⟩ := Kd.R_slice HO_6.out
            subst eo24
            have p254 : 0 ≤ (x28_2 : Int) := of_decide_eq_true (by first | (with_reducible assumption) | assumption)
            have q254 : x28_2 < (x6_4.length : Int) := of_decide_eq_true (by first | (with_reducible assumption) | assumption)
            obtain ⟨ad254, e254, hx254_0⟩ := Kd.at_int (Kd.R_reads' HO_6.out).2.2 x28_2 p254 q254
            cases e254
            replace p254 := eq_true p254
            replace q254 := eq_true q254
            have p255 : 0 ≤ (x28_2 : Int) := of_decide_eq_true (by first | (with_reducible assumption) | assumption)
            have q255 : x28_2 < (x5_4.length : Int) := of_decide_eq_true (by first | (with_reducible assumption) | assumption)
            obtain ⟨ad255, e255, hx255_0⟩ := Kd.at_int (Kd.R_reads' HO_5.out).2.2 x28_2 p255 q255
            cases e255
            replace p255 := eq_true p255
            replace q255 := eq_true q255
            go_wp2_with (first | ((with_reducible refine aAe (f := 153) rfl ?_); refine Q.gl 48 Tryz.func153 #[.int .u32 (rd x5_4 x28_2), .int .u32 (rd x6_4 x28_2), .int .u32 x8_2] rfl rfl rfl rfl ?_; (with_reducible refine (bits_Add32.calls (rd x5_4 x28_2) (rd x6_4 x28_2) x8_2 t256 t257 _ A21.out).mono ?_); rintro e w' ⟨rfl, ⟨nd, rfl⟩⟩; refine ⟨_, rfl, ?_⟩; (try (rw [aAq wr]; generalize hq_ : World.drewN wr _ = wr; have n0_ : Aside0 (Kd.R (Kd.int .u32) 143 wr w.heap.size (fun k_ => some k_ ≠ (.slice (some ad254) x6_4.length co24 : Value).ownBlock ∧ some k_ ≠ (v252 : Value).ownBlock) (.slice (some ad255) x5_4.length co14) x5_4) := ⟨by rw [← hq_]; exact (Q.kr HO_5)⟩; have n1_ : Aside0 (Kd.R (Kd.int .u32) 143 wr w.heap.size (fun k_ => some k_ ≠ (.slice (some ad255) x5_4.length co14 : Value).ownBlock ∧ some k_ ≠ (v252 : Value).ownBlock) (.slice (some ad254) x6_4.length co24) x6_4) := ⟨by rw [← hq_]; exact (Q.kr HO_6)⟩; have n2_ : Aside0 (Kd.R (Kd.int .u32) 143 wr w.heap.size (fun k_ => some k_ ≠ (.slice (some ad255) x5_4.length co14 : Value).ownBlock ∧ some k_ ≠ (.slice (some ad254) x6_4.length co24 : Value).ownBlock) v252 x7_2) := ⟨by rw [← hq_]; exact (Q.kr HO_7)⟩; have n3_ : Aside0 (Below w.heap.size w wr) := ⟨by rw [← hq_]; exact (Q.bw HB)⟩; clear HO_5 HO_6 HO_7 HB hq_; have HO_5 := n0_; have HO_6 := n1_; have HO_7 := n2_; have HB := n3_; clear n0_ n1_ n2_ n3_)); have p23 : 0 ≤ (x28_2 : Int) := of_decide_eq_true (by first | (with_reducible assumption) | assumption); have q23 : (x28_2 : Int) < ((x7_2.length : Int) : Int) := of_decide_eq_true (by first | (with_reducible assumption) | assumption); obtain ⟨go23, co23, eo23, gb23, gl23, cl23, HG23⟩ := Kd.R_form HO_7.out (by omega); (first | cases eo23 | (injection eo23 with ea_ en_ ec_; (first | subst ea_ | (injection ea_ with ea_; subst ea_)); subst ec_; clear en_)); have GB23 := Q.a gb23; have GG23 := Q.a HG23; clear gb23 gl23 HG23; obtain ⟨hx23_0, hf23_0⟩ := Kd.R_celln 0 HO_7.out (x28_2 : Int) p23 q23; replace p23 := eq_true p23; replace q23 := eq_true q23; obtain ⟨hy25_, hz25_⟩ := Kd.R_celln 0 HO_7.out (x28_2 : Int) Q.od Q.od; have HP25 := Kd.R_putg HO_7.out (x28_2 : Int) t256) | ((with_reducible refine aAl (t := 143) (p := 51) rfl ?_); refine aAh (t := 143) (p := 51) (v := ?vo_w26) (w1 := (wr.setCell ⟨go23, (x28_2 : Int).toNat, none⟩ (.int .u32 t256))) ?hg ?ho ?hn ?hr ?_; (case ho => rfl); (case hg => rfl); (case hn => rfl); (case hr => first | (go_simp; done) | (go_simp; rfl)); intro w26 hw; have hg : wr.grownBy w26 (some go23) := (by rw [hw]; exact HP25.2); have hp_ : Kd.R (Kd.int .u32) 143 w26 w.heap.size (fun k_ => some k_ ≠ (.slice (some ad255) x5_4.length co14 : Value).ownBlock ∧ some k_ ≠ (.slice (some ad254) x6_4.length co24 : Value).ownBlock) (.slice (some ⟨go23, 0, none⟩) x7_2.length co23) y258 := (by rw [hw, Ny258.out]; exact HP25.1); clear HP25; replace HO_5 := Q.a (Kd.R_after (v := (.slice (some ⟨go23, 0, none⟩) x7_2.length co23)) (v1 := (.slice (some ⟨go23, 0, none⟩) x7_2.length co23)) (ok := (fun k_ => some k_ ≠ (.slice (some ad254) x6_4.length co24 : Value).ownBlock)) (Q.kr HO_5) hg (.inl rfl)); replace HO_6 := Q.a (Kd.R_after (v := (.slice (some ⟨go23, 0, none⟩) x7_2.length co23)) (v1 := (.slice (some ⟨go23, 0, none⟩) x7_2.length co23)) (ok := (fun k_ => some k_ ≠ (.slice (some ad255) x5_4.length co14 : Value).ownBlock)) (Q.kr HO_6) hg (.inl rfl)); replace HO_7 := Q.a (hp_); replace HB := Q.a ((by rw [hw]; exact aAo (HB.out) GB23.out : Below w.heap.size w w26)); clear hg hw hp_))
            go_roundg k2
            case measure => have := HJ4.out; have := HK2.out; omega
            case rel => exact ⟨(y258), (t257), (wrap64 (x28_2 + 1)), Q.rs, Q.rs, H', ⟨by have := HJ4.out; have := HK2.out; omega⟩, ⟨Q.kr HO_5⟩, ⟨Q.kr HO_6⟩, ⟨Q.kr HO_7⟩, ⟨Q.bw HB⟩⟩
           ·rw [if_neg c22] at H
            exact absurd H (by simp)
          ·rw [if_neg c20] at H
           exact absurd H (by simp)
         ·rw [if_neg c19] at H
          exact absurd H (by simp)
        ·rw [if_neg c18] at H
         have c18b0 : decide (x28_2 < (x6_4.length : Int)) = false := decide_eq_false c18
         clear c18
         by_cases c27 : 0 ≤ x28_2
         ·rw [if_pos c27] at H
          have c27b0 : decide (0 ≤ x28_2) = true := decide_eq_true c27
          clear c27
          by_cases c28 : x28_2 < (x5_4.length : Int)
          ·rw [if_pos c28] at H
           have c28b0 : decide (x28_2 < (x5_4.length : Int)) = true := decide_eq_true c28
           clear c28
           replace H := Option.bind_eq_some_iff.mp H
           obtain ⟨⟨t260, t261⟩, A290, H⟩ := H
           try dsimp only at H
           have A29 := Q.a A290
           clear A290
           by_cases c30 : x28_2 < (x7_2.length : Int)
           ·rw [if_pos c30] at H
            have c30b0 : decide (x28_2 < (x7_2.length : Int)) = true := decide_eq_true c30
            clear c30
            obtain ⟨y262, hy262⟩ : ∃ y_ : List Int, y_ = (x7_2.set (x28_2 : Int).toNat t260) := ⟨_, rfl⟩
            replace H : (nat_Add.l0 k2 x5_4 x6_4 y262 t261 (x5_4.length : Int) (wrap64 (x28_2 + 1))) = some r := by first | (rw [hy262]; with_reducible exact H) | (have H2_ := (Option.bind_some _ _).symm.trans H; rw [hy262]; with_reducible exact H2_) | (have H2_ := (Option.bind_some _ _).symm.trans H; with_reducible exact H2_) | with_reducible exact H | (rw [hy262]; exact H) | exact H
            have Ny262 := Q.a hy262
            clear hy262
            have H' := Q.a H
            clear H
            obtain ⟨Ao32, co32, eo32⟩ := Kd.R_slice HO_6.out
            subst eo32
            have p259 : 0 ≤ (x28_2 : Int) := of_decide_eq_true (by first | (with_reducible assumption) | assumption)
            have q259 : x28_2 < (x5_4.length : Int) := of_decide_eq_true (by first | (with_reducible assumption) | assumption)
            obtain ⟨ad259, e259, hx259_0⟩ := Kd.at_int (Kd.R_reads' HO_5.out).2.2 x28_2 p259 q259
            cases e259
            replace p259 := eq_true p259
            replace q259 := eq_true q259
            go_wp2_with (first | ((with_reducible refine aAe (f := 153) rfl ?_); refine Q.gl 48 Tryz.func153 #[.int .u32 (rd x5_4 x28_2), .int .u32 0, .int .u32 x8_2] rfl rfl rfl rfl ?_; (with_reducible refine (bits_Add32.calls (rd x5_4 x28_2) 0 x8_2 t260 t261 _ A29.out).mono ?_); rintro e w' ⟨rfl, ⟨nd, rfl⟩⟩; refine ⟨_, rfl, ?_⟩; (try (rw [aAq wr]; generalize hq_ : World.drewN wr _ = wr; have n0_ : Aside0 (Kd.R (Kd.int .u32) 143 wr w.heap.size (fun k_ => some k_ ≠ (.slice Ao32 x6_4.length co32 : Value).ownBlock ∧ some k_ ≠ (v252 : Value).ownBlock) (.slice (some ad259) x5_4.length co14) x5_4) := ⟨by rw [← hq_]; exact (Q.kr HO_5)⟩; have n1_ : Aside0 (Kd.R (Kd.int .u32) 143 wr w.heap.size (fun k_ => some k_ ≠ (.slice (some ad259) x5_4.length co14 : Value).ownBlock ∧ some k_ ≠ (v252 : Value).ownBlock) (.slice Ao32 x6_4.length co32) x6_4) := ⟨by rw [← hq_]; exact (Q.kr HO_6)⟩; have n2_ : Aside0 (Kd.R (Kd.int .u32) 143 wr w.heap.size (fun k_ => some k_ ≠ (.slice (some ad259) x5_4.length co14 : Value).ownBlock ∧ some k_ ≠ (.slice Ao32 x6_4.length co32 : Value).ownBlock) v252 x7_2) := ⟨by rw [← hq_]; exact (Q.kr HO_7)⟩; have n3_ : Aside0 (Below w.heap.size w wr) := ⟨by rw [← hq_]; exact (Q.bw HB)⟩; clear HO_5 HO_6 HO_7 HB hq_; have HO_5 := n0_; have HO_6 := n1_; have HO_7 := n2_; have HB := n3_; clear n0_ n1_ n2_ n3_)); have p31 : 0 ≤ (x28_2 : Int) := of_decide_eq_true (by first | (with_reducible assumption) | assumption); have q31 : (x28_2 : Int) < ((x7_2.length : Int) : Int) := of_decide_eq_true (by first | (with_reducible assumption) | assumption); obtain ⟨go31, co31, eo31, gb31, gl31, cl31, HG31⟩ := Kd.R_form HO_7.out (by omega); (first | cases eo31 | (injection eo31 with ea_ en_ ec_; (first | subst ea_ | (injection ea_ with ea_; subst ea_)); subst ec_; clear en_)); have GB31 := Q.a gb31; have GG31 := Q.a HG31; clear gb31 gl31 HG31; obtain ⟨hx31_0, hf31_0⟩ := Kd.R_celln 0 HO_7.out (x28_2 : Int) p31 q31; replace p31 := eq_true p31; replace q31 := eq_true q31; obtain ⟨hy33_, hz33_⟩ := Kd.R_celln 0 HO_7.out (x28_2 : Int) Q.od Q.od; have HP33 := Kd.R_putg HO_7.out (x28_2 : Int) t260) | ((with_reducible refine aAl (t := 143) (p := 51) rfl ?_); refine aAh (t := 143) (p := 51) (v := ?vo_w34) (w1 := (wr.setCell ⟨go31, (x28_2 : Int).toNat, none⟩ (.int .u32 t260))) ?hg ?ho ?hn ?hr ?_; (case ho => rfl); (case hg => rfl); (case hn => rfl); (case hr => first | (go_simp; done) | (go_simp; rfl)); intro w34 hw; have hg : wr.grownBy w34 (some go31) := (by rw [hw]; exact HP33.2); have hp_ : Kd.R (Kd.int .u32) 143 w34 w.heap.size (fun k_ => some k_ ≠ (.slice (some ad259) x5_4.length co14 : Value).ownBlock ∧ some k_ ≠ (.slice Ao32 x6_4.length co32 : Value).ownBlock) (.slice (some ⟨go31, 0, none⟩) x7_2.length co31) y262 := (by rw [hw, Ny262.out]; exact HP33.1); clear HP33; replace HO_5 := Q.a (Kd.R_after (v := (.slice (some ⟨go31, 0, none⟩) x7_2.length co31)) (v1 := (.slice (some ⟨go31, 0, none⟩) x7_2.length co31)) (ok := (fun k_ => some k_ ≠ (.slice Ao32 x6_4.length co32 : Value).ownBlock)) (Q.kr HO_5) hg (.inl rfl)); replace HO_6 := Q.a (Kd.R_after (v := (.slice (some ⟨go31, 0, none⟩) x7_2.length co31)) (v1 := (.slice (some ⟨go31, 0, none⟩) x7_2.length co31)) (ok := (fun k_ => some k_ ≠ (.slice (some ad259) x5_4.length co14 : Value).ownBlock)) (Q.kr HO_6) hg (.inl rfl)); replace HO_7 := Q.a (hp_); replace HB := Q.a ((by rw [hw]; exact aAo (HB.out) GB31.out : Below w.heap.size w w34)); clear hg hw hp_))
            go_roundg k2
            case measure => have := HJ4.out; have := HK2.out; omega
            case rel => exact ⟨(y262), (t261), (wrap64 (x28_2 + 1)), Q.rs, Q.rs, H', ⟨by have := HJ4.out; have := HK2.out; omega⟩, ⟨Q.kr HO_5⟩, ⟨Q.kr HO_6⟩, ⟨Q.kr HO_7⟩, ⟨Q.bw HB⟩⟩
           ·rw [if_neg c30] at H
            exact absurd H (by simp)
          ·rw [if_neg c28] at H
           exact absurd H (by simp)
         ·rw [if_neg c27] at H
          exact absurd H (by simp)
       ·rw [if_neg c17] at H
        have c17b0 : decide (x28_2 < (x5_4.length : Int)) = false := decide_eq_false c17
        clear c17
        by_cases c35 : 0 ≤ (x5_4.length : Int)
        ·rw [if_pos c35] at H
         have c35b0 : decide (0 ≤ (x5_4.length : Int)) = true := decide_eq_true c35
         have c35b1 : decide (0 ≤ x5_4.length) = true := decide_eq_true (by omega)
         clear c35
         by_cases c36 : (x5_4.length : Int) < (x7_2.length : Int)
         ·rw [if_pos c36] at H
          have c36b0 : decide ((x5_4.length : Int) < (x7_2.length : Int)) = true := decide_eq_true c36
          have c36b1 : decide (x5_4.length < x7_2.length) = true := decide_eq_true (Int.ofNat_lt.mp c36)
          clear c36
          obtain ⟨y263, hy263⟩ : ∃ y_ : List Int, y_ = (x7_2.set ((x5_4.length : Int) : Int).toNat x8_2) := ⟨_, rfl⟩
          replace H : ((nat_mag.f k2 y263).bind fun t264 => (some t264)) = some r := by first | (rw [hy263]; with_reducible exact H) | (have H2_ := (Option.bind_some _ _).symm.trans H; rw [hy263]; with_reducible exact H2_) | (have H2_ := (Option.bind_some _ _).symm.trans H; with_reducible exact H2_) | with_reducible exact H | (rw [hy263]; exact H) | exact H
          have Ny263 := Q.a hy263
          clear hy263
          replace H := Option.bind_eq_some_iff.mp H
          obtain ⟨t264, A380, H⟩ := H
          try dsimp only at H
          have A38 := Q.a A380
          clear A380
          obtain rfl := Option.some.inj H
          have p37 : 0 ≤ ((x5_4.length : Int) : Int) := of_decide_eq_true (by first | (with_reducible assumption) | assumption)
          have q37 : ((x5_4.length : Int) : Int) < ((x7_2.length : Int) : Int) := of_decide_eq_true (by first | (with_reducible assumption) | assumption)
          obtain ⟨go37, co37, eo37, gb37, gl37, cl37, HG37⟩ := Kd.R_form HO_7.out (by omega)
          (first | cases eo37 | (injection eo37 with ea_ en_ ec_; (first | subst ea_ | (injection ea_ with ea_; subst ea_)); subst ec_; clear en_))
          have GB37 := Q.a gb37
          have GG37 := Q.a HG37
          clear gb37 gl37 HG37
          obtain ⟨hx37_0, hf37_0⟩ := Kd.R_celln 0 HO_7.out ((x5_4.length : Int) : Int) p37 q37; (try simp only [Int.toNat_natCast] at hx37_0 hf37_0)
          replace p37 := eq_true p37
          replace q37 := eq_true q37
          have HP39 := Kd.R_putg HO_7.out ((x5_4.length : Int) : Int) x8_2
          go_wp2_with (first | ((with_reducible refine aAl (t := 143) (p := 57) rfl ?_); refine aAh (t := 143) (p := 57) (v := ?vo_w40) (w1 := (wr.setCell ⟨go37, ((x5_4.length : Int) : Int).toNat, none⟩ (.int .u32 x8_2))) ?hg ?ho ?hn ?hr ?_; (case ho => rfl); (case hg => rfl); (case hn => rfl); (case hr => first | (go_simp; done) | (go_simp; rfl)); intro w40 hw; have hg : wr.grownBy w40 (some go37) := (by rw [hw]; exact HP39.2); have hp_ : Kd.R (Kd.int .u32) 143 w40 w.heap.size (fun k_ => some k_ ≠ (.slice Ao14 x5_4.length co14 : Value).ownBlock ∧ some k_ ≠ (u6 : Value).ownBlock) (.slice (some ⟨go37, 0, none⟩) x7_2.length co37) y263 := (by rw [hw, Ny263.out]; exact HP39.1); clear HP39; replace HO_5 := Q.a (Kd.R_after (v := (.slice (some ⟨go37, 0, none⟩) x7_2.length co37)) (v1 := (.slice (some ⟨go37, 0, none⟩) x7_2.length co37)) (ok := (fun k_ => some k_ ≠ (u6 : Value).ownBlock)) (Q.kr HO_5) hg (.inl rfl)); replace HO_6 := Q.a (Kd.R_after (v := (.slice (some ⟨go37, 0, none⟩) x7_2.length co37)) (v1 := (.slice (some ⟨go37, 0, none⟩) x7_2.length co37)) (ok := (fun k_ => some k_ ≠ (.slice Ao14 x5_4.length co14 : Value).ownBlock)) (Q.kr HO_6) hg (.inl rfl)); replace HO_7 := Q.a (hp_); replace HB := Q.a ((by rw [hw]; exact aAo (HB.out) GB37.out : Below w.heap.size w w40)); clear hg hw hp_) | ((with_reducible refine aAe (f := 147) rfl ?_); refine aJU (some 59) rfl rfl Tryz.func147 (by kernel_rfl) rfl #[.slice (some ⟨go37, 0, none⟩) y263.length co37] rfl (by (try simp only [List.map_toArray, List.map_cons, List.map_nil]); first | done | (rw [show y263.length = x7_2.length from (Kd.R_reads' HO_7.out).1.symm] <;> rfl) | rfl | (simp only [List.length_drop, List.length_take]; rfl)) ?_; (with_reducible refine (nat_mag.calls k2 _ _ y263 t264 _ ?side1 ?side2 A38.out).mono ?_); (case side1 => repeat (first | exact (Kd.R_reads' HO_7.out).2.2 | (with_reducible refine Kd.C_alloc ?_ _) | (with_reducible refine Kd.C_drewN ?_ _) | (with_reducible refine Kd.C_drew ?_))); (case side2 => rw [show y263.length = x7_2.length from (Kd.R_reads' HO_7.out).1.symm]; exact (Kd.R_reads' HO_7.out).2.1); rintro e w41 ⟨rfl, hb⟩; refine ⟨_, rfl, ?_⟩; replace HO_5 := Q.a (Kd.R_below (Q.kr HO_5) hb); replace HO_6 := Q.a (Kd.R_below (Q.kr HO_6) hb); replace HO_7 := Q.a (Kd.R_below (Q.kr HO_7) hb); replace HB := Q.a (aAb (Q.bw HB) hb); (try clear hb)))
          go_ret
          exact ⟨by first | rfl | (simp [aAt, aAu] <;> rfl) | (simp only [← hji11]; first | rfl | (simp [aAt, aAu] <;> rfl)) | (simp [*, aAt, aAu] <;> rfl), Q.bw HB⟩
         ·rw [if_neg c36] at H
          exact absurd H (by simp)
        ·rw [if_neg c35] at H
         exact absurd H (by simp)
    ·rw [if_neg c13] at H
     exact absurd H (by simp)
   ·rw [if_neg c12] at H
    exact absurd H (by simp)
end Go.Proofs.YtjefbecmeobegaaGreatDoor.P
