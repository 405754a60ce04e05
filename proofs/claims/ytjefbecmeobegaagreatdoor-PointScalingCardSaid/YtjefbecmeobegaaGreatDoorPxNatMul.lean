import Derived.Test.YtjefbecmeobegaaGreatDoorPx0
import Derived.Test.YtjefbecmeobegaaGreatDoorPxNA
import Derived.Test.YtjefbecmeobegaaGreatDoorXQ
namespace Go.Proofs.YtjefbecmeobegaaGreatDoor.P
open Go.RowKit YtjefbecmeobegaaGreatDoorW.PrintWords YtjefbecmeobegaaGreatDoorW.PrintLast YtjefbecmeobegaaGreatDoorW.PrintMore
attribute [local go_sem] aBj aBk aB1 aB2 aAW aAX aBl aBm
attribute [local go_sem] XW.cell_twice
set_option linter.unusedVariables false
set_option linter.unusedSimpArgs false
mutual
def nat_Mul.l0 : Nat → List Int → List Int → List Int → Int → Int → Option (ByteArray)
 | 0, _, _, _, _, _ => none
 | k + 1, x5, x6, x7, x23, x24 => if x24 < x23 then (nat_Mul.l1 k x5 x6 x7 x24 0 x23 x24 (x6.length : Int) 0) else ((nat_mag.f k x7).bind fun t239 => (some t239))
def nat_Mul.l1 : Nat → List Int → List Int → List Int → Int → Int → Int → Int → Int → Int → Option (ByteArray)
 | 0, _, _, _, _, _, _, _, _, _ => none
 | k + 1, x5, x6, x7, x8, x9, x23, x24, x28, x29 => if x29 < x28 then (if 0 ≤ x8 then (if x8 < (x5.length : Int) then (if 0 ≤ x29 then (if x29 < (x6.length : Int) then (if 0 ≤ (wrap64 (x8 + x29)) then (if (wrap64 (x8 + x29)) < (x7.length : Int) then (nat_Mul.l1 k x5 x6 (x7.set ((wrap64 (x8 + x29)) : Int).toNat ((IntKind.u64.wrap ((IntKind.u64.wrap ((IntKind.u64.wrap ((IntKind.u64.wrap (rd x5 x8)) * (IntKind.u64.wrap (rd x6 x29)))) + (IntKind.u64.wrap (rd x7 (wrap64 (x8 + x29)))))) + x9)) % 4294967296)) x8 ((IntKind.u64.wrap ((IntKind.u64.wrap ((IntKind.u64.wrap ((IntKind.u64.wrap (rd x5 x8)) * (IntKind.u64.wrap (rd x6 x29)))) + (IntKind.u64.wrap (rd x7 (wrap64 (x8 + x29)))))) + x9)) / 4294967296) x23 x24 x28 (wrap64 (x29 + 1))) else (none)) else (none)) else (none)) else (none)) else (none)) else (none)) else (if 0 ≤ (wrap64 (x8 + (x6.length : Int))) then (if (wrap64 (x8 + (x6.length : Int))) < (x7.length : Int) then (nat_Mul.l0 k x5 x6 (x7.set ((wrap64 (x8 + (x6.length : Int))) : Int).toNat ((x9) % 4294967296)) x23 (wrap64 (x24 + 1))) else (none)) else (none))
end
def nat_Mul.f (k : Nat) (a0 : ByteArray) (a1 : ByteArray) : Option (ByteArray) := (nat_limbs.f k a0).bind fun t230 => ((nat_limbs.f k a1).bind fun t233 => (if 0 ≤ (wrap64 ((t230.length : Int) + (t233.length : Int))) then (if (wrap64 ((t230.length : Int) + (t233.length : Int)) : Int).toNat ≤ 70368744177664 then (nat_Mul.l0 k t230 t233 (List.replicate (wrap64 ((t230.length : Int) + (t233.length : Int)) : Int).toNat 0) (t230.length : Int) 0) else (none)) else (none)))
theorem nat_Mul.mono_l : ∀ k, (∀ y0 y1 y2 y3 y4, LeO (nat_Mul.l0 k y0 y1 y2 y3 y4) (nat_Mul.l0 (k + 1) y0 y1 y2 y3 y4)) ∧ (∀ y0 y1 y2 y3 y4 y5 y6 y7 y8, LeO (nat_Mul.l1 k y0 y1 y2 y3 y4 y5 y6 y7 y8) (nat_Mul.l1 (k + 1) y0 y1 y2 y3 y4 y5 y6 y7 y8))
 | 0 => ⟨fun _ _ _ _ _ r h => by simp [nat_Mul.l0] at h, fun _ _ _ _ _ _ _ _ _ r h => by simp [nat_Mul.l1] at h⟩
 | k + 1 => by
  obtain ⟨ih0, ih1⟩ := nat_Mul.mono_l k
  refine ⟨?_, ?_⟩
  ·intro y0 y1 y2 y3 y4
   unfold nat_Mul.l0
   repeat' first
   | (with_reducible exact ih0 _ _ _ _ _)
   | (with_reducible exact ih1 _ _ _ _ _ _ _ _ _)
   | (with_reducible exact nat_limbs.mono _ _)
   | (with_reducible exact nat_mag.mono _ _)
   | (with_reducible exact LeO.refl _)
   | (with_reducible exact LeO.none _)
   | (with_reducible refine LeO.ite ?_ ?_)
   | (with_reducible refine LeO.bind ?_ (fun _ => ?_))
   | exact ih0 _ _ _ _ _
   | exact ih1 _ _ _ _ _ _ _ _ _
   | exact nat_limbs.mono _ _
   | exact nat_mag.mono _ _
   | exact LeO.none _
   | refine LeO.ite ?_ ?_
   | refine LeO.bind ?_ (fun _ => ?_)
  ·intro y0 y1 y2 y3 y4 y5 y6 y7 y8
   unfold nat_Mul.l1
   repeat' first
   | (with_reducible exact ih0 _ _ _ _ _)
   | (with_reducible exact ih1 _ _ _ _ _ _ _ _ _)
   | (with_reducible exact nat_limbs.mono _ _)
   | (with_reducible exact nat_mag.mono _ _)
   | (with_reducible exact LeO.refl _)
   | (with_reducible exact LeO.none _)
   | (with_reducible refine LeO.ite ?_ ?_)
   | (with_reducible refine LeO.bind ?_ (fun _ => ?_))
   | exact ih0 _ _ _ _ _
   | exact ih1 _ _ _ _ _ _ _ _ _
   | exact nat_limbs.mono _ _
   | exact nat_mag.mono _ _
   | exact LeO.none _
   | refine LeO.ite ?_ ?_
   | refine LeO.bind ?_ (fun _ => ?_)
theorem nat_Mul.mono : ∀ a0 a1 k, LeO (nat_Mul.f k a0 a1) (nat_Mul.f (k + 1) a0 a1) := by
 intro a0 a1 k
 obtain ⟨ih0, ih1⟩ := nat_Mul.mono_l k
 unfold nat_Mul.f
 repeat' first
   | (with_reducible exact ih0 _ _ _ _ _)
   | (with_reducible exact ih1 _ _ _ _ _ _ _ _ _)
   | (with_reducible exact nat_limbs.mono _ _)
   | (with_reducible exact nat_mag.mono _ _)
   | (with_reducible exact LeO.refl _)
   | (with_reducible exact LeO.none _)
   | (with_reducible refine LeO.ite ?_ ?_)
   | (with_reducible refine LeO.bind ?_ (fun _ => ?_))
   | exact ih0 _ _ _ _ _
   | exact ih1 _ _ _ _ _ _ _ _ _
   | exact nat_limbs.mono _ _
   | exact nat_mag.mono _ _
   | exact LeO.none _
   | refine LeO.ite ?_ ?_
   | refine LeO.bind ?_ (fun _ => ?_)
set_option maxHeartbeats 8000000 in
set_option maxRecDepth 100000 in
theorem nat_Mul.calls (k : Nat) (a0 : ByteArray) (a1 : ByteArray) (r : ByteArray) (w : World) (h : nat_Mul.f k a0 a1 = some r) :
  Calls Tryz.prog 140 #[.string a0, .string a1] w fun e w' => e = .returned (.string r) ∧ Below w.heap.size w w' := by
 have HB := Q.a (Below.refl w.heap.size w)
 have H : ((nat_limbs.f k a0).bind fun t230 => ((nat_limbs.f k a1).bind fun t233 => (if 0 ≤ (wrap64 ((t230.length : Int) + (t233.length : Int))) then (if (wrap64 ((t230.length : Int) + (t233.length : Int)) : Int).toNat ≤ 70368744177664 then (nat_Mul.l0 k t230 t233 (List.replicate (wrap64 ((t230.length : Int) + (t233.length : Int)) : Int).toNat 0) (t230.length : Int) 0) else (none)) else (none)))) = some r := h
 clear h
 replace H := Option.bind_eq_some_iff.mp H
 obtain ⟨t230, A30, H⟩ := H
 try dsimp only at H
 have A3 := Q.a A30
 clear A30
 replace H := Option.bind_eq_some_iff.mp H
 obtain ⟨t233, A40, H⟩ := H
 try dsimp only at H
 have A4 := Q.a A40
 clear A40
 obtain ⟨ji5, hji5⟩ : ∃ j_ : Int, (wrap64 ((t230.length : Int) + (t233.length : Int))) = j_ := ⟨_, rfl⟩
 replace H : (if 0 ≤ (ji5) then (if (ji5 : Int).toNat ≤ 70368744177664 then (nat_Mul.l0 k t230 t233 (List.replicate (ji5 : Int).toNat 0) (t230.length : Int) 0) else (none)) else (none)) = some r := by first | (rw [hji5] at H; exact H) | (simp only [hji5] at H ⊢; exact H)
 (try rw [hji5] at A3)
 (try rw [hji5] at A4)
 have hji5w : (IntKind.i64.wrap ((t230.length : Int) + (t233.length : Int))) = ji5 := (aAn _).trans hji5
 by_cases c6 : 0 ≤ (ji5)
 ·rw [if_pos c6] at H
  have c6b0 := eq_true c6
  have c6b1 : decide (0 ≤ (ji5)) = true := decide_eq_true c6
  clear c6
  by_cases c7 : (ji5 : Int).toNat ≤ 70368744177664
  ·rw [if_pos c7] at H
   have c7b0 := eq_true c7
   have c7b1 : decide ((ji5 : Int).toNat ≤ 70368744177664) = true := decide_eq_true c7
   clear c7
   obtain ⟨y236, hy236⟩ : ∃ y_ : List Int, y_ = (List.replicate (ji5 : Int).toNat 0) := ⟨_, rfl⟩
   replace H : (nat_Mul.l0 k t230 t233 y236 (t230.length : Int) 0) = some r := by first | (rw [hy236]; with_reducible exact H) | (have H2_ := (Option.bind_some _ _).symm.trans H; rw [hy236]; with_reducible exact H2_) | (have H2_ := (Option.bind_some _ _).symm.trans H; with_reducible exact H2_) | with_reducible exact H | (rw [hy236]; exact H) | exact H
   have Ny236 := Q.a hy236
   clear hy236
   have H' := Q.a H
   clear H
   go_enter Tryz.func140, Tryz.ntmps140
   go_wp2_with (first | (go_at_call 149; (with_reducible refine (nat_limbs.calls k a0 t230 _ A3.out).mono ?_); rintro e w8 ⟨v231, rfl, ho0, hb⟩; replace HO232 := Q.a (Kd.R_lower ho0 (aAf (Q.bw HB))); replace HB := Q.a (aAb (Q.bw HB) hb); (try clear hb); (try clear ho0)) | (go_at_call 149; (with_reducible refine (nat_limbs.calls k a1 t233 _ A4.out).mono ?_); rintro e w9 ⟨v234, rfl, ho0, hb⟩; replace HO235 := Q.a (Kd.R_lower (Kd.R_new' ho0 (Kd.R_lt (Q.kr HO232))) (aAf (Q.bw HB))); replace HO232 := Q.a (Kd.R_elder' (Q.kr HO232) (Kd.R_base ho0) hb); replace HB := Q.a (aAb (Q.bw HB) hb); (try clear hb); (try clear ho0); obtain ⟨Ao10, co10, eo10⟩ := Kd.R_slice HO232.out; subst eo10; obtain ⟨Ao11, co11, eo11⟩ := Kd.R_slice HO235.out; subst eo11) | ((with_reducible refine aAR (N := 21) rfl ?_); refine Kd.R_make (Kd.int .u32) _ 143 rfl (N := 21) rfl 145 _ _ rfl ji5 rfl rfl Tryz.underlying145 (.int .u32 0) 4 aAC rfl (by decide) (by omega) 0 (ok := fun _ => True) (okp := fun _ => True) rfl (fun _ hk => hk) trivial Q.od (Nat.le_trans (Nat.mul_le_mul_right _ (of_decide_eq_true (by first | (with_reducible assumption) | assumption) : ji5.toNat ≤ 70368744177664)) (by omega)) (Below.refl _ _) (Nat.le_refl _) ?_; intro v237 w12 ho13 hb hg_ hnew_; clear hg_ hnew_; (first | rw [← Ny236.out] at ho13 | (simp only [Int.reduceToNat] at ho13; rw [← Ny236.out] at ho13)); replace HO238 := Q.a (Kd.R_lower (Kd.R_new' (Kd.R_new' ho13 (Kd.R_lt (Q.kr HO232))) (Kd.R_lt (Q.kr HO235))) (aAf (Q.bw HB))); replace HO232 := Q.a (Kd.R_elder' (Q.kr HO232) (Kd.R_base ho13) hb); replace HO235 := Q.a (Kd.R_elder' (Q.kr HO235) (Kd.R_base ho13) hb); replace HB := Q.a (aAb (Q.bw HB) hb); clear hb ho13))
   repeat (go_quiet (first | (go_at_call 149; (with_reducible refine (nat_limbs.calls k a0 t230 _ A3.out).mono ?_); rintro e w8 ⟨v231, rfl, ho0, hb⟩; replace HO232 := Q.a (Kd.R_lower ho0 (aAf (Q.bw HB))); replace HB := Q.a (aAb (Q.bw HB) hb); (try clear hb); (try clear ho0)) | (go_at_call 149; (with_reducible refine (nat_limbs.calls k a1 t233 _ A4.out).mono ?_); rintro e w9 ⟨v234, rfl, ho0, hb⟩; replace HO235 := Q.a (Kd.R_lower (Kd.R_new' ho0 (Kd.R_lt (Q.kr HO232))) (aAf (Q.bw HB))); replace HO232 := Q.a (Kd.R_elder' (Q.kr HO232) (Kd.R_base ho0) hb); replace HB := Q.a (aAb (Q.bw HB) hb); (try clear hb); (try clear ho0); obtain ⟨Ao10, co10, eo10⟩ := Kd.R_slice HO232.out; subst eo10; obtain ⟨Ao11, co11, eo11⟩ := Kd.R_slice HO235.out; subst eo11) | ((with_reducible refine aAR (N := 21) rfl ?_); refine Kd.R_make (Kd.int .u32) _ 143 rfl (N := 21) rfl 145 _ _ rfl ji5 rfl rfl Tryz.underlying145 (.int .u32 0) 4 aAC rfl (by decide) (by omega) 0 (ok := fun _ => True) (okp := fun _ => True) rfl (fun _ hk => hk) trivial Q.od (Nat.le_trans (Nat.mul_le_mul_right _ (of_decide_eq_true (by first | (with_reducible assumption) | assumption) : ji5.toNat ≤ 70368744177664)) (by omega)) (Below.refl _ _) (Nat.le_refl _) ?_; intro v237 w12 ho13 hb hg_ hnew_; clear hg_ hnew_; (first | rw [← Ny236.out] at ho13 | (simp only [Int.reduceToNat] at ho13; rw [← Ny236.out] at ho13)); replace HO238 := Q.a (Kd.R_lower (Kd.R_new' (Kd.R_new' ho13 (Kd.R_lt (Q.kr HO232))) (Kd.R_lt (Q.kr HO235))) (aAf (Q.bw HB))); replace HO232 := Q.a (Kd.R_elder' (Q.kr HO232) (Kd.R_base ho13) hb); replace HO235 := Q.a (Kd.R_elder' (Q.kr HO235) (Kd.R_base ho13) hb); replace HB := Q.a (aAb (Q.bw HB) hb); clear hb ho13)); try go_wp2_with (first | (go_at_call 149; (with_reducible refine (nat_limbs.calls k a0 t230 _ A3.out).mono ?_); rintro e w8 ⟨v231, rfl, ho0, hb⟩; replace HO232 := Q.a (Kd.R_lower ho0 (aAf (Q.bw HB))); replace HB := Q.a (aAb (Q.bw HB) hb); (try clear hb); (try clear ho0)) | (go_at_call 149; (with_reducible refine (nat_limbs.calls k a1 t233 _ A4.out).mono ?_); rintro e w9 ⟨v234, rfl, ho0, hb⟩; replace HO235 := Q.a (Kd.R_lower (Kd.R_new' ho0 (Kd.R_lt (Q.kr HO232))) (aAf (Q.bw HB))); replace HO232 := Q.a (Kd.R_elder' (Q.kr HO232) (Kd.R_base ho0) hb); replace HB := Q.a (aAb (Q.bw HB) hb); (try clear hb); (try clear ho0); obtain ⟨Ao10, co10, eo10⟩ := Kd.R_slice HO232.out; subst eo10; obtain ⟨Ao11, co11, eo11⟩ := Kd.R_slice HO235.out; subst eo11) | ((with_reducible refine aAR (N := 21) rfl ?_); refine Kd.R_make (Kd.int .u32) _ 143 rfl (N := 21) rfl 145 _ _ rfl ji5 rfl rfl Tryz.underlying145 (.int .u32 0) 4 aAC rfl (by decide) (by omega) 0 (ok := fun _ => True) (okp := fun _ => True) rfl (fun _ hk => hk) trivial Q.od (Nat.le_trans (Nat.mul_le_mul_right _ (of_decide_eq_true (by first | (with_reducible assumption) | assumption) : ji5.toNat ≤ 70368744177664)) (by omega)) (Below.refl _ _) (Nat.le_refl _) ?_; intro v237 w12 ho13 hb hg_ hnew_; clear hg_ hnew_; (first | rw [← Ny236.out] at ho13 | (simp only [Int.reduceToNat] at ho13; rw [← Ny236.out] at ho13)); replace HO238 := Q.a (Kd.R_lower (Kd.R_new' (Kd.R_new' ho13 (Kd.R_lt (Q.kr HO232))) (Kd.R_lt (Q.kr HO235))) (aAf (Q.bw HB))); replace HO232 := Q.a (Kd.R_elder' (Q.kr HO232) (Kd.R_base ho13) hb); replace HO235 := Q.a (Kd.R_elder' (Q.kr HO235) (Kd.R_base ho13) hb); replace HB := Q.a (aAb (Q.bw HB) hb); clear hb ho13)))
   go_loopg [24] k (fun kq v24 w' => ∃ (x7_1 : List Int) (x24_1 : Int), v24 = .int .i64 x24_1 ∧ Aside0 (nat_Mul.l0 kq t230 t233 x7_1 (t230.length : Int) x24_1 = some r) ∧ Aside0 (kq ≤ k) ∧ Aside0 (Kd.R (Kd.int .u32) 143 w' w.heap.size (fun k_ => some k_ ≠ ((.slice Ao11 t233.length co11) : Value).ownBlock ∧ some k_ ≠ (v237 : Value).ownBlock) (.slice Ao10 t230.length co10) t230) ∧ Aside0 (Kd.R (Kd.int .u32) 143 w' w.heap.size (fun k_ => some k_ ≠ ((.slice Ao10 t230.length co10) : Value).ownBlock ∧ some k_ ≠ (v237 : Value).ownBlock) (.slice Ao11 t233.length co11) t233) ∧ Aside0 (Kd.R (Kd.int .u32) 143 w' w.heap.size (fun k_ => some k_ ≠ ((.slice Ao10 t230.length co10) : Value).ownBlock ∧ some k_ ≠ ((.slice Ao11 t233.length co11) : Value).ownBlock) v237 x7_1) ∧ Aside0 (Below w.heap.size w w'))
   case atStart => exact ⟨(y236), (0), Q.rs, H', ⟨Nat.le_refl _⟩, ⟨by (with_reducible repeat (first | apply Kd.R_alloc | apply Kd.R_drewN | apply Kd.R_drew)); exact Kd.R_mono HO232.out (fun _ hk => ⟨hk.1.2, hk.2⟩)⟩, ⟨by (with_reducible repeat (first | apply Kd.R_alloc | apply Kd.R_drewN | apply Kd.R_drew)); exact Kd.R_mono HO235.out (fun _ hk => ⟨hk.1.2, hk.2⟩)⟩, ⟨by (with_reducible repeat (first | apply Kd.R_alloc | apply Kd.R_drewN | apply Kd.R_drew)); exact Kd.R_mono HO238.out (fun _ hk => ⟨hk.1.2, hk.2⟩)⟩, ⟨Q.bw HB⟩⟩
   case round =>
    clear H'
    try clear c1
    try clear p2
    try clear c6
    try clear c6b0
    try clear c6b1
    try clear p6
    try clear c7
    try clear c7b0
    try clear c7b1
    obtain ⟨x7_1, x24_1, rfl, HA, HK1, HO_5, HO_6, HO_7, HB⟩ := hrel
    cases gk with
    | zero => exact absurd HA.out (by simp [nat_Mul.l0])
    | succ k1 =>
     have H := HA.out
     clear HA
     simp only [nat_Mul.l0] at H
     by_cases c14 : x24_1 < (t230.length : Int)
     ·rw [if_pos c14] at H
      have c14b0 : decide (x24_1 < (t230.length : Int)) = true := decide_eq_true c14
      clear c14
      have H' := Q.a H
      clear H
      go_wp2
      repeat (go_quiet (fail); try go_wp2)
      go_loopg [9, 29] k1 (fun kq v9 v29 w' => ∃ (x7_2 : List Int) (x9_2 : Int) (x29_2 : Int), v9 = .int .u64 x9_2 ∧ v29 = .int .i64 x29_2 ∧ Aside0 (nat_Mul.l1 kq t230 t233 x7_2 x24_1 x9_2 (t230.length : Int) x24_1 (t233.length : Int) x29_2 = some r) ∧ Aside0 (kq ≤ k1) ∧ Aside0 (Kd.R (Kd.int .u32) 143 w' w.heap.size (fun k_ => some k_ ≠ ((.slice Ao11 t233.length co11) : Value).ownBlock ∧ some k_ ≠ (v237 : Value).ownBlock) (.slice Ao10 t230.length co10) t230) ∧ Aside0 (Kd.R (Kd.int .u32) 143 w' w.heap.size (fun k_ => some k_ ≠ ((.slice Ao10 t230.length co10) : Value).ownBlock ∧ some k_ ≠ (v237 : Value).ownBlock) (.slice Ao11 t233.length co11) t233) ∧ Aside0 (Kd.R (Kd.int .u32) 143 w' w.heap.size (fun k_ => some k_ ≠ ((.slice Ao10 t230.length co10) : Value).ownBlock ∧ some k_ ≠ ((.slice Ao11 t233.length co11) : Value).ownBlock) v237 x7_2) ∧ Aside0 (Below w.heap.size w w'))
      case atStart => exact ⟨(x7_1), (0), (0), Q.rs, Q.rs, H', ⟨Nat.le_refl _⟩, ⟨Q.kr HO_5⟩, ⟨Q.kr HO_6⟩, ⟨Q.kr HO_7⟩, ⟨Q.bw HB⟩⟩
      case round =>
       clear H'
       try clear c1
       try clear p2
       try clear c6
       try clear c6b0
       try clear c6b1
       try clear p6
       try clear c7
       try clear c7b0
       try clear c7b1
       try clear c14
       try clear c14b0
       try clear p2
       try clear p6
       obtain ⟨x7_2, x9_2, x29_2, rfl, rfl, HA, HK2, HO_5, HO_6, HO_7, HB⟩ := hrel
       cases gk with
       | zero => exact absurd HA.out (by simp [nat_Mul.l1])
       | succ k2 =>
        have H := HA.out
        clear HA
        simp only [nat_Mul.l1] at H
        by_cases c15 : x29_2 < (t233.length : Int)
        ·rw [if_pos c15] at H
         have c15b0 : decide (x29_2 < (t233.length : Int)) = true := decide_eq_true c15
         clear c15
         by_cases c16 : 0 ≤ x24_1
         ·rw [if_pos c16] at H
          have c16b0 : decide (0 ≤ x24_1) = true := decide_eq_true c16
          clear c16
          by_cases c17 : x24_1 < (t230.length : Int)
          ·rw [if_pos c17] at H
           have c17b0 : decide (x24_1 < (t230.length : Int)) = true := decide_eq_true c17
           clear c17
           by_cases c18 : 0 ≤ x29_2
           ·rw [if_pos c18] at H
            have c18b0 : decide (0 ≤ x29_2) = true := decide_eq_true c18
            clear c18
            by_cases c19 : x29_2 < (t233.length : Int)
            ·rw [if_pos c19] at H
             have c19b0 : decide (x29_2 < (t233.length : Int)) = true := decide_eq_true c19
             clear c19
             obtain ⟨ji20, hji20⟩ : ∃ j_ : Int, (wrap64 (x24_1 + x29_2)) = j_ := ⟨_, rfl⟩
             replace H : (if 0 ≤ (ji20) then (if (ji20) < (x7_2.length : Int) then (nat_Mul.l1 k2 t230 t233 (x7_2.set ((ji20) : Int).toNat ((IntKind.u64.wrap ((IntKind.u64.wrap ((IntKind.u64.wrap ((IntKind.u64.wrap (rd t230 x24_1)) * (IntKind.u64.wrap (rd t233 x29_2)))) + (IntKind.u64.wrap (rd x7_2 (ji20))))) + x9_2)) % 4294967296)) x24_1 ((IntKind.u64.wrap ((IntKind.u64.wrap ((IntKind.u64.wrap ((IntKind.u64.wrap (rd t230 x24_1)) * (IntKind.u64.wrap (rd t233 x29_2)))) + (IntKind.u64.wrap (rd x7_2 (ji20))))) + x9_2)) / 4294967296) (t230.length : Int) x24_1 (t233.length : Int) (wrap64 (x29_2 + 1))) else (none)) else (none)) = some r := by first | (rw [hji20] at H; exact H) | (simp only [hji20] at H ⊢; exact H)
             have hji20w : (IntKind.i64.wrap (x24_1 + x29_2)) = ji20 := (aAn _).trans hji20
             by_cases c21 : 0 ≤ (ji20)
             ·rw [if_pos c21] at H
              have c21b0 : decide (0 ≤ (ji20)) = true := decide_eq_true c21
              clear c21
              by_cases c22 : (ji20) < (x7_2.length : Int)
              ·rw [if_pos c22] at H
               have c22b0 : decide ((ji20) < (x7_2.length : Int)) = true := decide_eq_true c22
               clear c22
               obtain ⟨y243, hy243⟩ : ∃ y_ : List Int, y_ = (x7_2.set ((ji20) : Int).toNat ((IntKind.u64.wrap ((IntKind.u64.wrap ((IntKind.u64.wrap ((IntKind.u64.wrap (rd t230 x24_1)) * (IntKind.u64.wrap (rd t233 x29_2)))) + (IntKind.u64.wrap (rd x7_2 (ji20))))) + x9_2)) % 4294967296)) := ⟨_, rfl⟩
               replace H : (nat_Mul.l1 k2 t230 t233 y243 x24_1 ((IntKind.u64.wrap ((IntKind.u64.wrap ((IntKind.u64.wrap ((IntKind.u64.wrap (rd t230 x24_1)) * (IntKind.u64.wrap (rd t233 x29_2)))) + (IntKind.u64.wrap (rd x7_2 (ji20))))) + x9_2)) / 4294967296) (t230.length : Int) x24_1 (t233.length : Int) (wrap64 (x29_2 + 1))) = some r := by first | (rw [hy243]; with_reducible exact H) | (have H2_ := (Option.bind_some _ _).symm.trans H; rw [hy243]; with_reducible exact H2_) | (have H2_ := (Option.bind_some _ _).symm.trans H; with_reducible exact H2_) | with_reducible exact H | (rw [hy243]; exact H) | exact H
               have Ny243 := Q.a hy243
               clear hy243
               have H' := Q.a H
               clear H
               have p240 : 0 ≤ (x24_1 : Int) := of_decide_eq_true (by first | (with_reducible assumption) | assumption)
               have q240 : x24_1 < (t230.length : Int) := of_decide_eq_true (by first | (with_reducible assumption) | assumption)
               obtain ⟨ad240, e240, hx240_0⟩ := Kd.at_int (Kd.R_reads' HO_5.out).2.2 x24_1 p240 q240
               cases e240
               replace p240 := eq_true p240
               replace q240 := eq_true q240
               have p241 : 0 ≤ (x29_2 : Int) := of_decide_eq_true (by first | (with_reducible assumption) | assumption)
               have q241 : x29_2 < (t233.length : Int) := of_decide_eq_true (by first | (with_reducible assumption) | assumption)
               obtain ⟨ad241, e241, hx241_0⟩ := Kd.at_int (Kd.R_reads' HO_6.out).2.2 x29_2 p241 q241
               cases e241
               replace p241 := eq_true p241
               replace q241 := eq_true q241
               obtain ⟨Ao24, co24, eo24⟩ := Kd.R_slice HO_7.out
               subst eo24
               have p242 : 0 ≤ ((ji20) : Int) := of_decide_eq_true (by first | (with_reducible assumption) | assumption)
               have q242 : (ji20) < (x7_2.length : Int) := of_decide_eq_true (by first | (with_reducible assumption) | assumption)
               obtain ⟨ad242, e242, hx242_0⟩ := Kd.at_int (Kd.R_reads' HO_7.out).2.2 (ji20) p242 q242
               cases e242
               replace p242 := eq_true p242
               replace q242 := eq_true q242
               have p23 : 0 ≤ ((ji20) : Int) := of_decide_eq_true (by first | (with_reducible assumption) | assumption)
               have q23 : ((ji20) : Int) < ((x7_2.length : Int) : Int) := of_decide_eq_true (by first | (with_reducible assumption) | assumption)
               obtain ⟨go23, co23, eo23, gb23, gl23, cl23, HG23⟩ := Kd.R_form HO_7.out (by omega)
               (first | cases eo23 | (injection eo23 with ea_ en_ ec_; (first | subst ea_ | (injection ea_ with ea_; subst ea_)); subst ec_; clear en_))
               have GB23 := Q.a gb23
               have GG23 := Q.a HG23
               clear gb23 gl23 HG23
               (first | simp only [add_plain] at hx242_0 | skip)
               obtain ⟨hx23_0, hf23_0⟩ := Kd.R_celln 0 HO_7.out ((ji20) : Int) p23 q23
               replace p23 := eq_true p23
               replace q23 := eq_true q23
               have HP25 := Kd.R_putg HO_7.out ((ji20) : Int) ((IntKind.u64.wrap ((IntKind.u64.wrap ((IntKind.u64.wrap ((IntKind.u64.wrap (rd t230 x24_1)) * (IntKind.u64.wrap (rd t233 x29_2)))) + (IntKind.u64.wrap (rd x7_2 (ji20))))) + x9_2)) % 4294967296)
               go_wp2_with (first | ((with_reducible refine aAl (t := 143) (p := 61) rfl ?_); (try (rw [aAq wr]; generalize hq_ : World.drewN wr _ = wr; have n0_ := Q.a (Kd.R_at hq_ HO_5.out); have n1_ := Q.a (Kd.R_at hq_ HO_6.out); have n2_ := Q.a (Kd.R_at hq_ HO_7.out); have n3_ := Q.a (aAD hq_ HB.out); clear hq_ HO_5 HO_6 HO_7 HB; have HO_5 := n0_; have HO_6 := n1_; have HO_7 := n2_; have HB := n3_; clear n0_ n1_ n2_ n3_; (try (obtain ⟨hx23_0, hf23_0⟩ := Kd.R_celln 0 HO_7.out ((ji20) : Int) (of_eq_true p23) (of_eq_true q23))); (try (have HP25 := Kd.R_putg HO_7.out ((ji20) : Int) ((IntKind.u64.wrap ((IntKind.u64.wrap ((IntKind.u64.wrap ((IntKind.u64.wrap (rd t230 x24_1)) * (IntKind.u64.wrap (rd t233 x29_2)))) + (IntKind.u64.wrap (rd x7_2 (ji20))))) + x9_2)) % 4294967296))))); refine aAh (t := 143) (p := 61) (v := ?vo_w26) (w1 := (wr.setCell ⟨go23, ((ji20) : Int).toNat, none⟩ (.int .u32 ((IntKind.u64.wrap ((IntKind.u64.wrap ((IntKind.u64.wrap ((IntKind.u64.wrap (rd t230 x24_1)) * (IntKind.u64.wrap (rd t233 x29_2)))) + (IntKind.u64.wrap (rd x7_2 (ji20))))) + x9_2)) % 4294967296)))) ?hg ?ho ?hn ?hr ?_; (case ho => rfl); (case hg => rfl); (case hn => rfl); (case hr => first | (go_simp; done) | (go_simp; rfl)); intro w26 hw; have hg : wr.grownBy w26 (some go23) := (by rw [hw]; exact HP25.2); have hp_ : Kd.R (Kd.int .u32) 143 w26 w.heap.size (fun k_ => some k_ ≠ (.slice (some ad240) t230.length co10 : Value).ownBlock ∧ some k_ ≠ (.slice (some ad241) t233.length co11 : Value).ownBlock) (.slice (some ⟨go23, 0, none⟩) x7_2.length co24) y243 := (by rw [hw, Ny243.out]; exact HP25.1); clear HP25; replace HO_5 := Q.a (Kd.R_after (v := (.slice (some ⟨go23, 0, none⟩) x7_2.length co24)) (v1 := (.slice (some ⟨go23, 0, none⟩) x7_2.length co24)) (ok := (fun k_ => some k_ ≠ (.slice (some ad241) t233.length co11 : Value).ownBlock)) (Q.kr HO_5) hg (.inl rfl)); replace HO_6 := Q.a (Kd.R_after (v := (.slice (some ⟨go23, 0, none⟩) x7_2.length co24)) (v1 := (.slice (some ⟨go23, 0, none⟩) x7_2.length co24)) (ok := (fun k_ => some k_ ≠ (.slice (some ad240) t230.length co10 : Value).ownBlock)) (Q.kr HO_6) hg (.inl rfl)); replace HO_7 := Q.a (hp_); replace HB := Q.a ((by rw [hw]; exact aAo (HB.out) GB23.out : Below w.heap.size w w26)); clear hg hw hp_))
               repeat (go_quiet (first | ((with_reducible refine aAl (t := 143) (p := 61) rfl ?_); (try (rw [aAq wr]; generalize hq_ : World.drewN wr _ = wr; have n0_ := Q.a (Kd.R_at hq_ HO_5.out); have n1_ := Q.a (Kd.R_at hq_ HO_6.out); have n2_ := Q.a (Kd.R_at hq_ HO_7.out); have n3_ := Q.a (aAD hq_ HB.out); clear hq_ HO_5 HO_6 HO_7 HB; have HO_5 := n0_; have HO_6 := n1_; have HO_7 := n2_; have HB := n3_; clear n0_ n1_ n2_ n3_; (try (obtain ⟨hx23_0, hf23_0⟩ := Kd.R_celln 0 HO_7.out ((ji20) : Int) (of_eq_true p23) (of_eq_true q23))); (try (have HP25 := Kd.R_putg HO_7.out ((ji20) : Int) ((IntKind.u64.wrap ((IntKind.u64.wrap ((IntKind.u64.wrap ((IntKind.u64.wrap (rd t230 x24_1)) * (IntKind.u64.wrap (rd t233 x29_2)))) + (IntKind.u64.wrap (rd x7_2 (ji20))))) + x9_2)) % 4294967296))))); refine aAh (t := 143) (p := 61) (v := ?vo_w26) (w1 := (wr.setCell ⟨go23, ((ji20) : Int).toNat, none⟩ (.int .u32 ((IntKind.u64.wrap ((IntKind.u64.wrap ((IntKind.u64.wrap ((IntKind.u64.wrap (rd t230 x24_1)) * (IntKind.u64.wrap (rd t233 x29_2)))) + (IntKind.u64.wrap (rd x7_2 (ji20))))) + x9_2)) % 4294967296)))) ?hg ?ho ?hn ?hr ?_; (case ho => rfl); (case hg => rfl); (case hn => rfl); (case hr => first | (go_simp; done) | (go_simp; rfl)); intro w26 hw; have hg : wr.grownBy w26 (some go23) := (by rw [hw]; exact HP25.2); have hp_ : Kd.R (Kd.int .u32) 143 w26 w.heap.size (fun k_ => some k_ ≠ (.slice (some ad240) t230.length co10 : Value).ownBlock ∧ some k_ ≠ (.slice (some ad241) t233.length co11 : Value).ownBlock) (.slice (some ⟨go23, 0, none⟩) x7_2.length co24) y243 := (by rw [hw, Ny243.out]; exact HP25.1); clear HP25; replace HO_5 := Q.a (Kd.R_after (v := (.slice (some ⟨go23, 0, none⟩) x7_2.length co24)) (v1 := (.slice (some ⟨go23, 0, none⟩) x7_2.length co24)) (ok := (fun k_ => some k_ ≠ (.slice (some ad241) t233.length co11 : Value).ownBlock)) (Q.kr HO_5) hg (.inl rfl)); replace HO_6 := Q.a (Kd.R_after (v := (.slice (some ⟨go23, 0, none⟩) x7_2.length co24)) (v1 := (.slice (some ⟨go23, 0, none⟩) x7_2.length co24)) (ok := (fun k_ => some k_ ≠ (.slice (some ad240) t230.length co10 : Value).ownBlock)) (Q.kr HO_6) hg (.inl rfl)); replace HO_7 := Q.a (hp_); replace HB := Q.a ((by rw [hw]; exact aAo (HB.out) GB23.out : Below w.heap.size w w26)); clear hg hw hp_)); try go_wp2_with (first | ((with_reducible refine aAl (t := 143) (p := 61) rfl ?_); (try (rw [aAq wr]; generalize hq_ : World.drewN wr _ = wr; have n0_ := Q.a (Kd.R_at hq_ HO_5.out); have n1_ := Q.a (Kd.R_at hq_ HO_6.out); have n2_ := Q.a (Kd.R_at hq_ HO_7.out); have n3_ := Q.a (aAD hq_ HB.out); clear hq_ HO_5 HO_6 HO_7 HB; have HO_5 := n0_; have HO_6 := n1_; have HO_7 := n2_; have HB := n3_; clear n0_ n1_ n2_ n3_; (try (obtain ⟨hx23_0, hf23_0⟩ := Kd.R_celln 0 HO_7.out ((ji20) : Int) (of_eq_true p23) (of_eq_true q23))); (try (have HP25 := Kd.R_putg HO_7.out ((ji20) : Int) ((IntKind.u64.wrap ((IntKind.u64.wrap ((IntKind.u64.wrap ((IntKind.u64.wrap (rd t230 x24_1)) * (IntKind.u64.wrap (rd t233 x29_2)))) + (IntKind.u64.wrap (rd x7_2 (ji20))))) + x9_2)) % 4294967296))))); refine aAh (t := 143) (p := 61) (v := ?vo_w26) (w1 := (wr.setCell ⟨go23, ((ji20) : Int).toNat, none⟩ (.int .u32 ((IntKind.u64.wrap ((IntKind.u64.wrap ((IntKind.u64.wrap ((IntKind.u64.wrap (rd t230 x24_1)) * (IntKind.u64.wrap (rd t233 x29_2)))) + (IntKind.u64.wrap (rd x7_2 (ji20))))) + x9_2)) % 4294967296)))) ?hg ?ho ?hn ?hr ?_; (case ho => rfl); (case hg => rfl); (case hn => rfl); (case hr => first | (go_simp; done) | (go_simp; rfl)); intro w26 hw; have hg : wr.grownBy w26 (some go23) := (by rw [hw]; exact HP25.2); have hp_ : Kd.R (Kd.int .u32) 143 w26 w.heap.size (fun k_ => some k_ ≠ (.slice (some ad240) t230.length co10 : Value).ownBlock ∧ some k_ ≠ (.slice (some ad241) t233.length co11 : Value).ownBlock) (.slice (some ⟨go23, 0, none⟩) x7_2.length co24) y243 := (by rw [hw, Ny243.out]; exact HP25.1); clear HP25; replace HO_5 := Q.a (Kd.R_after (v := (.slice (some ⟨go23, 0, none⟩) x7_2.length co24)) (v1 := (.slice (some ⟨go23, 0, none⟩) x7_2.length co24)) (ok := (fun k_ => some k_ ≠ (.slice (some ad241) t233.length co11 : Value).ownBlock)) (Q.kr HO_5) hg (.inl rfl)); replace HO_6 := Q.a (Kd.R_after (v := (.slice (some ⟨go23, 0, none⟩) x7_2.length co24)) (v1 := (.slice (some ⟨go23, 0, none⟩) x7_2.length co24)) (ok := (fun k_ => some k_ ≠ (.slice (some ad240) t230.length co10 : Value).ownBlock)) (Q.kr HO_6) hg (.inl rfl)); replace HO_7 := Q.a (hp_); replace HB := Q.a ((by rw [hw]; exact aAo (HB.out) GB23.out : Below w.heap.size w w26)); clear hg hw hp_)))
               go_roundg k2
               case measure => have := HK1.out; have := HK2.out; omega
               case rel => exact ⟨(y243), ((IntKind.u64.wrap ((IntKind.u64.wrap ((IntKind.u64.wrap ((IntKind.u64.wrap (rd t230 x24_1)) * (IntKind.u64.wrap (rd t233 x29_2)))) + (IntKind.u64.wrap (rd x7_2 (ji20))))) + x9_2)) / 4294967296), (wrap64 (x29_2 + 1)), (by first | rfl | (simp; done) | (simp only [← hji20] <;> (first | rfl | simp)) | (simp [*]; done)), Q.rs, H', ⟨by have := HK1.out; have := HK2.out; omega⟩, ⟨Q.kr HO_5⟩, ⟨Q.kr HO_6⟩, ⟨Q.kr HO_7⟩, ⟨Q.bw HB⟩⟩
              ·rw [if_neg c22] at H
               exact absurd H (by simp)
             ·rw [if_neg c21] at H
              exact absurd H (by simp)
            ·rw [if_neg c19] at H
             exact absurd H (by simp)
           ·rw [if_neg c18] at H
            exact absurd H (by simp)
          ·rw [if_neg c17] at H
           exact absurd H (by simp)
         ·rw [if_neg c16] at H
          exact absurd H (by simp)
        ·rw [if_neg c15] at H
         have c15b0 : decide (x29_2 < (t233.length : Int)) = false := decide_eq_false c15
         clear c15
         obtain ⟨ji27, hji27⟩ : ∃ j_ : Int, (wrap64 (x24_1 + (t233.length : Int))) = j_ := ⟨_, rfl⟩
         replace H : (if 0 ≤ (ji27) then (if (ji27) < (x7_2.length : Int) then (nat_Mul.l0 k2 t230 t233 (x7_2.set ((ji27) : Int).toNat ((x9_2) % 4294967296)) (t230.length : Int) (wrap64 (x24_1 + 1))) else (none)) else (none)) = some r := by first | (rw [hji27] at H; exact H) | (simp only [hji27] at H ⊢; exact H)
         have hji27w : (IntKind.i64.wrap (x24_1 + (t233.length : Int))) = ji27 := (aAn _).trans hji27
         by_cases c28 : 0 ≤ (ji27)
         ·rw [if_pos c28] at H
          have c28b0 : decide (0 ≤ (ji27)) = true := decide_eq_true c28
          clear c28
          by_cases c29 : (ji27) < (x7_2.length : Int)
          ·rw [if_pos c29] at H
           have c29b0 : decide ((ji27) < (x7_2.length : Int)) = true := decide_eq_true c29
           clear c29
           obtain ⟨y244, hy244⟩ : ∃ y_ : List Int, y_ = (x7_2.set ((ji27) : Int).toNat ((x9_2) % 4294967296)) := ⟨_, rfl⟩
           replace H : (nat_Mul.l0 k2 t230 t233 y244 (t230.length : Int) (wrap64 (x24_1 + 1))) = some r := by first | (rw [hy244]; with_reducible exact H) | (have H2_ := (Option.bind_some _ _).symm.trans H; rw [hy244]; with_reducible exact H2_) | (have H2_ := (Option.bind_some _ _).symm.trans H; with_reducible exact H2_) | with_reducible exact H | (rw [hy244]; exact H) | exact H
           have Ny244 := Q.a hy244
           clear hy244
           have H' := Q.a H
           clear H
           have p30 : 0 ≤ ((ji27) : Int) := of_decide_eq_true (by first | (with_reducible assumption) | assumption)
           have q30 : ((ji27) : Int) < ((x7_2.length : Int) : Int) := of_decide_eq_true (by first | (with_reducible assumption) | assumption)
           obtain ⟨go30, co30, eo30, gb30, gl30, cl30, HG30⟩ := Kd.R_form HO_7.out (by omega)
           (first | cases eo30 | (injection eo30 with ea_ en_ ec_; (first | subst ea_ | (injection ea_ with ea_; subst ea_)); subst ec_; clear en_))
           have GB30 := Q.a gb30
           have GG30 := Q.a HG30
           clear gb30 gl30 HG30
           obtain ⟨hx30_0, hf30_0⟩ := Kd.R_celln 0 HO_7.out ((ji27) : Int) p30 q30
           replace p30 := eq_true p30
           replace q30 := eq_true q30
           have HP31 := Kd.R_putg HO_7.out ((ji27) : Int) ((x9_2) % 4294967296)
           go_wp2_with (first | ((with_reducible refine aAl (t := 143) (p := 70) rfl ?_); (try (rw [aAq wr]; generalize hq_ : World.drewN wr _ = wr; have n0_ := Q.a (Kd.R_at hq_ HO_5.out); have n1_ := Q.a (Kd.R_at hq_ HO_6.out); have n2_ := Q.a (Kd.R_at hq_ HO_7.out); have n3_ := Q.a (aAD hq_ HB.out); clear hq_ HO_5 HO_6 HO_7 HB; have HO_5 := n0_; have HO_6 := n1_; have HO_7 := n2_; have HB := n3_; clear n0_ n1_ n2_ n3_; (try (obtain ⟨hx30_0, hf30_0⟩ := Kd.R_celln 0 HO_7.out ((ji27) : Int) (of_eq_true p30) (of_eq_true q30))); (try (have HP31 := Kd.R_putg HO_7.out ((ji27) : Int) ((x9_2) % 4294967296))))); refine aAh (t := 143) (p := 70) (v := ?vo_w32) (w1 := (wr.setCell ⟨go30, ((ji27) : Int).toNat, none⟩ (.int .u32 ((x9_2) % 4294967296)))) ?hg ?ho ?hn ?hr ?_; (case ho => rfl); (case hg => rfl); (case hn => rfl); (case hr => first | (go_simp; done) | (go_simp; rfl)); intro w32 hw; have hg : wr.grownBy w32 (some go30) := (by rw [hw]; exact HP31.2); have hp_ : Kd.R (Kd.int .u32) 143 w32 w.heap.size (fun k_ => some k_ ≠ (.slice Ao10 t230.length co10 : Value).ownBlock ∧ some k_ ≠ (.slice Ao11 t233.length co11 : Value).ownBlock) (.slice (some ⟨go30, 0, none⟩) x7_2.length co30) y244 := (by rw [hw, Ny244.out]; exact HP31.1); clear HP31; replace HO_5 := Q.a (Kd.R_after (v := (.slice (some ⟨go30, 0, none⟩) x7_2.length co30)) (v1 := (.slice (some ⟨go30, 0, none⟩) x7_2.length co30)) (ok := (fun k_ => some k_ ≠ (.slice Ao11 t233.length co11 : Value).ownBlock)) (Q.kr HO_5) hg (.inl rfl)); replace HO_6 := Q.a (Kd.R_after (v := (.slice (some ⟨go30, 0, none⟩) x7_2.length co30)) (v1 := (.slice (some ⟨go30, 0, none⟩) x7_2.length co30)) (ok := (fun k_ => some k_ ≠ (.slice Ao10 t230.length co10 : Value).ownBlock)) (Q.kr HO_6) hg (.inl rfl)); replace HO_7 := Q.a (hp_); replace HB := Q.a ((by rw [hw]; exact aAo (HB.out) GB30.out : Below w.heap.size w w32)); clear hg hw hp_))
           repeat (go_quiet (first | ((with_reducible refine aAl (t := 143) (p := 70) rfl ?_); (try (rw [aAq wr]; generalize hq_ : World.drewN wr _ = wr; have n0_ := Q.a (Kd.R_at hq_ HO_5.out); have n1_ := Q.a (Kd.R_at hq_ HO_6.out); have n2_ := Q.a (Kd.R_at hq_ HO_7.out); have n3_ := Q.a (aAD hq_ HB.out); clear hq_ HO_5 HO_6 HO_7 HB; have HO_5 := n0_; have HO_6 := n1_; have HO_7 := n2_; have HB := n3_; clear n0_ n1_ n2_ n3_; (try (obtain ⟨hx30_0, hf30_0⟩ := Kd.R_celln 0 HO_7.out ((ji27) : Int) (of_eq_true p30) (of_eq_true q30))); (try (have HP31 := Kd.R_putg HO_7.out ((ji27) : Int) ((x9_2) % 4294967296))))); refine aAh (t := 143) (p := 70) (v := ?vo_w32) (w1 := (wr.setCell ⟨go30, ((ji27) : Int).toNat, none⟩ (.int .u32 ((x9_2) % 4294967296)))) ?hg ?ho ?hn ?hr ?_; (case ho => rfl); (case hg => rfl); (case hn => rfl); (case hr => first | (go_simp; done) | (go_simp; rfl)); intro w32 hw; have hg : wr.grownBy w32 (some go30) := (by rw [hw]; exact HP31.2); have hp_ : Kd.R (Kd.int .u32) 143 w32 w.heap.size (fun k_ => some k_ ≠ (.slice Ao10 t230.length co10 : Value).ownBlock ∧ some k_ ≠ (.slice Ao11 t233.length co11 : Value).ownBlock) (.slice (some ⟨go30, 0, none⟩) x7_2.length co30) y244 := (by rw [hw, Ny244.out]; exact HP31.1); clear HP31; replace HO_5 := Q.a (Kd.R_after (v := (.slice (some ⟨go30, 0, none⟩) x7_2.length co30)) (v1 := (.slice (some ⟨go30, 0, none⟩) x7_2.length co30)) (ok := (fun k_ => some k_ ≠ (.slice Ao11 t233.length co11 : Value).ownBlock)) (Q.kr HO_5) hg (.inl rfl)); replace HO_6 := Q.a (Kd.R_after (v := (.slice (some ⟨go30, 0, none⟩) x7_2.length co30)) (v1 := (.slice (some ⟨go30, 0, none⟩) x7_2.length co30)) (ok := (fun k_ => some k_ ≠ (.slice Ao10 t230.length co10 : Value).ownBlock)) (Q.kr HO_6) hg (.inl rfl)); replace HO_7 := Q.a (hp_); replace HB := Q.a ((by rw [hw]; exact aAo (HB.out) GB30.out : Below w.heap.size w w32)); clear hg hw hp_)); try go_wp2_with (first | ((with_reducible refine aAl (t := 143) (p := 70) rfl ?_); (try (rw [aAq wr]; generalize hq_ : World.drewN wr _ = wr; have n0_ := Q.a (Kd.R_at hq_ HO_5.out); have n1_ := Q.a (Kd.R_at hq_ HO_6.out); have n2_ := Q.a (Kd.R_at hq_ HO_7.out); have n3_ := Q.a (aAD hq_ HB.out); clear hq_ HO_5 HO_6 HO_7 HB; have HO_5 := n0_; have HO_6 := n1_; have HO_7 := n2_; have HB := n3_; clear n0_ n1_ n2_ n3_; (try (obtain ⟨hx30_0, hf30_0⟩ := Kd.R_celln 0 HO_7.out ((ji27) : Int) (of_eq_true p30) (of_eq_true q30))); (try (have HP31 := Kd.R_putg HO_7.out ((ji27) : Int) ((x9_2) % 4294967296))))); refine aAh (t := 143) (p := 70) (v := ?vo_w32) (w1 := (wr.setCell ⟨go30, ((ji27) : Int).toNat, none⟩ (.int .u32 ((x9_2) % 4294967296)))) ?hg ?ho ?hn ?hr ?_; (case ho => rfl); (case hg => rfl); (case hn => rfl); (case hr => first | (go_simp; done) | (go_simp; rfl)); intro w32 hw; have hg : wr.grownBy w32 (some go30) := (by rw [hw]; exact HP31.2); have hp_ : Kd.R (Kd.int .u32) 143 w32 w.heap.size (fun k_ => some k_ ≠ (.slice Ao10 t230.length co10 : Value).ownBlock ∧ some k_ ≠ (.slice Ao11 t233.length co11 : Value).ownBlock) (.slice (some ⟨go30, 0, none⟩) x7_2.length co30) y244 := (by rw [hw, Ny244.out]; exact HP31.1); clear HP31; replace HO_5 := Q.a (Kd.R_after (v := (.slice (some ⟨go30, 0, none⟩) x7_2.length co30)) (v1 := (.slice (some ⟨go30, 0, none⟩) x7_2.length co30)) (ok := (fun k_ => some k_ ≠ (.slice Ao11 t233.length co11 : Value).ownBlock)) (Q.kr HO_5) hg (.inl rfl)); replace HO_6 := Q.a (Kd.R_after (v := (.slice (some ⟨go30, 0, none⟩) x7_2.length co30)) (v1 := (.slice (some ⟨go30, 0, none⟩) x7_2.length co30)) (ok := (fun k_ => some k_ ≠ (.slice Ao10 t230.length co10 : Value).ownBlock)) (Q.kr HO_6) hg (.inl rfl)); replace HO_7 := Q.a (hp_); replace HB := Q.a ((by rw [hw]; exact aAo (HB.out) GB30.out : Below w.heap.size w w32)); clear hg hw hp_)))
           go_roundg k2
           case measure => have := HK1.out; have := HK2.out; omega
           case rel => exact ⟨(y244), (wrap64 (x24_1 + 1)), Q.rs, H', ⟨by have := HK1.out; have := HK2.out; omega⟩, ⟨Q.kr HO_5⟩, ⟨Q.kr HO_6⟩, ⟨Q.kr HO_7⟩, ⟨Q.bw HB⟩⟩
          ·rw [if_neg c29] at H
           exact absurd H (by simp)
         ·rw [if_neg c28] at H
          exact absurd H (by simp)
     ·rw [if_neg c14] at H
      have c14b0 : decide (x24_1 < (t230.length : Int)) = false := decide_eq_false c14
      clear c14
      replace H := Option.bind_eq_some_iff.mp H
      obtain ⟨t239, A330, H⟩ := H
      try dsimp only at H
      have A33 := Q.a A330
      clear A330
      obtain rfl := Option.some.inj H
      obtain ⟨Ao34, co34, eo34⟩ := Kd.R_slice HO_7.out
      subst eo34
      go_wp2_with (first | (go_at_call 147; (with_reducible refine (nat_mag.calls k1 _ _ x7_1 t239 _ ?side1 ?side2 A33.out).mono ?_); (case side1 => repeat (first | exact (Kd.R_reads' HO_7.out).2.2 | (with_reducible refine Kd.C_alloc ?_ _) | (with_reducible refine Kd.C_drewN ?_ _) | (with_reducible refine Kd.C_drew ?_))); (case side2 => exact (Kd.R_reads' HO_7.out).2.1); rintro e w35 ⟨rfl, hb⟩; replace HO_5 := Q.a (Kd.R_below (Q.kr HO_5) hb); replace HO_6 := Q.a (Kd.R_below (Q.kr HO_6) hb); replace HO_7 := Q.a (Kd.R_below (Q.kr HO_7) hb); replace HB := Q.a (aAb (Q.bw HB) hb); (try clear hb)))
      repeat (go_quiet (first | (go_at_call 147; (with_reducible refine (nat_mag.calls k1 _ _ x7_1 t239 _ ?side1 ?side2 A33.out).mono ?_); (case side1 => repeat (first | exact (Kd.R_reads' HO_7.out).2.2 | (with_reducible refine Kd.C_alloc ?_ _) | (with_reducible refine Kd.C_drewN ?_ _) | (with_reducible refine Kd.C_drew ?_))); (case side2 => exact (Kd.R_reads' HO_7.out).2.1); rintro e w35 ⟨rfl, hb⟩; replace HO_5 := Q.a (Kd.R_below (Q.kr HO_5) hb); replace HO_6 := Q.a (Kd.R_below (Q.kr HO_6) hb); replace HO_7 := Q.a (Kd.R_below (Q.kr HO_7) hb); replace HB := Q.a (aAb (Q.bw HB) hb); (try clear hb))); try go_wp2_with (first | (go_at_call 147; (with_reducible refine (nat_mag.calls k1 _ _ x7_1 t239 _ ?side1 ?side2 A33.out).mono ?_); (case side1 => repeat (first | exact (Kd.R_reads' HO_7.out).2.2 | (with_reducible refine Kd.C_alloc ?_ _) | (with_reducible refine Kd.C_drewN ?_ _) | (with_reducible refine Kd.C_drew ?_))); (case side2 => exact (Kd.R_reads' HO_7.out).2.1); rintro e w35 ⟨rfl, hb⟩; replace HO_5 := Q.a (Kd.R_below (Q.kr HO_5) hb); replace HO_6 := Q.a (Kd.R_below (Q.kr HO_6) hb); replace HO_7 := Q.a (Kd.R_below (Q.kr HO_7) hb); replace HB := Q.a (aAb (Q.bw HB) hb); (try clear hb))))
      go_ret
      exact ⟨by first | rfl | (simp [aAt, aAu] <;> rfl) | (simp only [← hji5]; first | rfl | (simp [aAt, aAu] <;> rfl)) | (simp [*, aAt, aAu] <;> rfl), Q.bw HB⟩
  ·rw [if_neg c7] at H
   exact absurd H (by simp)
 ·rw [if_neg c6] at H
  exact absurd H (by simp)
end Go.Proofs.YtjefbecmeobegaaGreatDoor.P
