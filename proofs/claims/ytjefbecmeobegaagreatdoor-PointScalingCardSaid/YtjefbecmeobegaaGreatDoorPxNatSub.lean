import Derived.Test.YtjefbecmeobegaaGreatDoorPx0
import Derived.Test.YtjefbecmeobegaaGreatDoorPxNA
import Derived.Test.YtjefbecmeobegaaGreatDoorPxNB
import Derived.Test.YtjefbecmeobegaaGreatDoorXQ
namespace Go.Proofs.YtjefbecmeobegaaGreatDoor.P
open Go.RowKit YtjefbecmeobegaaGreatDoorW.PrintWords YtjefbecmeobegaaGreatDoorW.PrintLast YtjefbecmeobegaaGreatDoorW.PrintMore
attribute [local go_sem] aBj aBk aB1 aB2 aAW aAX aBl aBm
attribute [local go_sem] XW.cell_twice
set_option linter.unusedVariables false
set_option linter.unusedSimpArgs false
def nat_Sub.l0 : Nat → List Int → List Int → List Int → Int → Int → Int → Option (ByteArray × Bool)
 | 0, _, _, _, _, _, _ => none
 | k + 1, x6, x7, x8, x9, x24, x25 => if x25 < x24 then (if x25 < (x7.length : Int) then (if 0 ≤ x25 then (if x25 < (x6.length : Int) then ((bits_Sub32.f (rd x6 x25) (rd x7 x25) x9).bind fun bt277 => (if x25 < (x8.length : Int) then (nat_Sub.l0 k x6 x7 (x8.set (x25 : Int).toNat bt277.1) bt277.2 x24 (wrap64 (x25 + 1))) else (none))) else (none)) else (none)) else (if 0 ≤ x25 then (if x25 < (x6.length : Int) then ((bits_Sub32.f (rd x6 x25) 0 x9).bind fun bt281 => (if x25 < (x8.length : Int) then (nat_Sub.l0 k x6 x7 (x8.set (x25 : Int).toNat bt281.1) bt281.2 x24 (wrap64 (x25 + 1))) else (none))) else (none)) else (none))) else ((nat_mag.f k x8).bind fun t284 => (some (t284, true)))
def nat_Sub.f (k : Nat) (a0 : ByteArray) (a1 : ByteArray) : Option (ByteArray × Bool) := (nat_Cmp.f k a0 a1).bind fun t265 => (if t265 < 0 then (some ((⟨#[]⟩ : ByteArray), false)) else ((nat_limbs.f k a0).bind fun t266 => ((nat_limbs.f k a1).bind fun t269 => (if 0 ≤ (t266.length : Int) then (if ((t266.length : Int) : Int).toNat ≤ 70368744177664 then (nat_Sub.l0 k t266 t269 (List.replicate ((t266.length : Int) : Int).toNat 0) 0 (t266.length : Int) 0) else (none)) else (none)))))
theorem nat_Sub.mono_l : ∀ k, (∀ y0 y1 y2 y3 y4 y5, LeO (nat_Sub.l0 k y0 y1 y2 y3 y4 y5) (nat_Sub.l0 (k + 1) y0 y1 y2 y3 y4 y5))
 | 0 => fun _ _ _ _ _ _ r h => by simp [nat_Sub.l0] at h
 | k + 1 => by
  have ih0 := nat_Sub.mono_l k
  ·intro y0 y1 y2 y3 y4 y5
   unfold nat_Sub.l0
   repeat' first
   | (with_reducible exact ih0 _ _ _ _ _ _)
   | (with_reducible exact nat_Cmp.mono _ _ _)
   | (with_reducible exact nat_limbs.mono _ _)
   | (with_reducible exact nat_mag.mono _ _)
   | (with_reducible exact LeO.refl _)
   | (with_reducible exact LeO.none _)
   | (with_reducible refine LeO.ite ?_ ?_)
   | (with_reducible refine LeO.bind ?_ (fun _ => ?_))
   | exact ih0 _ _ _ _ _ _
   | exact nat_Cmp.mono _ _ _
   | exact nat_limbs.mono _ _
   | exact nat_mag.mono _ _
   | exact LeO.none _
   | refine LeO.ite ?_ ?_
   | refine LeO.bind ?_ (fun _ => ?_)
theorem nat_Sub.mono : ∀ a0 a1 k, LeO (nat_Sub.f k a0 a1) (nat_Sub.f (k + 1) a0 a1) := by
 intro a0 a1 k
 have ih0 := nat_Sub.mono_l k
 unfold nat_Sub.f
 repeat' first
   | (with_reducible exact ih0 _ _ _ _ _ _)
   | (with_reducible exact nat_Cmp.mono _ _ _)
   | (with_reducible exact nat_limbs.mono _ _)
   | (with_reducible exact nat_mag.mono _ _)
   | (with_reducible exact LeO.refl _)
   | (with_reducible exact LeO.none _)
   | (with_reducible refine LeO.ite ?_ ?_)
   | (with_reducible refine LeO.bind ?_ (fun _ => ?_))
   | exact ih0 _ _ _ _ _ _
   | exact nat_Cmp.mono _ _ _
   | exact nat_limbs.mono _ _
   | exact nat_mag.mono _ _
   | exact LeO.none _
   | refine LeO.ite ?_ ?_
   | refine LeO.bind ?_ (fun _ => ?_)
set_option maxHeartbeats 8000000 in
set_option maxRecDepth 100000 in
theorem nat_Sub.calls (k : Nat) (a0 : ByteArray) (a1 : ByteArray) (r1 : ByteArray) (r2 : Bool) (w : World) (h : nat_Sub.f k a0 a1 = some (r1, r2)) :
  Calls Tryz.prog 128 #[.string a0, .string a1] w fun e w' => e = .returned (.tuple #[.string r1, .bool r2]) ∧ Below w.heap.size w w' := by
 have HB := Q.a (Below.refl w.heap.size w)
 have H : ((nat_Cmp.f k a0 a1).bind fun t265 => (if t265 < 0 then (some ((⟨#[]⟩ : ByteArray), false)) else ((nat_limbs.f k a0).bind fun t266 => ((nat_limbs.f k a1).bind fun t269 => (if 0 ≤ (t266.length : Int) then (if ((t266.length : Int) : Int).toNat ≤ 70368744177664 then (nat_Sub.l0 k t266 t269 (List.replicate ((t266.length : Int) : Int).toNat 0) 0 (t266.length : Int) 0) else (none)) else (none)))))) = some (r1, r2) := h
 clear h
 replace H := Option.bind_eq_some_iff.mp H
 obtain ⟨t265, A30, H⟩ := H
 try dsimp only at H
 have A3 := Q.a A30
 clear A30
 by_cases c4 : t265 < 0
 ·rw [if_pos c4] at H
  have c4b0 : decide (t265 < 0) = true := decide_eq_true c4
  clear c4
  simp only [Option.some.injEq, Prod.mk.injEq] at H
  obtain ⟨rfl, rfl⟩ := H
  go_enter Tryz.func128, Tryz.ntmps128
  go_wp2_with (first | ((with_reducible refine aAe (f := 150) rfl ?_); refine Q.gl 14 Tryz.func150 #[.string a0, .string a1] rfl rfl rfl rfl ?_; (with_reducible refine (nat_Cmp.calls k a0 a1 t265 _ A3.out).mono ?_); rintro e w5 ⟨rfl, hb⟩; refine ⟨_, rfl, ?_⟩; replace HB := Q.a (aAb (Q.bw HB) hb); (try clear hb)))
  go_ret2
  exact ⟨Q.en, Q.bw HB⟩
 ·rw [if_neg c4] at H
  have c4b0 : decide (t265 < 0) = false := decide_eq_false c4
  clear c4
  replace H := Option.bind_eq_some_iff.mp H
  obtain ⟨t266, A60, H⟩ := H
  try dsimp only at H
  have A6 := Q.a A60
  clear A60
  replace H := Option.bind_eq_some_iff.mp H
  obtain ⟨t269, A70, H⟩ := H
  try dsimp only at H
  have A7 := Q.a A70
  clear A70
  by_cases c8 : 0 ≤ (t266.length : Int)
  ·rw [if_pos c8] at H
   have c8b0 := eq_true c8
   have c8b1 : decide (0 ≤ (t266.length : Int)) = true := decide_eq_true c8
   clear c8
   by_cases c9 : ((t266.length : Int) : Int).toNat ≤ 70368744177664
   ·rw [if_pos c9] at H
    have c9b0 := eq_true c9
    have c9b1 : decide (((t266.length : Int) : Int).toNat ≤ 70368744177664) = true := decide_eq_true c9
    clear c9
    obtain ⟨y272, hy272⟩ : ∃ y_ : List Int, y_ = (List.replicate ((t266.length : Int) : Int).toNat 0) := ⟨_, rfl⟩
    replace H : (nat_Sub.l0 k t266 t269 y272 0 (t266.length : Int) 0) = some (r1, r2) := by first | (rw [hy272]; with_reducible exact H) | (have H2_ := (Option.bind_some _ _).symm.trans H; rw [hy272]; with_reducible exact H2_) | (have H2_ := (Option.bind_some _ _).symm.trans H; with_reducible exact H2_) | with_reducible exact H | (rw [hy272]; exact H) | exact H
    have Ny272 := Q.a hy272
    clear hy272
    have H' := Q.a H
    clear H
    go_enter Tryz.func128, Tryz.ntmps128
    go_wp2_with (first | ((with_reducible refine aAe (f := 150) rfl ?_); refine Q.gl 14 Tryz.func150 #[.string a0, .string a1] rfl rfl rfl rfl ?_; (with_reducible refine (nat_Cmp.calls k a0 a1 t265 _ A3.out).mono ?_); rintro e w10 ⟨rfl, hb⟩; refine ⟨_, rfl, ?_⟩; replace HB := Q.a (aAb (Q.bw HB) hb); (try clear hb)) | ((with_reducible refine aAe (f := 149) rfl ?_); refine Q.gl 17 Tryz.func149 #[.string a0] rfl rfl rfl rfl ?_; (with_reducible refine (nat_limbs.calls k a0 t266 _ A6.out).mono ?_); rintro e w11 ⟨v267, rfl, ho0, hb⟩; refine ⟨_, rfl, ?_⟩; replace HO268 := Q.a (Kd.R_lower ho0 (aAf (Q.bw HB))); replace HB := Q.a (aAb (Q.bw HB) hb); (try clear hb); (try clear ho0)) | ((with_reducible refine aAe (f := 149) rfl ?_); refine Q.gl 19 Tryz.func149 #[.string a1] rfl rfl rfl rfl ?_; (with_reducible refine (nat_limbs.calls k a1 t269 _ A7.out).mono ?_); rintro e w12 ⟨v270, rfl, ho0, hb⟩; refine ⟨_, rfl, ?_⟩; replace HO271 := Q.a (Kd.R_lower (Kd.R_new' ho0 (Kd.R_lt (Q.kr HO268))) (aAf (Q.bw HB))); replace HO268 := Q.a (Kd.R_elder' (Q.kr HO268) (Kd.R_base ho0) hb); replace HB := Q.a (aAb (Q.bw HB) hb); (try clear hb); (try clear ho0); obtain ⟨Ao13, co13, eo13⟩ := Kd.R_slice HO268.out; subst eo13) | ((with_reducible refine aAR (N := 22) rfl ?_); refine Kd.R_make (Kd.int .u32) _ 143 rfl (N := 22) rfl 145 _ _ rfl (t266.length : Int) rfl rfl Tryz.underlying145 (.int .u32 0) 4 aAC rfl (by decide) (by omega) 0 (ok := fun _ => True) (okp := fun _ => True) rfl (fun _ hk => hk) trivial Q.od (Nat.le_trans (Nat.mul_le_mul_right _ (of_decide_eq_true (by first | (with_reducible assumption) | assumption) : (t266.length : Int).toNat ≤ 70368744177664)) (by omega)) (Below.refl _ _) (Nat.le_refl _) ?_; intro v273 w14 ho15 hb hg_ hnew_; clear hg_ hnew_; (first | rw [← Ny272.out] at ho15 | (simp only [Int.reduceToNat] at ho15; rw [← Ny272.out] at ho15)); replace HO274 := Q.a (Kd.R_lower (Kd.R_new' (Kd.R_new' ho15 (Kd.R_lt (Q.kr HO268))) (Kd.R_lt (Q.kr HO271))) (aAf (Q.bw HB))); replace HO268 := Q.a (Kd.R_elder' (Q.kr HO268) (Kd.R_base ho15) hb); replace HO271 := Q.a (Kd.R_elder' (Q.kr HO271) (Kd.R_base ho15) hb); replace HB := Q.a (aAb (Q.bw HB) hb); clear hb ho15))
    go_loopg [9, 25] k (fun kq v9 v25 w' => ∃ (x8_1 : List Int) (x9_1 : Int) (x25_1 : Int), v9 = .int .u32 x9_1 ∧ v25 = .int .i64 x25_1 ∧ Aside0 (nat_Sub.l0 kq t266 t269 x8_1 x9_1 (t266.length : Int) x25_1 = some (r1, r2)) ∧ Aside0 (kq ≤ k) ∧ Aside0 (Kd.R (Kd.int .u32) 143 w' w.heap.size (fun k_ => some k_ ≠ (v270 : Value).ownBlock ∧ some k_ ≠ (v273 : Value).ownBlock) (.slice Ao13 t266.length co13) t266) ∧ Aside0 (Kd.R (Kd.int .u32) 143 w' w.heap.size (fun k_ => some k_ ≠ ((.slice Ao13 t266.length co13) : Value).ownBlock ∧ some k_ ≠ (v273 : Value).ownBlock) v270 t269) ∧ Aside0 (Kd.R (Kd.int .u32) 143 w' w.heap.size (fun k_ => some k_ ≠ ((.slice Ao13 t266.length co13) : Value).ownBlock ∧ some k_ ≠ (v270 : Value).ownBlock) v273 x8_1) ∧ Aside0 (Below w.heap.size w w'))
    case atStart => exact ⟨(y272), (0), (0), Q.rs, Q.rs, H', ⟨Nat.le_refl _⟩, ⟨by (with_reducible repeat (first | apply Kd.R_alloc | apply Kd.R_drewN | apply Kd.R_drew)); exact Kd.R_mono HO268.out (fun _ hk => ⟨hk.1.2, hk.2⟩)⟩, ⟨by (with_reducible repeat (first | apply Kd.R_alloc | apply Kd.R_drewN | apply Kd.R_drew)); exact Kd.R_mono HO271.out (fun _ hk => ⟨hk.1.2, hk.2⟩)⟩, ⟨by (with_reducible repeat (first | apply Kd.R_alloc | apply Kd.R_drewN | apply Kd.R_drew)); exact Kd.R_mono HO274.out (fun _ hk => ⟨hk.1.2, hk.2⟩)⟩, ⟨Q.bw HB⟩⟩
    case round =>
     clear H'
     try clear c1
     try clear p2
     try clear c4
     try clear c4b0
     try clear c8
     try clear c8b0
     try clear c8b1
     try clear c9
     try clear c9b0
     try clear c9b1
     try clear c12
     try clear c14
     try clear c15
     obtain ⟨x8_1, x9_1, x25_1, rfl, rfl, HA, HK1, HO_6, HO_7, HO_8, HB⟩ := hrel
     cases gk with
     | zero => exact absurd HA.out (by simp [nat_Sub.l0])
     | succ k1 =>
      have H := HA.out
      clear HA
      simp only [nat_Sub.l0] at H
      by_cases c16 : x25_1 < (t266.length : Int)
      ·rw [if_pos c16] at H
       have c16b0 : decide (x25_1 < (t266.length : Int)) = true := decide_eq_true c16
       clear c16
       by_cases c17 : x25_1 < (t269.length : Int)
       ·rw [if_pos c17] at H
        have c17b0 : decide (x25_1 < (t269.length : Int)) = true := decide_eq_true c17
        clear c17
        by_cases c18 : 0 ≤ x25_1
        ·rw [if_pos c18] at H
         have c18b0 : decide (0 ≤ x25_1) = true := decide_eq_true c18
         clear c18
         by_cases c19 : x25_1 < (t266.length : Int)
         ·rw [if_pos c19] at H
          have c19b0 : decide (x25_1 < (t266.length : Int)) = true := decide_eq_true c19
          clear c19
          replace H := Option.bind_eq_some_iff.mp H
          obtain ⟨⟨t277, t278⟩, A200, H⟩ := H
          try dsimp only at H
          have A20 := Q.a A200
          clear A200
          by_cases c21 : x25_1 < (x8_1.length : Int)
          ·rw [if_pos c21] at H
           have c21b0 : decide (x25_1 < (x8_1.length : Int)) = true := decide_eq_true c21
           clear c21
           obtain ⟨y279, hy279⟩ : ∃ y_ : List Int, y_ = (x8_1.set (x25_1 : Int).toNat t277) := ⟨_, rfl⟩
           replace H : (nat_Sub.l0 k1 t266 t269 y279 t278 (t266.length : Int) (wrap64 (x25_1 + 1))) = some (r1, r2) := by first | (rw [hy279]; with_reducible exact H) | (have H2_ := (Option.bind_some _ _).symm.trans H; rw [hy279]; with_reducible exact H2_) | (have H2_ := (Option.bind_some _ _).symm.trans H; with_reducible exact H2_) | with_reducible exact H | (rw [hy279]; exact H) | exact H
           have Ny279 := Q.a hy279
           clear hy279
           have H' := Q.a H
           clear H
           obtain ⟨Ao23, co23, eo23⟩ := Kd.R_slice HO_7.out
           subst eo23
           have p275 : 0 ≤ (x25_1 : Int) := of_decide_eq_true (by first | (with_reducible assumption) | assumption)
           have q275 : x25_1 < (t269.length : Int) := of_decide_eq_true (by first | (with_reducible assumption) | assumption)
           obtain ⟨ad275, e275, hx275_0⟩ := Kd.at_int (Kd.R_reads' HO_7.out).2.2 x25_1 p275 q275
           cases e275
           replace p275 := eq_true p275
           replace q275 := eq_true q275
           have p276 : 0 ≤ (x25_1 : Int) := of_decide_eq_true (by first | (with_reducible assumption) | assumption)
           have q276 : x25_1 < (t266.length : Int) := of_decide_eq_true (by first | (with_reducible assumption) | assumption)
           obtain ⟨ad276, e276, hx276_0⟩ := Kd.at_int (Kd.R_reads' HO_6.out).2.2 x25_1 p276 q276
           cases e276
           replace p276 := eq_true p276
           replace q276 := eq_true q276
           go_wp2_with (first | ((with_reducible refine aAe (f := 154) rfl ?_); refine Q.gl 45 Tryz.func154 #[.int .u32 (rd t266 x25_1), .int .u32 (rd t269 x25_1), .int .u32 x9_1] rfl rfl rfl rfl ?_; (with_reducible refine (bits_Sub32.calls (rd t266 x25_1) (rd t269 x25_1) x9_1 t277 t278 _ A20.out).mono ?_); rintro e w' ⟨rfl, ⟨nd, rfl⟩⟩; refine ⟨_, rfl, ?_⟩; (try (rw [aAq wr]; generalize hq_ : World.drewN wr _ = wr; have n0_ : Aside0 (Kd.R (Kd.int .u32) 143 wr w.heap.size (fun k_ => some k_ ≠ (.slice (some ad275) t269.length co23 : Value).ownBlock ∧ some k_ ≠ (v273 : Value).ownBlock) (.slice (some ad276) t266.length co13) t266) := ⟨by rw [← hq_]; exact (Q.kr HO_6)⟩; have n1_ : Aside0 (Kd.R (Kd.int .u32) 143 wr w.heap.size (fun k_ => some k_ ≠ (.slice (some ad276) t266.length co13 : Value).ownBlock ∧ some k_ ≠ (v273 : Value).ownBlock) (.slice (some ad275) t269.length co23) t269) := ⟨by rw [← hq_]; exact (Q.kr HO_7)⟩; have n2_ : Aside0 (Kd.R (Kd.int .u32) 143 wr w.heap.size (fun k_ => some k_ ≠ (.slice (some ad276) t266.length co13 : Value).ownBlock ∧ some k_ ≠ (.slice (some ad275) t269.length co23 : Value).ownBlock) v273 x8_1) := ⟨by rw [← hq_]; exact (Q.kr HO_8)⟩; have n3_ : Aside0 (Below w.heap.size w wr) := ⟨by rw [← hq_]; exact (Q.bw HB)⟩; clear HO_6 HO_7 HO_8 HB hq_; have HO_6 := n0_; have HO_7 := n1_; have HO_8 := n2_; have HB := n3_; clear n0_ n1_ n2_ n3_)); have p22 : 0 ≤ (x25_1 : Int) := of_decide_eq_true (by first | (with_reducible assumption) | assumption); have q22 : (x25_1 : Int) < ((x8_1.length : Int) : Int) := of_decide_eq_true (by first | (with_reducible assumption) | assumption); obtain ⟨go22, co22, eo22, gb22, gl22, cl22, HG22⟩ := Kd.R_form HO_8.out (by omega); (first | cases eo22 | (injection eo22 with ea_ en_ ec_; (first | subst ea_ | (injection ea_ with ea_; subst ea_)); subst ec_; clear en_)); have GB22 := Q.a gb22; have GG22 := Q.a HG22; clear gb22 gl22 HG22; obtain ⟨hx22_0, hf22_0⟩ := Kd.R_celln 0 HO_8.out (x25_1 : Int) p22 q22; replace p22 := eq_true p22; replace q22 := eq_true q22; obtain ⟨hy24_, hz24_⟩ := Kd.R_celln 0 HO_8.out (x25_1 : Int) Q.od Q.od; have HP24 := Kd.R_putg HO_8.out (x25_1 : Int) t277) | ((with_reducible refine aAl (t := 143) (p := 48) rfl ?_); refine aAh (t := 143) (p := 48) (v := ?vo_w25) (w1 := (wr.setCell ⟨go22, (x25_1 : Int).toNat, none⟩ (.int .u32 t277))) ?hg ?ho ?hn ?hr ?_; (case ho => rfl); (case hg => rfl); (case hn => rfl); (case hr => first | (go_simp; done) | (go_simp; rfl)); intro w25 hw; have hg : wr.grownBy w25 (some go22) := (by rw [hw]; exact HP24.2); have hp_ : Kd.R (Kd.int .u32) 143 w25 w.heap.size (fun k_ => some k_ ≠ (.slice (some ad276) t266.length co13 : Value).ownBlock ∧ some k_ ≠ (.slice (some ad275) t269.length co23 : Value).ownBlock) (.slice (some ⟨go22, 0, none⟩) x8_1.length co22) y279 := (by rw [hw, Ny279.out]; exact HP24.1); clear HP24; replace HO_6 := Q.a (Kd.R_after (v := (.slice (some ⟨go22, 0, none⟩) x8_1.length co22)) (v1 := (.slice (some ⟨go22, 0, none⟩) x8_1.length co22)) (ok := (fun k_ => some k_ ≠ (.slice (some ad275) t269.length co23 : Value).ownBlock)) (Q.kr HO_6) hg (.inl rfl)); replace HO_7 := Q.a (Kd.R_after (v := (.slice (some ⟨go22, 0, none⟩) x8_1.length co22)) (v1 := (.slice (some ⟨go22, 0, none⟩) x8_1.length co22)) (ok := (fun k_ => some k_ ≠ (.slice (some ad276) t266.length co13 : Value).ownBlock)) (Q.kr HO_7) hg (.inl rfl)); replace HO_8 := Q.a (hp_); replace HB := Q.a ((by rw [hw]; exact aAo (HB.out) GB22.out : Below w.heap.size w w25)); clear hg hw hp_))
           go_roundg k1
           case measure => have := HK1.out; omega
           case rel => exact ⟨(y279), (t278), (wrap64 (x25_1 + 1)), Q.rs, Q.rs, H', ⟨by have := HK1.out; omega⟩, ⟨Q.kr HO_6⟩, ⟨Q.kr HO_7⟩, ⟨Q.kr HO_8⟩, ⟨Q.bw HB⟩⟩
          ·rw [if_neg c21] at H
           exact absurd H (by simp)
         ·rw [if_neg c19] at H
          exact absurd H (by simp)
        ·rw [if_neg c18] at H
         exact absurd H (by simp)
       ·rw [if_neg c17] at H
        have c17b0 : decide (x25_1 < (t269.length : Int)) = false := decide_eq_false c17
        clear c17
        by_cases c26 : 0 ≤ x25_1
        ·rw [if_pos c26] at H
         have c26b0 : decide (0 ≤ x25_1) = true := decide_eq_true c26
         clear c26
         by_cases c27 : x25_1 < (t266.length : Int)
         ·rw [if_pos c27] at H
          have c27b0 : decide (x25_1 < (t266.length : Int)) = true := decide_eq_true c27
          clear c27
          replace H := Option.bind_eq_some_iff.mp H
          obtain ⟨⟨t281, t282⟩, A280, H⟩ := H
          try dsimp only at H
          have A28 := Q.a A280
          clear A280
          by_cases c29 : x25_1 < (x8_1.length : Int)
          ·rw [if_pos c29] at H
           have c29b0 : decide (x25_1 < (x8_1.length : Int)) = true := decide_eq_true c29
           clear c29
           obtain ⟨y283, hy283⟩ : ∃ y_ : List Int, y_ = (x8_1.set (x25_1 : Int).toNat t281) := ⟨_, rfl⟩
           replace H : (nat_Sub.l0 k1 t266 t269 y283 t282 (t266.length : Int) (wrap64 (x25_1 + 1))) = some (r1, r2) := by first | (rw [hy283]; with_reducible exact H) | (have H2_ := (Option.bind_some _ _).symm.trans H; rw [hy283]; with_reducible exact H2_) | (have H2_ := (Option.bind_some _ _).symm.trans H; with_reducible exact H2_) | with_reducible exact H | (rw [hy283]; exact H) | exact H
           have Ny283 := Q.a hy283
           clear hy283
           have H' := Q.a H
           clear H
           obtain ⟨Ao31, co31, eo31⟩ := Kd.R_slice HO_7.out
           subst eo31
           have p280 : 0 ≤ (x25_1 : Int) := of_decide_eq_true (by first | (with_reducible assumption) | assumption)
           have q280 : x25_1 < (t266.length : Int) := of_decide_eq_true (by first | (with_reducible assumption) | assumption)
           obtain ⟨ad280, e280, hx280_0⟩ := Kd.at_int (Kd.R_reads' HO_6.out).2.2 x25_1 p280 q280
           cases e280
           replace p280 := eq_true p280
           replace q280 := eq_true q280
           go_wp2_with (first | ((with_reducible refine aAe (f := 154) rfl ?_); refine Q.gl 45 Tryz.func154 #[.int .u32 (rd t266 x25_1), .int .u32 0, .int .u32 x9_1] rfl rfl rfl rfl ?_; (with_reducible refine (bits_Sub32.calls (rd t266 x25_1) 0 x9_1 t281 t282 _ A28.out).mono ?_); rintro e w' ⟨rfl, ⟨nd, rfl⟩⟩; refine ⟨_, rfl, ?_⟩; (try (rw [aAq wr]; generalize hq_ : World.drewN wr _ = wr; have n0_ : Aside0 (Kd.R (Kd.int .u32) 143 wr w.heap.size (fun k_ => some k_ ≠ (.slice Ao31 t269.length co31 : Value).ownBlock ∧ some k_ ≠ (v273 : Value).ownBlock) (.slice (some ad280) t266.length co13) t266) := ⟨by rw [← hq_]; exact (Q.kr HO_6)⟩; have n1_ : Aside0 (Kd.R (Kd.int .u32) 143 wr w.heap.size (fun k_ => some k_ ≠ (.slice (some ad280) t266.length co13 : Value).ownBlock ∧ some k_ ≠ (v273 : Value).ownBlock) (.slice Ao31 t269.length co31) t269) := ⟨by rw [← hq_]; exact (Q.kr HO_7)⟩; have n2_ : Aside0 (Kd.R (Kd.int .u32) 143 wr w.heap.size (fun k_ => some k_ ≠ (.slice (some ad280) t266.length co13 : Value).ownBlock ∧ some k_ ≠ (.slice Ao31 t269.length co31 : Value).ownBlock) v273 x8_1) := ⟨by rw [← hq_]; exact (Q.kr HO_8)⟩; have n3_ : Aside0 (Below w.heap.size w wr) := ⟨by rw [← hq_]; exact (Q.bw HB)⟩; clear HO_6 HO_7 HO_8 HB hq_; have HO_6 := n0_; have HO_7 := n1_; have HO_8 := n2_; have HB := n3_; clear n0_ n1_ n2_ n3_)); have p30 : 0 ≤ (x25_1 : Int) := of_decide_eq_true (by first | (with_reducible assumption) | assumption); have q30 : (x25_1 : Int) < ((x8_1.length : Int) : Int) := of_decide_eq_true (by first | (with_reducible assumption) | assumption); obtain ⟨go30, co30, eo30, gb30, gl30, cl30, HG30⟩ := Kd.R_form HO_8.out (by omega); (first | cases eo30 | (injection eo30 with ea_ en_ ec_; (first | subst ea_ | (injection ea_ with ea_; subst ea_)); subst ec_; clear en_)); have GB30 := Q.a gb30; have GG30 := Q.a HG30; clear gb30 gl30 HG30; obtain ⟨hx30_0, hf30_0⟩ := Kd.R_celln 0 HO_8.out (x25_1 : Int) p30 q30; replace p30 := eq_true p30; replace q30 := eq_true q30; obtain ⟨hy32_, hz32_⟩ := Kd.R_celln 0 HO_8.out (x25_1 : Int) Q.od Q.od; have HP32 := Kd.R_putg HO_8.out (x25_1 : Int) t281) | ((with_reducible refine aAl (t := 143) (p := 48) rfl ?_); refine aAh (t := 143) (p := 48) (v := ?vo_w33) (w1 := (wr.setCell ⟨go30, (x25_1 : Int).toNat, none⟩ (.int .u32 t281))) ?hg ?ho ?hn ?hr ?_; (case ho => rfl); (case hg => rfl); (case hn => rfl); (case hr => first | (go_simp; done) | (go_simp; rfl)); intro w33 hw; have hg : wr.grownBy w33 (some go30) := (by rw [hw]; exact HP32.2); have hp_ : Kd.R (Kd.int .u32) 143 w33 w.heap.size (fun k_ => some k_ ≠ (.slice (some ad280) t266.length co13 : Value).ownBlock ∧ some k_ ≠ (.slice Ao31 t269.length co31 : Value).ownBlock) (.slice (some ⟨go30, 0, none⟩) x8_1.length co30) y283 := (by rw [hw, Ny283.out]; exact HP32.1); clear HP32; replace HO_6 := Q.a (Kd.R_after (v := (.slice (some ⟨go30, 0, none⟩) x8_1.length co30)) (v1 := (.slice (some ⟨go30, 0, none⟩) x8_1.length co30)) (ok := (fun k_ => some k_ ≠ (.slice Ao31 t269.length co31 : Value).ownBlock)) (Q.kr HO_6) hg (.inl rfl)); replace HO_7 := Q.a (Kd.R_after (v := (.slice (some ⟨go30, 0, none⟩) x8_1.length co30)) (v1 := (.slice (some ⟨go30, 0, none⟩) x8_1.length co30)) (ok := (fun k_ => some k_ ≠ (.slice (some ad280) t266.length co13 : Value).ownBlock)) (Q.kr HO_7) hg (.inl rfl)); replace HO_8 := Q.a (hp_); replace HB := Q.a ((by rw [hw]; exact aAo (HB.out) GB30.out : Below w.heap.size w w33)); clear hg hw hp_))
           go_roundg k1
           case measure => have := HK1.out; omega
           case rel => exact ⟨(y283), (t282), (wrap64 (x25_1 + 1)), Q.rs, Q.rs, H', ⟨by have := HK1.out; omega⟩, ⟨Q.kr HO_6⟩, ⟨Q.kr HO_7⟩, ⟨Q.kr HO_8⟩, ⟨Q.bw HB⟩⟩
          ·rw [if_neg c29] at H
           exact absurd H (by simp)
         ·rw [if_neg c27] at H
          exact absurd H (by simp)
        ·rw [if_neg c26] at H
         exact absurd H (by simp)
      ·rw [if_neg c16] at H
       have c16b0 : decide (x25_1 < (t266.length : Int)) = false := decide_eq_false c16
       clear c16
       replace H := Option.bind_eq_some_iff.mp H
       obtain ⟨t284, A340, H⟩ := H
       try dsimp only at H
       have A34 := Q.a A340
       clear A340
       simp only [Option.some.injEq, Prod.mk.injEq] at H
       obtain ⟨rfl, rfl⟩ := H
       obtain ⟨Ao35, co35, eo35⟩ := Kd.R_slice HO_8.out
       subst eo35
       go_wp2_with (first | ((with_reducible refine aAe (f := 147) rfl ?_); refine Q.gl 51 Tryz.func147 #[.slice Ao35 x8_1.length co35] rfl rfl rfl rfl ?_; (with_reducible refine (nat_mag.calls k1 _ _ x8_1 t284 _ ?side1 ?side2 A34.out).mono ?_); (case side1 => repeat (first | exact (Kd.R_reads' HO_8.out).2.2 | (with_reducible refine Kd.C_alloc ?_ _) | (with_reducible refine Kd.C_drewN ?_ _) | (with_reducible refine Kd.C_drew ?_))); (case side2 => exact (Kd.R_reads' HO_8.out).2.1); rintro e w36 ⟨rfl, hb⟩; refine ⟨_, rfl, ?_⟩; replace HO_6 := Q.a (Kd.R_below (Q.kr HO_6) hb); replace HO_7 := Q.a (Kd.R_below (Q.kr HO_7) hb); replace HO_8 := Q.a (Kd.R_below (Q.kr HO_8) hb); replace HB := Q.a (aAb (Q.bw HB) hb); (try clear hb)))
       go_ret2
       exact ⟨Q.en, Q.bw HB⟩
   ·rw [if_neg c9] at H
    exact absurd H (by simp)
  ·rw [if_neg c8] at H
   exact absurd H (by simp)
end Go.Proofs.YtjefbecmeobegaaGreatDoor.P
