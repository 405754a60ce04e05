import Derived.Test.YtjefbecmeobegaaGreatDoorPx0
import Derived.Test.YtjefbecmeobegaaGreatDoorPxNA
import Derived.Test.YtjefbecmeobegaaGreatDoorPxND
import Derived.Test.YtjefbecmeobegaaGreatDoorPxNU
import Derived.Test.YtjefbecmeobegaaGreatDoorXQ
namespace Go.Proofs.YtjefbecmeobegaaGreatDoor.P
open Go.RowKit YtjefbecmeobegaaGreatDoorW.PrintWords YtjefbecmeobegaaGreatDoorW.PrintLast YtjefbecmeobegaaGreatDoorW.PrintMore
attribute [local go_sem] aBj aBk aB1 aB2 aAW aAX aBl aBm
attribute [local go_sem] XW.cell_twice
set_option linter.unusedVariables false
set_option linter.unusedSimpArgs false
mutual
def nat_Gcd.l0 : Nat → ByteArray → ByteArray → Option (ByteArray)
 | 0, _, _ => none
 | k + 1, x0, x1 => (nat_Normalize.f k x1).bind fun t220 => (if t220.toList = ([] : List UInt8) then ((nat_Normalize.f k x0).bind fun t221 => (some t221)) else ((nat_Uint64.f k x0).bind fun bt222 => ((nat_Uint64.f k x1).bind fun bt224 => (if bt222.2 = true then (nat_Gcd.j1 k x0 x1 bt222.1 bt224.1 bt224.2) else (nat_Gcd.j1 k x0 x1 bt222.1 bt224.1 false)))))
def nat_Gcd.j1 : Nat → ByteArray → ByteArray → Int → Int → Bool → Option (ByteArray)
 | 0, _, _, _, _, _ => none
 | k + 1, x0, x1, x5, x7, x28 => if x28 = true then (nat_Gcd.l1 k x5 x7) else ((nat_Div.f k x0 x1).bind fun bt227 => (nat_Gcd.l0 k x1 bt227.2.1))
def nat_Gcd.l1 : Nat → Int → Int → Option (ByteArray)
 | 0, _, _ => none
 | k + 1, x5, x7 => if x7 = 0 then ((nat_FromUint64.f k x5).bind fun t226 => (some t226)) else (nat_Gcd.l1 k x7 (Int.tmod x5 x7))
end
def nat_Gcd.f (k : Nat) (a0 : ByteArray) (a1 : ByteArray) : Option (ByteArray) := nat_Gcd.l0 k a0 a1
theorem nat_Gcd.mono_l : ∀ k, (∀ y0 y1, LeO (nat_Gcd.l0 k y0 y1) (nat_Gcd.l0 (k + 1) y0 y1)) ∧ (∀ y0 y1 y2 y3 y4, LeO (nat_Gcd.j1 k y0 y1 y2 y3 y4) (nat_Gcd.j1 (k + 1) y0 y1 y2 y3 y4)) ∧ (∀ y0 y1, LeO (nat_Gcd.l1 k y0 y1) (nat_Gcd.l1 (k + 1) y0 y1))
 | 0 => ⟨fun _ _ r h => by simp [nat_Gcd.l0] at h, fun _ _ _ _ _ r h => by simp [nat_Gcd.j1] at h, fun _ _ r h => by simp [nat_Gcd.l1] at h⟩
 | k + 1 => by
  obtain ⟨ih0, ih1, ih2⟩ := nat_Gcd.mono_l k
  refine ⟨?_, ?_, ?_⟩
  ·intro y0 y1
   unfold nat_Gcd.l0
   repeat' first
   | (with_reducible exact ih0 _ _)
   | (with_reducible exact ih1 _ _ _ _ _)
   | (with_reducible exact ih2 _ _)
   | (with_reducible exact nat_Div.mono _ _ _)
   | (with_reducible exact nat_FromUint64.mono _ _)
   | (with_reducible exact nat_Normalize.mono _ _)
   | (with_reducible exact nat_Uint64.mono _ _)
   | (with_reducible exact LeO.refl _)
   | (with_reducible exact LeO.none _)
   | (with_reducible refine LeO.ite ?_ ?_)
   | (with_reducible refine LeO.bind ?_ (fun _ => ?_))
   | exact ih0 _ _
   | exact ih1 _ _ _ _ _
   | exact ih2 _ _
   | exact nat_Div.mono _ _ _
   | exact nat_FromUint64.mono _ _
   | exact nat_Normalize.mono _ _
   | exact nat_Uint64.mono _ _
   | exact LeO.none _
   | refine LeO.ite ?_ ?_
   | refine LeO.bind ?_ (fun _ => ?_)
  ·intro y0 y1 y2 y3 y4
   unfold nat_Gcd.j1
   repeat' first
   | (with_reducible exact ih0 _ _)
   | (with_reducible exact ih1 _ _ _ _ _)
   | (with_reducible exact ih2 _ _)
   | (with_reducible exact nat_Div.mono _ _ _)
   | (with_reducible exact nat_FromUint64.mono _ _)
   | (with_reducible exact nat_Normalize.mono _ _)
   | (with_reducible exact nat_Uint64.mono _ _)
   | (with_reducible exact LeO.refl _)
   | (with_reducible exact LeO.none _)
   | (with_reducible refine LeO.ite ?_ ?_)
   | (with_reducible refine LeO.bind ?_ (fun _ => ?_))
   | exact ih0 _ _
   | exact ih1 _ _ _ _ _
   | exact ih2 _ _
   | exact nat_Div.mono _ _ _
   | exact nat_FromUint64.mono _ _
   | exact nat_Normalize.mono _ _
   | exact nat_Uint64.mono _ _
   | exact LeO.none _
   | refine LeO.ite ?_ ?_
   | refine LeO.bind ?_ (fun _ => ?_)
  ·intro y0 y1
   unfold nat_Gcd.l1
   repeat' first
   | (with_reducible exact ih0 _ _)
   | (with_reducible exact ih1 _ _ _ _ _)
   | (with_reducible exact ih2 _ _)
   | (with_reducible exact nat_Div.mono _ _ _)
   | (with_reducible exact nat_FromUint64.mono _ _)
   | (with_reducible exact nat_Normalize.mono _ _)
   | (with_reducible exact nat_Uint64.mono _ _)
   | (with_reducible exact LeO.refl _)
   | (with_reducible exact LeO.none _)
   | (with_reducible refine LeO.ite ?_ ?_)
   | (with_reducible refine LeO.bind ?_ (fun _ => ?_))
   | exact ih0 _ _
   | exact ih1 _ _ _ _ _
   | exact ih2 _ _
   | exact nat_Div.mono _ _ _
   | exact nat_FromUint64.mono _ _
   | exact nat_Normalize.mono _ _
   | exact nat_Uint64.mono _ _
   | exact LeO.none _
   | refine LeO.ite ?_ ?_
   | refine LeO.bind ?_ (fun _ => ?_)
theorem nat_Gcd.mono : ∀ a0 a1 k, LeO (nat_Gcd.f k a0 a1) (nat_Gcd.f (k + 1) a0 a1) := by
 intro a0 a1 k
 obtain ⟨ih0, ih1, ih2⟩ := nat_Gcd.mono_l k
 unfold nat_Gcd.f
 repeat' first
   | (with_reducible exact ih0 _ _)
   | (with_reducible exact ih1 _ _ _ _ _)
   | (with_reducible exact ih2 _ _)
   | (with_reducible exact nat_Div.mono _ _ _)
   | (with_reducible exact nat_FromUint64.mono _ _)
   | (with_reducible exact nat_Normalize.mono _ _)
   | (with_reducible exact nat_Uint64.mono _ _)
   | (with_reducible exact LeO.refl _)
   | (with_reducible exact LeO.none _)
   | (with_reducible refine LeO.ite ?_ ?_)
   | (with_reducible refine LeO.bind ?_ (fun _ => ?_))
   | exact ih0 _ _
   | exact ih1 _ _ _ _ _
   | exact ih2 _ _
   | exact nat_Div.mono _ _ _
   | exact nat_FromUint64.mono _ _
   | exact nat_Normalize.mono _ _
   | exact nat_Uint64.mono _ _
   | exact LeO.none _
   | refine LeO.ite ?_ ?_
   | refine LeO.bind ?_ (fun _ => ?_)
set_option maxHeartbeats 8000000 in
set_option maxRecDepth 100000 in
theorem nat_Gcd.calls (k : Nat) (a0 : ByteArray) (a1 : ByteArray) (r : ByteArray) (w : World) (h : nat_Gcd.f k a0 a1 = some r) :
  Calls Tryz.prog 125 #[.string a0, .string a1] w fun e w' => e = .returned (.string r) ∧ Below w.heap.size w w' := by
 have HB := Q.a (Below.refl w.heap.size w)
 have H : (nat_Gcd.l0 k a0 a1) = some r := h
 clear h
 have H' := Q.a H
 clear H
 go_enter Tryz.func125, Tryz.ntmps125
 go_wp2
 repeat (go_quiet (fail); try go_wp2)
 go_loopg [0, 1] k (fun kq v0 v1 w' => ∃ (x0_1 : ByteArray) (x1_1 : ByteArray), v0 = .string x0_1 ∧ v1 = .string x1_1 ∧ Aside0 (nat_Gcd.l0 kq x0_1 x1_1 = some r) ∧ Aside0 (kq ≤ k) ∧ Aside0 (Below w.heap.size w w'))
 case atStart => exact ⟨(a0), (a1), Q.rs, Q.rs, H', ⟨Nat.le_refl _⟩, ⟨Q.bw HB⟩⟩
 case round =>
  clear H'
  try clear c1
  try clear p2
  obtain ⟨x0_1, x1_1, rfl, rfl, HA, HK1, HB⟩ := hrel
  cases gk with
  | zero => exact absurd HA.out (by simp [nat_Gcd.l0])
  | succ k1 =>
   have H := HA.out
   clear HA
   simp only [nat_Gcd.l0] at H
   replace H := Option.bind_eq_some_iff.mp H
   obtain ⟨t220, A30, H⟩ := H
   try dsimp only at H
   have A3 := Q.a A30
   clear A30
   by_cases c4 : t220.toList = ([] : List UInt8)
   ·rw [if_pos c4] at H
    have c4b0 : (t220.toList == ([] : List UInt8)) = true := beq_iff_eq.mpr c4
    have c4b1 : (t220.toList != ([] : List UInt8)) = false := bne_eq_false_iff_eq.mpr c4
    clear c4
    replace H := Option.bind_eq_some_iff.mp H
    obtain ⟨t221, A50, H⟩ := H
    try dsimp only at H
    have A5 := Q.a A50
    clear A50
    obtain rfl := Option.some.inj H
    go_wp2_with (first | (go_at_call 123; (with_reducible refine (nat_Normalize.calls k1 x1_1 t220 _ A3.out).mono ?_); rintro e w6 ⟨rfl, hb⟩; replace HB := Q.a (aAb (Q.bw HB) hb); (try clear hb)) | (go_at_call 123; (with_reducible refine (nat_Normalize.calls k1 x0_1 t221 _ A5.out).mono ?_); rintro e w7 ⟨rfl, hb⟩; replace HB := Q.a (aAb (Q.bw HB) hb); (try clear hb)))
    repeat (go_quiet (first | (go_at_call 123; (with_reducible refine (nat_Normalize.calls k1 x1_1 t220 _ A3.out).mono ?_); rintro e w6 ⟨rfl, hb⟩; replace HB := Q.a (aAb (Q.bw HB) hb); (try clear hb)) | (go_at_call 123; (with_reducible refine (nat_Normalize.calls k1 x0_1 t221 _ A5.out).mono ?_); rintro e w7 ⟨rfl, hb⟩; replace HB := Q.a (aAb (Q.bw HB) hb); (try clear hb))); try go_wp2_with (first | (go_at_call 123; (with_reducible refine (nat_Normalize.calls k1 x1_1 t220 _ A3.out).mono ?_); rintro e w6 ⟨rfl, hb⟩; replace HB := Q.a (aAb (Q.bw HB) hb); (try clear hb)) | (go_at_call 123; (with_reducible refine (nat_Normalize.calls k1 x0_1 t221 _ A5.out).mono ?_); rintro e w7 ⟨rfl, hb⟩; replace HB := Q.a (aAb (Q.bw HB) hb); (try clear hb))))
    go_ret
    exact ⟨Q.en, Q.bw HB⟩
   ·rw [if_neg c4] at H
    have c4b0 : (t220.toList == ([] : List UInt8)) = false := beq_eq_false_iff_ne.mpr c4
    have c4b1 : (t220.toList != ([] : List UInt8)) = true := bne_iff_ne.mpr c4
    replace H := Option.bind_eq_some_iff.mp H
    obtain ⟨⟨t222, t223⟩, A80, H⟩ := H
    try dsimp only at H
    have A8 := Q.a A80
    clear A80
    replace H := Option.bind_eq_some_iff.mp H
    obtain ⟨⟨t224, t225⟩, A90, H⟩ := H
    try dsimp only at H
    have A9 := Q.a A90
    clear A90
    have HC10 := Q.a H
    clear H
    go_upto_region 4 with (first | (go_at_call 123; (with_reducible refine (nat_Normalize.calls k1 x1_1 t220 _ A3.out).mono ?_); rintro e w11 ⟨rfl, hb⟩; replace HB := Q.a (aAb (Q.bw HB) hb); (try clear hb)) | (go_at_call 148; (with_reducible refine (nat_Uint64.calls k1 x0_1 t222 t223 _ A8.out).mono ?_); rintro e w12 ⟨rfl, hb⟩; replace HB := Q.a (aAb (Q.bw HB) hb); (try clear hb)) | (go_at_call 148; (with_reducible refine (nat_Uint64.calls k1 x1_1 t224 t225 _ A9.out).mono ?_); rintro e w13 ⟨rfl, hb⟩; replace HB := Q.a (aAb (Q.bw HB) hb); (try clear hb)))
    repeat (go_quiet (first | (go_at_call 123; (with_reducible refine (nat_Normalize.calls k1 x1_1 t220 _ A3.out).mono ?_); rintro e w11 ⟨rfl, hb⟩; replace HB := Q.a (aAb (Q.bw HB) hb); (try clear hb)) | (go_at_call 148; (with_reducible refine (nat_Uint64.calls k1 x0_1 t222 t223 _ A8.out).mono ?_); rintro e w12 ⟨rfl, hb⟩; replace HB := Q.a (aAb (Q.bw HB) hb); (try clear hb)) | (go_at_call 148; (with_reducible refine (nat_Uint64.calls k1 x1_1 t224 t225 _ A9.out).mono ?_); rintro e w13 ⟨rfl, hb⟩; replace HB := Q.a (aAb (Q.bw HB) hb); (try clear hb))); go_upto_region 4 with (first | (go_at_call 123; (with_reducible refine (nat_Normalize.calls k1 x1_1 t220 _ A3.out).mono ?_); rintro e w11 ⟨rfl, hb⟩; replace HB := Q.a (aAb (Q.bw HB) hb); (try clear hb)) | (go_at_call 148; (with_reducible refine (nat_Uint64.calls k1 x0_1 t222 t223 _ A8.out).mono ?_); rintro e w12 ⟨rfl, hb⟩; replace HB := Q.a (aAb (Q.bw HB) hb); (try clear hb)) | (go_at_call 148; (with_reducible refine (nat_Uint64.calls k1 x1_1 t224 t225 _ A9.out).mono ?_); rintro e w13 ⟨rfl, hb⟩; replace HB := Q.a (aAb (Q.bw HB) hb); (try clear hb))))
    (try simp only [Act.put, List.setIfInBounds_toArray, List.set_cons_zero, List.set_cons_succ])
    go_cut [28] (fun v28 wc => ∃ (kq : Nat) (x28_9 : Bool), v28 = .bool x28_9 ∧ Aside0 (nat_Gcd.j1 kq x0_1 x1_1 t222 t224 x28_9 = some r) ∧ Aside0 (kq ≤ k1) ∧ Aside0 (Below w.heap.size w wc))
    case first =>
     have H := HC10.out
     clear HC10
     by_cases c14 : t223 = true
     ·subst c14
      rw [if_pos rfl] at H
      have H' := Q.a H
      clear H
      go_wp2
      repeat (go_quiet (fail); try go_wp2)
      go_meet
      case rel => exact ⟨_, (t225), Q.rs, H', ⟨by have := HK1.out; first | omega | exact Nat.le_refl _⟩, ⟨Q.bw HB⟩⟩
     ·replace c14 := Bool.eq_false_iff.mpr c14
      subst c14
      rw [if_neg (show ¬ (false = true) by decide)] at H
      have H' := Q.a H
      clear H
      go_wp2
      repeat (go_quiet (fail); try go_wp2)
      go_meet
      case rel => exact ⟨_, (false), Q.rs, H', ⟨by have := HK1.out; first | omega | exact Nat.le_refl _⟩, ⟨Q.bw HB⟩⟩
    case rest =>
     clear HC10
     try clear c1
     try clear p2
     try clear c4
     try clear c4b0
     try clear c4b1
     try clear c12
     try clear c14
     try clear p2
     obtain ⟨kq, x28_9, rfl, HA, HJ9, HB⟩ := hcut
     cases kq with
     | zero => exact absurd HA.out (by simp [nat_Gcd.j1])
     | succ kj9 =>
      have H := HA.out
      clear HA
      simp only [nat_Gcd.j1] at H
      by_cases c15 : x28_9 = true
      ·subst c15
       rw [if_pos rfl] at H
       have H' := Q.a H
       clear H
       go_wp2
       repeat (go_quiet (fail); try go_wp2)
       go_loopg [5, 7] kj9 (fun kq v5 v7 w' => ∃ (x5_3 : Int) (x7_3 : Int), v5 = .int .u64 x5_3 ∧ v7 = .int .u64 x7_3 ∧ Aside0 (nat_Gcd.l1 kq x5_3 x7_3 = some r) ∧ Aside0 (kq ≤ kj9) ∧ Aside0 (Below w.heap.size w w'))
       case atStart => exact ⟨(t222), (t224), Q.rs, Q.rs, H', ⟨Nat.le_refl _⟩, ⟨Q.bw HB⟩⟩
       case round =>
        clear H'
        try clear c1
        try clear p2
        try clear c4
        try clear c4b0
        try clear c4b1
        try clear c12
        try clear c14
        try clear c15
        try clear p2
        obtain ⟨x5_3, x7_3, rfl, rfl, HA, HK3, HB⟩ := hrel
        cases gk with
        | zero => exact absurd HA.out (by simp [nat_Gcd.l1])
        | succ k3 =>
         have H := HA.out
         clear HA
         simp only [nat_Gcd.l1] at H
         by_cases c16 : x7_3 = 0
         ·rw [if_pos c16] at H
          have c16b0 : (x7_3 == 0) = true := beq_iff_eq.mpr c16
          have c16b1 : (x7_3 != 0) = false := bne_eq_false_iff_eq.mpr c16
          clear c16
          replace H := Option.bind_eq_some_iff.mp H
          obtain ⟨t226, A170, H⟩ := H
          try dsimp only at H
          have A17 := Q.a A170
          clear A170
          obtain rfl := Option.some.inj H
          go_wp2_with (first | (go_at_call 124; (with_reducible refine (nat_FromUint64.calls k3 x5_3 t226 _ A17.out).mono ?_); rintro e w18 ⟨rfl, hb⟩; replace HB := Q.a (aAb (Q.bw HB) hb); (try clear hb)))
          repeat (go_quiet (first | (go_at_call 124; (with_reducible refine (nat_FromUint64.calls k3 x5_3 t226 _ A17.out).mono ?_); rintro e w18 ⟨rfl, hb⟩; replace HB := Q.a (aAb (Q.bw HB) hb); (try clear hb))); try go_wp2_with (first | (go_at_call 124; (with_reducible refine (nat_FromUint64.calls k3 x5_3 t226 _ A17.out).mono ?_); rintro e w18 ⟨rfl, hb⟩; replace HB := Q.a (aAb (Q.bw HB) hb); (try clear hb))))
          go_ret
          exact ⟨Q.en, Q.bw HB⟩
         ·rw [if_neg c16] at H
          have c16b0 : (x7_3 == 0) = false := beq_eq_false_iff_ne.mpr c16
          have c16b1 : (x7_3 != 0) = true := bne_iff_ne.mpr c16
          have H' := Q.a H
          clear H
          go_wp2
          repeat (go_quiet (fail); try go_wp2)
          go_roundg k3
          case measure => have := HK1.out; have := HJ9.out; have := HK3.out; omega
          case rel => exact ⟨(x7_3), (Int.tmod x5_3 x7_3), Q.rs, Q.rs, H', ⟨by have := HK1.out; have := HJ9.out; have := HK3.out; omega⟩, ⟨Q.bw HB⟩⟩
      ·replace c15 := Bool.eq_false_iff.mpr c15
       subst c15
       rw [if_neg (show ¬ (false = true) by decide)] at H
       replace H := Option.bind_eq_some_iff.mp H
       obtain ⟨⟨t227, t228, t229⟩, A190, H⟩ := H
       try dsimp only at H
       have A19 := Q.a A190
       clear A190
       have H' := Q.a H
       clear H
       go_wp2_with (first | (go_at_call 126; (with_reducible refine (nat_Div.calls kj9 x0_1 x1_1 t227 t228 t229 _ A19.out).mono ?_); rintro e w20 ⟨rfl, hb⟩; replace HB := Q.a (aAb (Q.bw HB) hb); (try clear hb)))
       repeat (go_quiet (first | (go_at_call 126; (with_reducible refine (nat_Div.calls kj9 x0_1 x1_1 t227 t228 t229 _ A19.out).mono ?_); rintro e w20 ⟨rfl, hb⟩; replace HB := Q.a (aAb (Q.bw HB) hb); (try clear hb))); try go_wp2_with (first | (go_at_call 126; (with_reducible refine (nat_Div.calls kj9 x0_1 x1_1 t227 t228 t229 _ A19.out).mono ?_); rintro e w20 ⟨rfl, hb⟩; replace HB := Q.a (aAb (Q.bw HB) hb); (try clear hb))))
       go_roundg kj9
       case measure => have := HK1.out; have := HJ9.out; omega
       case rel => exact ⟨(x1_1), (t228), Q.rs, Q.rs, H', ⟨by have := HK1.out; have := HJ9.out; omega⟩, ⟨Q.bw HB⟩⟩
end Go.Proofs.YtjefbecmeobegaaGreatDoor.P
