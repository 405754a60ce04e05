import Derived.Test.YtjefbecmeobegaaGreatDoorSpAl
import Derived.Test.YtjefbecmeobegaaGreatDoorTrLPointOrder
namespace Go.Proofs.YtjefbecmeobegaaGreatDoor.Sp
open Go Go.RowKit Go.Proofs.YtjefbecmeobegaaGreatDoor.Sx Go.Proofs.YtjefbecmeobegaaGreatDoor.NatA Go.Proofs.YtjefbecmeobegaaGreatDoor.NatB Go.Proofs.YtjefbecmeobegaaGreatDoor.NatC Go.Proofs.YtjefbecmeobegaaGreatDoor.NatD Go.Proofs.YtjefbecmeobegaaGreatDoor.NatI Go.Proofs.YtjefbecmeobegaaGreatDoor.NatJ Go.Proofs.YtjefbecmeobegaaGreatDoor.IntZ Go.Proofs.YtjefbecmeobegaaGreatDoor.RatZ Go.Proofs.YtjefbecmeobegaaGreatDoor.PtZ
set_option maxHeartbeats 4000000 in
theorem g_PointOrder : Sx.Good Tryz.prog X.G 6 ⟨[.agg 24, .agg 9], .v1 .one⟩ (F_true (kP ++ kP ++ kP ++ kV ++ [])) := aAj aNG (fun _ _ => X.G_below) 400 (by kernel_rfl) (by kernel_rfl : _ = some aD1) fun ds rs h => by
 obtain ⟨vs, h0, rfl, rfl⟩ := F_true.inv h
 obtain ⟨n01, a01, n02, a02, n03, a03, n04, a04, r1, rfl, h1⟩ := aEN (ks := (kP ++ kP ++ kV ++ [])) h0
 obtain ⟨n11, a11, n12, a12, n13, a13, n14, a14, r2, rfl, h2⟩ := aEN (ks := (kP ++ kV ++ [])) h1
 obtain ⟨n21, a21, n22, a22, n23, a23, n24, a24, r3, rfl, h3⟩ := aEN (ks := (kV ++ [])) h2
 obtain ⟨n31, a31, b31, n32, a32, b32, n33, a33, b33, r4, rfl, h4⟩ := aOL (ks := ([])) h3
 obtain rfl := aHD h4
 clear h h0 h1 h2 h3 h4
 refine ⟨0, ?_⟩
 refine aAa aCN (by kernel_rfl) (by kernel_rfl) awk rfl (aAd (by kernel_rfl) (aE0 true) (aBk (b := !true) (by kernel_rfl) rfl ?_))
 rcases aCq n01 a01 n02 a02 n03 a03 n04 a04 with g1 | ⟨g1, i0⟩
 ·exact aAa aAH (by kernel_rfl) (by kernel_rfl) g1 rfl (aAd (by kernel_rfl) (aA8 _ _ .i64 1 1) (aBr (b := (1 : Int) == 1) (by kernel_rfl) rfl (aAe (by kernel_rfl))))
 refine aAa aAH (by kernel_rfl) (by kernel_rfl) g1 rfl (aAd (by kernel_rfl) (aA8 _ _ .i64 0 1) (aBk (b := (0 : Int) == 1) (by kernel_rfl) rfl ?_))
 clear g1
 rcases aCq n11 a11 n12 a12 n13 a13 n14 a14 with g1 | ⟨g1, i1⟩
 ·exact aAa aAH (by kernel_rfl) (by kernel_rfl) g1 rfl (aAd (by kernel_rfl) (aA8 _ _ .i64 1 1) (aBr (b := (1 : Int) == 1) (by kernel_rfl) rfl (aAe (by kernel_rfl))))
 refine aAa aAH (by kernel_rfl) (by kernel_rfl) g1 rfl (aAd (by kernel_rfl) (aA8 _ _ .i64 0 1) (aBk (b := (0 : Int) == 1) (by kernel_rfl) rfl ?_))
 clear g1
 rcases aCq n21 a21 n22 a22 n23 a23 n24 a24 with g1 | ⟨g1, i2⟩
 ·exact aAa aAH (by kernel_rfl) (by kernel_rfl) g1 rfl (aAd (by kernel_rfl) (aA8 _ _ .i64 1 1) (aBr (b := (1 : Int) == 1) (by kernel_rfl) rfl (aAe (by kernel_rfl))))
 refine aAa aAH (by kernel_rfl) (by kernel_rfl) g1 rfl (aAd (by kernel_rfl) (aA8 _ _ .i64 0 1) (aBk (b := (0 : Int) == 1) (by kernel_rfl) rfl ?_))
 clear g1
 rcases aHC n31 a31 b31 n32 a32 b32 n33 a33 b33 with g1 | ⟨g1, i3x, i3y, i3z⟩
 ·exact aAa aBP (by kernel_rfl) (by kernel_rfl) g1 rfl (aAd (by kernel_rfl) (aA8 _ _ .i64 1 1) (aBr (b := (1 : Int) == 1) (by kernel_rfl) rfl (aAe (by kernel_rfl))))
 refine aAa aBP (by kernel_rfl) (by kernel_rfl) g1 rfl (aAd (by kernel_rfl) (aA8 _ _ .i64 0 1) (aBk (b := (0 : Int) == 1) (by kernel_rfl) rfl ?_))
 clear g1
 obtain ⟨u0, hu0⟩ : ∃ v, v = pv4 (Z n01 a01, Z n02 a02, Z n03 a03, Z n04 a04) := ⟨_, rfl⟩
 have Pu0 : PA 6 u0 [b_ n01, s_ a01, b_ n02, s_ a02, b_ n03, s_ a03, b_ n04, s_ a04] := by rw [hu0]; exact PA.raw i0
 have s_u0 : Sv 6 u0 := Pu0.sv (by decide)
 obtain ⟨u1, hu1⟩ : ∃ v, v = pv4 (Z n11 a11, Z n12 a12, Z n13 a13, Z n14 a14) := ⟨_, rfl⟩
 have Pu1 : PA 6 u1 [b_ n11, s_ a11, b_ n12, s_ a12, b_ n13, s_ a13, b_ n14, s_ a14] := by rw [hu1]; exact PA.raw i1
 have s_u1 : Sv 6 u1 := Pu1.sv (by decide)
 obtain ⟨u2, hu2⟩ : ∃ v, v = pv4 (Z n21 a21, Z n22 a22, Z n23 a23, Z n24 a24) := ⟨_, rfl⟩
 have Pu2 : PA 6 u2 [b_ n21, s_ a21, b_ n22, s_ a22, b_ n23, s_ a23, b_ n24, s_ a24] := by rw [hu2]; exact PA.raw i2
 have s_u2 : Sv 6 u2 := Pu2.sv (by decide)
 obtain ⟨x3, hx3⟩ : ∃ v, v = qv n31 a31 b31 := ⟨_, rfl⟩
 have Px3 : RI 6 x3 [b_ n31, s_ a31, s_ b31] := by rw [hx3]; exact i3x
 have s_x3 : Sq 6 x3 := Px3.sq (by decide)
 obtain ⟨y3, hy3⟩ : ∃ v, v = qv n32 a32 b32 := ⟨_, rfl⟩
 have Py3 : RI 6 y3 [b_ n32, s_ a32, s_ b32] := by rw [hy3]; exact i3y
 have s_y3 : Sq 6 y3 := Py3.sq (by decide)
 obtain ⟨z3, hz3⟩ : ∃ v, v = qv n33 a33 b33 := ⟨_, rfl⟩
 have Pz3 : RI 6 z3 [b_ n33, s_ a33, s_ b33] := by rw [hz3]; exact i3z
 have s_z3 : Sq 6 z3 := Pz3.sq (by decide)
 have w64 : ∀ i : Int, -10 ≤ i → i ≤ 10 → IntKind.i64.wrap i = i := fun i h0 h1 => by rw [IntKind.wrap_i64]; omega
 have c5 : aAA ([b_ n01, s_ a01, b_ n02, s_ a02, b_ n03, s_ a03, b_ n04, s_ a04] ++ [b_ n11, s_ a11, b_ n12, s_ a12, b_ n13, s_ a13, b_ n14, s_ a14]) = some [i_ (lex u0 u1)] := aB4 Pu0 Pu1 (by decide) (by decide)
 have c6 : aAA ([b_ n11, s_ a11, b_ n12, s_ a12, b_ n13, s_ a13, b_ n14, s_ a14] ++ [b_ n01, s_ a01, b_ n02, s_ a02, b_ n03, s_ a03, b_ n04, s_ a04]) = some [i_ (lex u1 u0)] := aB4 Pu1 Pu0 (by decide) (by decide)
 have c7 : ((lex u0 u1) != IntKind.i64.wrap (0 - (lex u1 u0))) = false := by have e := aNL u0 u1; have e2 := aMF u0 u1; rw [w64 _ (by omega) (by omega), ← e]; simp
 have c8 : aAA ([b_ n01, s_ a01, b_ n02, s_ a02, b_ n03, s_ a03, b_ n04, s_ a04] ++ [b_ n01, s_ a01, b_ n02, s_ a02, b_ n03, s_ a03, b_ n04, s_ a04]) = some [i_ (lex u0 u0)] := aB4 Pu0 Pu0 (by decide) (by decide)
 have c9 : ((lex u0 u0) != 0) = false := by rw [aJ4]; rfl
 obtain ⟨p10, hp10⟩ : ∃ v, v = vadd u0 (x3, y3, z3) := ⟨_, rfl⟩
 have s_p10 : Sv 13 p10 := by rw [hp10]; exact Sv.vadd s_u0 (show Sv 6 (x3, y3, z3) from ⟨s_x3, s_y3, s_z3⟩)
 have c11 : aB9 ([b_ n01, s_ a01, b_ n02, s_ a02, b_ n03, s_ a03, b_ n04, s_ a04] ++ ([b_ n31, s_ a31, s_ b31] ++ ([b_ n32, s_ a32, s_ b32] ++ [b_ n33, s_ a33, s_ b33]))) = some (aAr p10) := by rw [hp10]; exact aGk Pu0 (VI.mk (Px3) (Py3) (Pz3)) (by decide) (by decide)
 obtain ⟨p12, hp12⟩ : ∃ v, v = vadd u1 (x3, y3, z3) := ⟨_, rfl⟩
 have s_p12 : Sv 13 p12 := by rw [hp12]; exact Sv.vadd s_u1 (show Sv 6 (x3, y3, z3) from ⟨s_x3, s_y3, s_z3⟩)
 have c13 : aB9 ([b_ n11, s_ a11, b_ n12, s_ a12, b_ n13, s_ a13, b_ n14, s_ a14] ++ ([b_ n31, s_ a31, s_ b31] ++ ([b_ n32, s_ a32, s_ b32] ++ [b_ n33, s_ a33, s_ b33]))) = some (aAr p12) := by rw [hp12]; exact aGk Pu1 (VI.mk (Px3) (Py3) (Pz3)) (by decide) (by decide)
 have c14 : aAA (aAr p10 ++ aAr p12) = some [i_ (lex p10 p12)] := aB4 (PA.can s_p10) (PA.can s_p12) (by decide) (by decide)
 have c15 : aAA ([b_ n01, s_ a01, b_ n02, s_ a02, b_ n03, s_ a03, b_ n04, s_ a04] ++ [b_ n11, s_ a11, b_ n12, s_ a12, b_ n13, s_ a13, b_ n14, s_ a14]) = some [i_ (lex u0 u1)] := aB4 Pu0 Pu1 (by decide) (by decide)
 have c16 : ((lex p10 p12) != (lex u0 u1)) = false := by rw [hp10, hp12, aP0]; simp
 have c17 : aAA ([b_ n01, s_ a01, b_ n02, s_ a02, b_ n03, s_ a03, b_ n04, s_ a04] ++ [b_ n11, s_ a11, b_ n12, s_ a12, b_ n13, s_ a13, b_ n14, s_ a14]) = some [i_ (lex u0 u1)] := aB4 Pu0 Pu1 (by decide) (by decide)
 have c18 : aAA ([b_ n11, s_ a11, b_ n12, s_ a12, b_ n13, s_ a13, b_ n14, s_ a14] ++ [b_ n21, s_ a21, b_ n22, s_ a22, b_ n23, s_ a23, b_ n24, s_ a24]) = some [i_ (lex u1 u2)] := aB4 Pu1 Pu2 (by decide) (by decide)
 have c19 : aAA ([b_ n01, s_ a01, b_ n02, s_ a02, b_ n03, s_ a03, b_ n04, s_ a04] ++ [b_ n21, s_ a21, b_ n22, s_ a22, b_ n23, s_ a23, b_ n24, s_ a24]) = some [i_ (lex u0 u2)] := aB4 Pu0 Pu2 (by decide) (by decide)
 have c20 : ¬ (lex u0 u1) > 0 → ¬ (lex u1 u2) > 0 → (lex u0 u2) ≤ 0 := aMG u0 u1 u2
 clear hu0 hu1 hu2 hx3 hy3 hz3 hp10 hp12
 refine aAa aAA (by kernel_rfl) (by kernel_rfl) c5 rfl ?_
 refine aAa aAA (by kernel_rfl) (by kernel_rfl) c6 rfl ?_
 refine aAd (by kernel_rfl) (aJO .i64 (lex u1 u0)) ?_
 refine aAd (by kernel_rfl) (aDC _ _ .i64 (lex u0 u1) (IntKind.i64.wrap (0 - (lex u1 u0)))) ?_
 refine aBk (b := (lex u0 u1) != IntKind.i64.wrap (0 - (lex u1 u0))) (by kernel_rfl) (c7) ?_
 refine aAa aAA (by kernel_rfl) (by kernel_rfl) c8 rfl ?_
 refine aAd (by kernel_rfl) (aDC _ _ .i64 (lex u0 u0) 0) ?_
 refine aBk (b := (lex u0 u0) != 0) (by kernel_rfl) (c9) ?_
 refine aAa aB9 (by kernel_rfl) (by kernel_rfl) c11 rfl ?_
 refine aAa aB9 (by kernel_rfl) (by kernel_rfl) c13 rfl ?_
 refine aAa aAA (by kernel_rfl) (by kernel_rfl) c14 rfl ?_
 refine aAa aAA (by kernel_rfl) (by kernel_rfl) c15 rfl ?_
 refine aAd (by kernel_rfl) (aDC _ _ .i64 (lex p10 p12) (lex u0 u1)) ?_
 refine aBk (b := (lex p10 p12) != (lex u0 u1)) (by kernel_rfl) (c16) ?_
 refine aAa aAA (by kernel_rfl) (by kernel_rfl) c17 rfl ?_
 refine aAd (by kernel_rfl) (aBi _ _ .i64 (lex u0 u1) 0) ?_
 refine aA2 (b := decide ((lex u0 u1) > 0)) (by kernel_rfl) (fun _ => aAe (by kernel_rfl)) (fun hk => ?_)
 refine aAa aAA (by kernel_rfl) (by kernel_rfl) c18 rfl ?_
 refine aAd (by kernel_rfl) (aBi _ _ .i64 (lex u1 u2) 0) ?_
 refine aA2 (b := decide ((lex u1 u2) > 0)) (by kernel_rfl) (fun _ => aAe (by kernel_rfl)) (fun hj => ?_)
 refine aAa aAA (by kernel_rfl) (by kernel_rfl) c19 rfl ?_
 refine aAd (by kernel_rfl) (aHM _ _ .i64 (lex u0 u2) 0) ?_
 have hz := c20 (of_decide_eq_false hk) (of_decide_eq_false hj)
 rw [decide_eq_true hz]
 exact aAe (by kernel_rfl)
end Go.Proofs.YtjefbecmeobegaaGreatDoor.Sp
