import Derived.Test.YtjefbecmeobegaaGreatDoorSpAl
import Derived.Test.YtjefbecmeobegaaGreatDoorSpS
import Derived.Test.YtjefbecmeobegaaGreatDoorTrLPointScaling
namespace Go.Proofs.YtjefbecmeobegaaGreatDoor.Sp
open Go Go.RowKit Sx NatA NatB NatC NatD NatI NatJ IntZ RatZ PtZ
def tbL2 (P : Program) : Tb := [(36, aAr), (35, aAI)] ++ tbL1 P
theorem okL2 : TbOk Tryz.prog X.G (tbL2 Tryz.prog) := .cons (by kernel_rfl) aQD (.cons (by kernel_rfl) aPV okL1)
set_option maxHeartbeats 4000000 in
theorem g_PointScaling : Sx.Good Tryz.prog X.G 7 ⟨[.agg 8, .agg 2], .v1 .one⟩ (F_true (kP ++ kZ ++ [])) := aAg okL2 (fun _ _ => X.G_below) 400 (by kernel_rfl) (by kernel_rfl : _ = some aCX) fun ds rs h => by
 obtain ⟨vs, h0, rfl, rfl⟩ := F_true.inv h
 obtain ⟨n01, a01, n02, a02, n03, a03, n04, a04, r1, rfl, h1⟩ := aQM (ks := (kZ ++ [])) h0
 obtain ⟨n11, a11, r2, rfl, h2⟩ := aQN (ks := ([])) h1
 obtain rfl := aPj h2
 clear h h0 h1 h2
 refine ⟨0, ?_⟩
 refine gC aEp awk (gP (aGQ true) (aOZ (b := !true) (by kernel_rfl) rfl ?_))
 rcases aNp n01 a01 n02 a02 n03 a03 n04 a04 with g1 | ⟨g1, i0⟩
 ·exact gC aCr g1 (gP (aBS _ _ .i64 1 1) (aHw (b := (1 : Int) == 1) (by kernel_rfl) rfl (aAd (by kernel_rfl))))
 refine gC aCr g1 (gP (aBS _ _ .i64 0 1) (aOZ (b := (0 : Int) == 1) (by kernel_rfl) rfl ?_))
 clear g1
 refine gP (aA6 aBd a11) (gP (aAT _ _ .i64 (a11.size : Int) 4) (aA0 (b := decide ((a11.size : Int) > 4)) (by kernel_rfl) (fun _ => aAd (by kernel_rfl)) (fun hk => ?_)))
 have hk := aBX (k := 4) hk
 obtain ⟨t1, t2, t3, t4⟩ := aNx i0
 obtain ⟨x, hx⟩ : ∃ v, v = Z n01 a01 := ⟨_, rfl⟩
 obtain ⟨y, hy⟩ : ∃ v, v = Z n02 a02 := ⟨_, rfl⟩
 obtain ⟨z, hz⟩ : ∃ v, v = Z n03 a03 := ⟨_, rfl⟩
 obtain ⟨w, hw⟩ : ∃ v, v = Z n04 a04 := ⟨_, rfl⟩
 obtain ⟨k, hkk⟩ : ∃ v, v = Z n11 a11 := ⟨_, rfl⟩
 obtain ⟨j1, j2, j3, j4⟩ := i0.s4
 obtain ⟨u0, hu0⟩ : ∃ v, v = pv4 (x, y, z, w) := ⟨_, rfl⟩
 have Pu0 : PA 6 u0 [b_ n01, s_ a01, b_ n02, s_ a02, b_ n03, s_ a03, b_ n04, s_ a04] := by rw [hu0, hx, hy, hz, hw]; exact PA.raw i0
 have s_u0 : Sv 6 u0 := Pu0.sv (by decide)
 have Ix : ZI 6 x [b_ n01, s_ a01] := by rw [hx]; exact ZI.raw _ t1
 have Iy : ZI 6 y [b_ n02, s_ a02] := by rw [hy]; exact ZI.raw _ t2
 have Iz : ZI 6 z [b_ n03, s_ a03] := by rw [hz]; exact ZI.raw _ t3
 have Iw : ZI 6 w [b_ n04, s_ a04] := by rw [hw]; exact ZI.raw _ t4
 have Ik : ZI 4 k [b_ n11, s_ a11] := by rw [hkk]; exact ZI.raw _ hk
 have c2 : aAI [b_ n11, s_ a11] = some [i_ (sgn k)] := I1.at Ik (by decide)
 have c3 : aAI [b_ n04, s_ a04] = some [i_ (sgn w)] := I1.at Iw (by decide)
 obtain ⟨p4, hp4⟩ : ∃ v, v = x * k := ⟨_, rfl⟩
 have s_p4 : Sz 10 p4 := by rw [hp4]; exact Ix.sz.mul Ik.sz
 have c5 : aAr ([b_ n01, s_ a01] ++ [b_ n11, s_ a11]) = some (enc p4) := by rw [hp4]; exact I2.at Ix Ik (by decide) (by decide)
 obtain ⟨p6, hp6⟩ : ∃ v, v = y * k := ⟨_, rfl⟩
 have s_p6 : Sz 10 p6 := by rw [hp6]; exact Iy.sz.mul Ik.sz
 have c7 : aAr ([b_ n02, s_ a02] ++ [b_ n11, s_ a11]) = some (enc p6) := by rw [hp6]; exact I2.at Iy Ik (by decide) (by decide)
 obtain ⟨p8, hp8⟩ : ∃ v, v = z * k := ⟨_, rfl⟩
 have s_p8 : Sz 10 p8 := by rw [hp8]; exact Iz.sz.mul Ik.sz
 have c9 : aAr ([b_ n03, s_ a03] ++ [b_ n11, s_ a11]) = some (enc p8) := by rw [hp8]; exact I2.at Iz Ik (by decide) (by decide)
 obtain ⟨p10, hp10⟩ : ∃ v, v = w * k := ⟨_, rfl⟩
 have s_p10 : Sz 10 p10 := by rw [hp10]; exact Iw.sz.mul Ik.sz
 have c11 : aAr ([b_ n04, s_ a04] ++ [b_ n11, s_ a11]) = some (enc p10) := by rw [hp10]; exact I2.at Iw Ik (by decide) (by decide)
 have hq : sgn k ≠ 0 → sgn w ≠ 0 → pv4 (p4, p6, p8, p10) = u0 := by rw [hp4, hp6, hp8, hp10, hu0]; exact aNy
 have R0 := PA.raw (PI.mk (ZI.can s_p4) (ZI.can s_p6) (ZI.can s_p8) (ZI.can s_p10))
 have c12 : aAO ([b_ n01, s_ a01, b_ n02, s_ a02, b_ n03, s_ a03, b_ n04, s_ a04]) = some (aAB u0) := aGq Pu0 (by decide)
 have c13 : aAO (aAB u0) = some (aAB u0) := aGq (PA.can s_u0) (by decide)
 have c14 : aA4 ([b_ n01, s_ a01, b_ n02, s_ a02, b_ n03, s_ a03, b_ n04, s_ a04]) = some (aCH u0) := aGG Pu0 (by decide)
 clear hx hy hz hw hkk hu0 hp4 hp6 hp8 hp10
 refine gC aAI c2 ?_
 refine gP (aBS _ _ .i64 (sgn k) 0) ?_
 refine aA0 (b := sgn k == 0) (by kernel_rfl) (fun _ => aAd (by kernel_rfl)) (fun k0 => ?_)
 refine gC aAI c3 ?_
 refine gP (aBS _ _ .i64 (sgn w) 0) ?_
 refine aA0 (b := sgn w == 0) (by kernel_rfl) (fun _ => aAd (by kernel_rfl)) (fun w0 => ?_)
 refine gC aAr c5 ?_
 refine gC aAr c7 ?_
 refine gC aAr c9 ?_
 refine gC aAr c11 ?_
 have hq := hq (by simpa using k0) (by simpa using w0)
 rw [hq] at R0
 refine gC aAO c12 ?_
 have n2 : aAO ((enc p4 ++ (enc p6 ++ (enc p8 ++ enc p10)))) = some (aAB u0) := aGq R0 (by decide)
 refine gC aAO n2 ?_
 refine aAi (by kernel_rfl) (aO1 _ u0 u0) ?_
 refine aHw (b := decide (u0 = u0)) (by kernel_rfl) (decide_eq_true rfl) ?_
 refine gC aAO c13 ?_
 refine aAi (by kernel_rfl) (aO1 _ u0 u0) ?_
 refine aHw (b := decide (u0 = u0)) (by kernel_rfl) (decide_eq_true rfl) ?_
 have n4 : aFl ([b_ n01, s_ a01, b_ n02, s_ a02, b_ n03, s_ a03, b_ n04, s_ a04] ++ (enc p4 ++ (enc p6 ++ (enc p8 ++ enc p10)))) = some [i_ (lex u0 u0)] := aPm Pu0 R0 (by decide) (by decide)
 refine gC aFl n4 ?_
 refine gP (aBS _ _ .i64 (lex u0 u0) 0) ?_
 refine aHw (b := lex u0 u0 == 0) (by kernel_rfl) (by rw [aNv]; rfl) ?_
 have n5 : aA4 ((enc p4 ++ (enc p6 ++ (enc p8 ++ enc p10)))) = some (aCH u0) := aGG R0 (by decide)
 refine gC aA4 n5 ?_
 refine gC aA4 c14 ?_
 refine aAi (by kernel_rfl) (aQa _ u0 u0) ?_
 rw [decide_eq_true rfl]
 exact aAd (by kernel_rfl)
end Go.Proofs.YtjefbecmeobegaaGreatDoor.Sp
