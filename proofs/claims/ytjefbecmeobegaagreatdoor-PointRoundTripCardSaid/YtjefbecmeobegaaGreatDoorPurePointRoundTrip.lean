import Derived.Test.YtjefbecmeobegaaGreatDoorSpT4
import Derived.Test.YtjefbecmeobegaaGreatDoorSpAl
import Derived.Test.YtjefbecmeobegaaGreatDoorTrLPointRoundTrip
namespace Go.Proofs.YtjefbecmeobegaaGreatDoor.Sp
open Go Go.RowKit Go.Proofs.YtjefbecmeobegaaGreatDoor.Sx Go.Proofs.YtjefbecmeobegaaGreatDoor.NatA Go.Proofs.YtjefbecmeobegaaGreatDoor.NatB Go.Proofs.YtjefbecmeobegaaGreatDoor.NatC Go.Proofs.YtjefbecmeobegaaGreatDoor.NatD Go.Proofs.YtjefbecmeobegaaGreatDoor.NatI Go.Proofs.YtjefbecmeobegaaGreatDoor.NatJ Go.Proofs.YtjefbecmeobegaaGreatDoor.IntZ Go.Proofs.YtjefbecmeobegaaGreatDoor.RatZ Go.Proofs.YtjefbecmeobegaaGreatDoor.PtZ
set_option maxHeartbeats 4000000 in
theorem g_PointRoundTrip : Sx.Good Tryz.prog X.G 5 ⟨[.agg 8, .agg 8, .agg 9], .v1 .one⟩ (F_true (kP ++ kP ++ kV ++ [])) := aAj aNG (fun _ _ => X.G_below) 400 (by kernel_rfl) (by kernel_rfl : _ = some aCA) fun ds rs h => by
 obtain ⟨vs, h0, rfl, rfl⟩ := F_true.inv h
 obtain ⟨n01, a01, n02, a02, n03, a03, n04, a04, r1, rfl, h1⟩ := aEN (ks := (kP ++ kV ++ [])) h0
 obtain ⟨n11, a11, n12, a12, n13, a13, n14, a14, r2, rfl, h2⟩ := aEN (ks := (kV ++ [])) h1
 obtain ⟨n21, a21, b21, n22, a22, b22, n23, a23, b23, r3, rfl, h3⟩ := aOL (ks := ([])) h2
 obtain rfl := aHD h3
 clear h h0 h1 h2 h3
 refine ⟨0, ?_⟩
 refine aAa aCN (by kernel_rfl) (by kernel_rfl) awk rfl (aAd (by kernel_rfl) (aE0 true) (aBk (b := !true) (by kernel_rfl) rfl ?_))
 rcases aCq n01 a01 n02 a02 n03 a03 n04 a04 with g1 | ⟨g1, i0⟩
 ·exact aAa aAH (by kernel_rfl) (by kernel_rfl) g1 rfl (aAd (by kernel_rfl) (aA8 _ _ .i64 1 1) (aBr (b := (1 : Int) == 1) (by kernel_rfl) rfl (aAe (by kernel_rfl))))
 refine aAa aAH (by kernel_rfl) (by kernel_rfl) g1 rfl (aAd (by kernel_rfl) (aA8 _ _ .i64 0 1) (aBk (b := (0 : Int) == 1) (by kernel_rfl) rfl ?_))
 clear g1
 rcases aCq n11 a11 n12 a12 n13 a13 n14 a14 with g1 | ⟨g1, i1⟩
 ·exact aAa aAH (by kernel_rfl) (by kernel_rfl) g1 rfl (aAd (by kernel_rfl) (aA8 _ _ .i64 1 1) (aBr (b := (1 : Int) == 1) (by kernel_rfl) rfl (aAe (by kernel_rfl))))
 refine aAa aAH (by kernel_rfl) (by kernel_rfl) g1 rfl (aAd (by kernel_rfl) (aA8 _ _ .i64 0 1) (aBk (b := (0 : Int) == 1) (by kernel_rfl) rfl ?_))
 clear g1
 rcases aHC n21 a21 b21 n22 a22 b22 n23 a23 b23 with g1 | ⟨g1, i2x, i2y, i2z⟩
 ·exact aAa aBP (by kernel_rfl) (by kernel_rfl) g1 rfl (aAd (by kernel_rfl) (aA8 _ _ .i64 1 1) (aBr (b := (1 : Int) == 1) (by kernel_rfl) rfl (aAe (by kernel_rfl))))
 refine aAa aBP (by kernel_rfl) (by kernel_rfl) g1 rfl (aAd (by kernel_rfl) (aA8 _ _ .i64 0 1) (aBk (b := (0 : Int) == 1) (by kernel_rfl) rfl ?_))
 clear g1
 obtain ⟨u0, hu0⟩ : ∃ v, v = pv4 (Z n01 a01, Z n02 a02, Z n03 a03, Z n04 a04) := ⟨_, rfl⟩
 have Pu0 : PA 6 u0 [b_ n01, s_ a01, b_ n02, s_ a02, b_ n03, s_ a03, b_ n04, s_ a04] := by rw [hu0]; exact PA.raw i0
 have s_u0 : Sv 6 u0 := Pu0.sv (by decide)
 obtain ⟨u1, hu1⟩ : ∃ v, v = pv4 (Z n11 a11, Z n12 a12, Z n13 a13, Z n14 a14) := ⟨_, rfl⟩
 have Pu1 : PA 6 u1 [b_ n11, s_ a11, b_ n12, s_ a12, b_ n13, s_ a13, b_ n14, s_ a14] := by rw [hu1]; exact PA.raw i1
 have s_u1 : Sv 6 u1 := Pu1.sv (by decide)
 obtain ⟨x2, hx2⟩ : ∃ v, v = qv n21 a21 b21 := ⟨_, rfl⟩
 have Px2 : RI 6 x2 [b_ n21, s_ a21, s_ b21] := by rw [hx2]; exact i2x
 have s_x2 : Sq 6 x2 := Px2.sq (by decide)
 obtain ⟨y2, hy2⟩ : ∃ v, v = qv n22 a22 b22 := ⟨_, rfl⟩
 have Py2 : RI 6 y2 [b_ n22, s_ a22, s_ b22] := by rw [hy2]; exact i2y
 have s_y2 : Sq 6 y2 := Py2.sq (by decide)
 obtain ⟨z2, hz2⟩ : ∃ v, v = qv n23 a23 b23 := ⟨_, rfl⟩
 have Pz2 : RI 6 z2 [b_ n23, s_ a23, s_ b23] := by rw [hz2]; exact i2z
 have s_z2 : Sq 6 z2 := Pz2.sq (by decide)
 have c4 : aAw ([b_ n01, s_ a01, b_ n02, s_ a02, b_ n03, s_ a03, b_ n04, s_ a04]) = some (aCj u0) := aD3 Pu0 (by decide)
 obtain ⟨p5, hp5⟩ : ∃ v, v = -x2 := ⟨_, rfl⟩
 have s_p5 : Sq 6 p5 := by rw [hp5]; exact s_x2.neg
 have c6 : aCz ([b_ n21, s_ a21, s_ b21]) = some (encR p5) := by rw [hp5]; exact R1.at Px2 (by decide)
 obtain ⟨p7, hp7⟩ : ∃ v, v = u0.1 + x2 := ⟨_, rfl⟩
 have s_p7 : Sq 13 p7 := by rw [hp7]; exact Sq.add s_u0.1 s_x2
 have c8 : aBy (encR u0.1 ++ [b_ n21, s_ a21, s_ b21]) = some (encR p7) := by rw [hp7]; exact R2.at (RI.can s_u0.1) Px2 (by decide) (by decide)
 obtain ⟨p9, hp9⟩ : ∃ v, v = -y2 := ⟨_, rfl⟩
 have s_p9 : Sq 6 p9 := by rw [hp9]; exact s_y2.neg
 have c10 : aCz ([b_ n22, s_ a22, s_ b22]) = some (encR p9) := by rw [hp9]; exact R1.at Py2 (by decide)
 obtain ⟨p11, hp11⟩ : ∃ v, v = u0.2.1 + y2 := ⟨_, rfl⟩
 have s_p11 : Sq 13 p11 := by rw [hp11]; exact Sq.add s_u0.2.1 s_y2
 have c12 : aBy (encR u0.2.1 ++ [b_ n22, s_ a22, s_ b22]) = some (encR p11) := by rw [hp11]; exact R2.at (RI.can s_u0.2.1) Py2 (by decide) (by decide)
 obtain ⟨p13, hp13⟩ : ∃ v, v = -z2 := ⟨_, rfl⟩
 have s_p13 : Sq 6 p13 := by rw [hp13]; exact s_z2.neg
 have c14 : aCz ([b_ n23, s_ a23, s_ b23]) = some (encR p13) := by rw [hp13]; exact R1.at Pz2 (by decide)
 obtain ⟨p15, hp15⟩ : ∃ v, v = u0.2.2 + z2 := ⟨_, rfl⟩
 have s_p15 : Sq 13 p15 := by rw [hp15]; exact Sq.add s_u0.2.2 s_z2
 have c16 : aBy (encR u0.2.2 ++ [b_ n23, s_ a23, s_ b23]) = some (encR p15) := by rw [hp15]; exact R2.at (RI.can s_u0.2.2) Pz2 (by decide) (by decide)
 obtain ⟨p17, hp17⟩ : ∃ v, v = vadd u0 (x2, y2, z2) := ⟨_, rfl⟩
 have s_p17 : Sv 13 p17 := by rw [hp17]; exact Sv.vadd s_u0 (show Sv 6 (x2, y2, z2) from ⟨s_x2, s_y2, s_z2⟩)
 have c18 : aB9 ([b_ n01, s_ a01, b_ n02, s_ a02, b_ n03, s_ a03, b_ n04, s_ a04] ++ ([b_ n21, s_ a21, s_ b21] ++ ([b_ n22, s_ a22, s_ b22] ++ [b_ n23, s_ a23, s_ b23]))) = some (aAr p17) := by rw [hp17]; exact aGk Pu0 (VI.mk (Px2) (Py2) (Pz2)) (by decide) (by decide)
 have c19 : aAw ([b_ n01, s_ a01, b_ n02, s_ a02, b_ n03, s_ a03, b_ n04, s_ a04]) = some (aCj u0) := aD3 Pu0 (by decide)
 have c20 : aAw ([b_ n11, s_ a11, b_ n12, s_ a12, b_ n13, s_ a13, b_ n14, s_ a14]) = some (aCj u1) := aD3 Pu1 (by decide)
 have c21 : aBg (aCj u0) = some (aAr u0) := aEP (VI.can s_u0) (by decide)
 have c22 : aA9 ([b_ n01, s_ a01, b_ n02, s_ a02, b_ n03, s_ a03, b_ n04, s_ a04]) = some (aAr u0) := aCM Pu0 (by decide)
 have c23 : aAw (aAr p17) = some (aCj p17) := aD3 (PA.can s_p17) (by decide)
 have c24 : p17 = (p7, p11, p15) := by rw [hp17, hp7, hp11, hp15]; rfl
 have c25 : vadd p17 (p5, p9, p13) = u0 := by rw [hp17, hp5, hp9, hp13]; exact aNN _ _ _ _
 have c26 : aB9 (aAr p17 ++ (encR p5 ++ (encR p9 ++ encR p13))) = some (aAr u0) := by rw [← c25]; exact aGk (PA.can s_p17) (VI.mk ((RI.can s_p5)) ((RI.can s_p9)) ((RI.can s_p13))) (by decide) (by decide)
 have c27 : aA9 ([b_ n01, s_ a01, b_ n02, s_ a02, b_ n03, s_ a03, b_ n04, s_ a04]) = some (aAr u0) := aCM Pu0 (by decide)
 have c28 : aA9 ([b_ n01, s_ a01, b_ n02, s_ a02, b_ n03, s_ a03, b_ n04, s_ a04]) = some (aAr u0) := aCM Pu0 (by decide)
 have c29 : aA9 ([b_ n11, s_ a11, b_ n12, s_ a12, b_ n13, s_ a13, b_ n14, s_ a14]) = some (aAr u1) := aCM Pu1 (by decide)
 have c30 : aAA ([b_ n01, s_ a01, b_ n02, s_ a02, b_ n03, s_ a03, b_ n04, s_ a04] ++ [b_ n11, s_ a11, b_ n12, s_ a12, b_ n13, s_ a13, b_ n14, s_ a14]) = some [i_ (lex u0 u1)] := aB4 Pu0 Pu1 (by decide) (by decide)
 have c31 : (decide (u0 = u1) == ((lex u0 u1) == 0)) = true := by have e : ((lex u0 u1) == 0) = decide (u0 = u1) := (by rw [Bool.eq_iff_iff, beq_iff_eq, decide_eq_true_iff]; exact aNM _ _); rw [e]; exact beq_self_eq_true _
 have c32 : aCy ([b_ n01, s_ a01, b_ n02, s_ a02, b_ n03, s_ a03, b_ n04, s_ a04]) = some [s_ (aAY u0)] := aHE Pu0 (by decide)
 have c33 : aCy ([b_ n11, s_ a11, b_ n12, s_ a12, b_ n13, s_ a13, b_ n14, s_ a14]) = some [s_ (aAY u1)] := aHE Pu1 (by decide)
 have c34 : (decide (u0 = u1) == decide (aAY u0 = aAY u1)) = true := by rw [aOK]; exact beq_self_eq_true _
 clear hu0 hu1 hx2 hy2 hz2 hp5 hp7 hp9 hp11 hp13 hp15 hp17
 refine aAa aAw (by kernel_rfl) (by kernel_rfl) c4 rfl ?_
 refine aAa aCz (by kernel_rfl) (by kernel_rfl) c6 rfl ?_
 refine aAa aBy (by kernel_rfl) (by kernel_rfl) c8 rfl ?_
 refine aAa aCz (by kernel_rfl) (by kernel_rfl) c10 rfl ?_
 refine aAa aBy (by kernel_rfl) (by kernel_rfl) c12 rfl ?_
 refine aAa aCz (by kernel_rfl) (by kernel_rfl) c14 rfl ?_
 refine aAa aBy (by kernel_rfl) (by kernel_rfl) c16 rfl ?_
 refine aAa aB9 (by kernel_rfl) (by kernel_rfl) c18 rfl ?_
 refine aAa aAw (by kernel_rfl) (by kernel_rfl) c19 rfl ?_
 refine aAa aAw (by kernel_rfl) (by kernel_rfl) c20 rfl ?_
 refine aAd (by kernel_rfl) (aMC _ u0 u1) ?_
 refine aAa aBg (by kernel_rfl) (by kernel_rfl) c21 rfl ?_
 refine aAa aA9 (by kernel_rfl) (by kernel_rfl) c22 rfl ?_
 refine aAd (by kernel_rfl) (aL7 _ u0 u0) ?_
 refine aBr (b := decide (u0 = u0)) (by kernel_rfl) (decide_eq_true rfl) ?_
 refine aAa aAw (by kernel_rfl) (by kernel_rfl) c23 rfl ?_
 refine aAd (by kernel_rfl) (aMC _ p17 (p7, p11, p15)) ?_
 refine aBr (b := decide (p17 = (p7, p11, p15))) (by kernel_rfl) (decide_eq_true c24) ?_
 refine aAa aB9 (by kernel_rfl) (by kernel_rfl) c26 rfl ?_
 refine aAa aA9 (by kernel_rfl) (by kernel_rfl) c27 rfl ?_
 refine aAd (by kernel_rfl) (aL7 _ u0 u0) ?_
 refine aBr (b := decide (u0 = u0)) (by kernel_rfl) (decide_eq_true rfl) ?_
 refine aAa aA9 (by kernel_rfl) (by kernel_rfl) c28 rfl ?_
 refine aAa aA9 (by kernel_rfl) (by kernel_rfl) c29 rfl ?_
 refine aAd (by kernel_rfl) (aL7 _ u0 u1) ?_
 refine aAd (by kernel_rfl) (aGs _ _ (decide (u0 = u1)) (decide (u0 = u1)) aBs) ?_
 refine aBr (b := decide (u0 = u1) == decide (u0 = u1)) (by kernel_rfl) (beq_self_eq_true _) ?_
 refine aAa aAA (by kernel_rfl) (by kernel_rfl) c30 rfl ?_
 refine aAd (by kernel_rfl) (aA8 _ _ .i64 (lex u0 u1) 0) ?_
 refine aAd (by kernel_rfl) (aGs _ _ (decide (u0 = u1)) ((lex u0 u1) == 0) aBs) ?_
 refine aBr (b := decide (u0 = u1) == ((lex u0 u1) == 0)) (by kernel_rfl) (c31) ?_
 refine aAa aCy (by kernel_rfl) (by kernel_rfl) c32 rfl ?_
 refine aAa aCy (by kernel_rfl) (by kernel_rfl) c33 rfl ?_
 refine aAd (by kernel_rfl) (aEz _ _ (aAY u0) (aAY u1)) ?_
 refine aAd (by kernel_rfl) (aGs _ _ (decide (u0 = u1)) (decide (aAY u0 = aAY u1)) aBs) ?_
 rw [c34]
 exact aAe (by kernel_rfl)
end Go.Proofs.YtjefbecmeobegaaGreatDoor.Sp
