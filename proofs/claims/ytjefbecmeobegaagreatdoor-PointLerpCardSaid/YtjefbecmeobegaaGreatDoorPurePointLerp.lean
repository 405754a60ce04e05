import Derived.Test.YtjefbecmeobegaaGreatDoorSpAl
import Derived.Test.YtjefbecmeobegaaGreatDoorTrLPointLerp
namespace Go.Proofs.YtjefbecmeobegaaGreatDoor.Sp
open Go Go.RowKit Go.Proofs.YtjefbecmeobegaaGreatDoor.Sx Go.Proofs.YtjefbecmeobegaaGreatDoor.NatA Go.Proofs.YtjefbecmeobegaaGreatDoor.NatB Go.Proofs.YtjefbecmeobegaaGreatDoor.NatC Go.Proofs.YtjefbecmeobegaaGreatDoor.NatD Go.Proofs.YtjefbecmeobegaaGreatDoor.NatI Go.Proofs.YtjefbecmeobegaaGreatDoor.NatJ Go.Proofs.YtjefbecmeobegaaGreatDoor.IntZ Go.Proofs.YtjefbecmeobegaaGreatDoor.RatZ Go.Proofs.YtjefbecmeobegaaGreatDoor.PtZ
set_option maxHeartbeats 4000000 in
theorem g_PointLerp : Sx.Good Tryz.prog X.G 9 ⟨[.agg 8, .agg 8, .agg 3], .v1 .one⟩ (F_true (kP ++ kP ++ kR ++ [])) := aAj aNG (fun _ _ => X.G_below) 400 (by kernel_rfl) (by kernel_rfl : _ = some aDA) fun ds rs h => by
 obtain ⟨vs, h0, rfl, rfl⟩ := F_true.inv h
 obtain ⟨n01, a01, n02, a02, n03, a03, n04, a04, r1, rfl, h1⟩ := aEN (ks := (kP ++ kR ++ [])) h0
 obtain ⟨n11, a11, n12, a12, n13, a13, n14, a14, r2, rfl, h2⟩ := aEN (ks := (kR ++ [])) h1
 obtain ⟨n21, a21, b21, r3, rfl, h3⟩ := aJi (ks := ([])) h2
 obtain rfl := aHD h3
 clear h h0 h1 h2 h3
 refine ⟨0, ?_⟩
 refine aAa aCN (by kernel_rfl) (by kernel_rfl) awk rfl (aAd (by kernel_rfl) (aE0 true) (aBk (b := !true) (by kernel_rfl) rfl ?_))
 rcases aCq n01 a01 n02 a02 n03 a03 n04 a04 with g1 | ⟨g1, i0⟩
 ·exact aAa aAH (by kernel_rfl) (by kernel_rfl) g1 rfl (aAd (by kernel_rfl) (aA8 _ _ .i64 1 1) (aBr (b := (1 : Int) == 1) (by kernel_rfl) rfl (aAe (by kernel_rfl))))
 refine aAa aAH (by kernel_rfl) (by kernel_rfl) g1 rfl (aAd (by kernel_rfl) (aA8 _ _ .i64 0 1) (aBk (b := (0 : Int) == 1) (by kernel_rfl) rfl ?_))
 clear g1
 rcases aCq n11 a11 n12 a12 n13 a13 n14 a14 with g1 | ⟨g1, i1⟩
 ·exact aAa aAH (by kernel_rfl) (by kernel_rfl) g1 rfl (aAd (by kernel_rfl) (aA8 _ _ .i64 1 1) (aBr (b := (1 : Int) == 1) (by kernel_rfl) rfl (aAe (by kernel_rfl))))
 refine aAa aAH (by kernel_rfl) (by kernel_rfl) g1 rfl (aAd (by kernel_rfl) (aA8 _ _ .i64 0 1) (aBk (b := (0 : Int) == 1) (by kernel_rfl) rfl ?_))
 clear g1
 rcases aHC n21 a21 b21 false (⟨#[]⟩ : ByteArray) (⟨#[]⟩ : ByteArray) false (⟨#[]⟩ : ByteArray) (⟨#[]⟩ : ByteArray) with g1 | ⟨g1, i2x, -, -⟩
 ·exact aAa aBP (by kernel_rfl) (by kernel_rfl) g1 rfl (aAd (by kernel_rfl) (aA8 _ _ .i64 1 1) (aBr (b := (1 : Int) == 1) (by kernel_rfl) rfl (aAe (by kernel_rfl))))
 refine aAa aBP (by kernel_rfl) (by kernel_rfl) g1 rfl (aAd (by kernel_rfl) (aA8 _ _ .i64 0 1) (aBk (b := (0 : Int) == 1) (by kernel_rfl) rfl ?_))
 clear g1
 obtain ⟨u0, hu0⟩ : ∃ v, v = pv4 (Z n01 a01, Z n02 a02, Z n03 a03, Z n04 a04) := ⟨_, rfl⟩
 have Pu0 : PA 6 u0 [b_ n01, s_ a01, b_ n02, s_ a02, b_ n03, s_ a03, b_ n04, s_ a04] := by rw [hu0]; exact PA.raw i0
 have s_u0 : Sv 6 u0 := Pu0.sv (by decide)
 obtain ⟨u1, hu1⟩ : ∃ v, v = pv4 (Z n11 a11, Z n12 a12, Z n13 a13, Z n14 a14) := ⟨_, rfl⟩
 have Pu1 : PA 6 u1 [b_ n11, s_ a11, b_ n12, s_ a12, b_ n13, s_ a13, b_ n14, s_ a14] := by rw [hu1]; exact PA.raw i1
 have s_u1 : Sv 6 u1 := Pu1.sv (by decide)
 obtain ⟨t2, ht2⟩ : ∃ v, v = qv n21 a21 b21 := ⟨_, rfl⟩
 have Pt2 : RI 6 t2 [b_ n21, s_ a21, s_ b21] := by rw [ht2]; exact i2x
 have s_t2 : Sq 6 t2 := Pt2.sq (by decide)
 obtain ⟨one, hone⟩ : ∃ v, v = Rat.divInt 1 1 := ⟨_, rfl⟩
 have s_one : Sq 1 one := by rw [hone]; exact aQi 1 1 (by decide) (by decide)
 obtain ⟨half, hhalf⟩ : ∃ v, v = Rat.divInt 1 2 := ⟨_, rfl⟩
 have Phalf : RI 1 half [b_ false, s_ (⟨#[1]⟩ : ByteArray), s_ (⟨#[2]⟩ : ByteArray)] := by rw [hhalf]; exact aEO (x := 1) (y := 2) (by decide) (by decide) (by decide) (by decide) (by decide)
 have s_half : Sq 1 half := Phalf.sq (by decide)
 obtain ⟨quarter, hquarter⟩ : ∃ v, v = Rat.divInt 1 4 := ⟨_, rfl⟩
 have Pquarter : RI 1 quarter [b_ false, s_ (⟨#[1]⟩ : ByteArray), s_ (⟨#[4]⟩ : ByteArray)] := by rw [hquarter]; exact aEO (x := 1) (y := 4) (by decide) (by decide) (by decide) (by decide) (by decide)
 have s_quarter : Sq 1 quarter := Pquarter.sq (by decide)
 obtain ⟨zero, hzero⟩ : ∃ v, v = Rat.divInt 0 1 := ⟨_, rfl⟩
 have Pzero : RI 1 zero [b_ false, s_ (⟨#[]⟩ : ByteArray), s_ (⟨#[]⟩ : ByteArray)] := by rw [hzero, ← aMD]; exact .raw false (by decide) (by decide)
 have s_zero : Sq 1 zero := Pzero.sq (by decide)
 have c3 : F_rfrom [i_ 1] = some (encR one) := by rw [hone]; exact F_rfrom.eq (by decide) (by decide)
 obtain ⟨p4, hp4⟩ : ∃ v, v = vmid u0 u1 t2 := ⟨_, rfl⟩
 have s_p4 : Sv 26 p4 := by rw [hp4]; exact Sv.vmid s_u0 s_u1 s_t2
 have c5 : aAJ ([b_ n01, s_ a01, b_ n02, s_ a02, b_ n03, s_ a03, b_ n04, s_ a04] ++ ([b_ n11, s_ a11, b_ n12, s_ a12, b_ n13, s_ a13, b_ n14, s_ a14] ++ [b_ n21, s_ a21, s_ b21])) = some (aAr p4) := by rw [hp4]; exact aBV Pu0 Pu1 Pt2 (by decide) (by decide) (by decide)
 obtain ⟨p6, hp6⟩ : ∃ v, v = vmid u0 u1 zero := ⟨_, rfl⟩
 have s_p6 : Sv 21 p6 := by rw [hp6]; exact Sv.vmid s_u0 s_u1 s_zero
 have c7 : aAJ ([b_ n01, s_ a01, b_ n02, s_ a02, b_ n03, s_ a03, b_ n04, s_ a04] ++ ([b_ n11, s_ a11, b_ n12, s_ a12, b_ n13, s_ a13, b_ n14, s_ a14] ++ [b_ false, s_ (⟨#[]⟩ : ByteArray), s_ (⟨#[]⟩ : ByteArray)])) = some (aAr p6) := by rw [hp6]; exact aBV Pu0 Pu1 Pzero (by decide) (by decide) (by decide)
 have c8 : aA9 ([b_ n01, s_ a01, b_ n02, s_ a02, b_ n03, s_ a03, b_ n04, s_ a04]) = some (aAr u0) := aCM Pu0 (by decide)
 have c9 : p6 = u0 := by rw [hp6, hzero]; exact aMH _ _
 obtain ⟨p10, hp10⟩ : ∃ v, v = vmid u0 u1 one := ⟨_, rfl⟩
 have s_p10 : Sv 21 p10 := by rw [hp10]; exact Sv.vmid s_u0 s_u1 s_one
 have c11 : aAJ ([b_ n01, s_ a01, b_ n02, s_ a02, b_ n03, s_ a03, b_ n04, s_ a04] ++ ([b_ n11, s_ a11, b_ n12, s_ a12, b_ n13, s_ a13, b_ n14, s_ a14] ++ encR one)) = some (aAr p10) := by rw [hp10]; exact aBV Pu0 Pu1 (RI.can s_one) (by decide) (by decide) (by decide)
 have c12 : aA9 ([b_ n11, s_ a11, b_ n12, s_ a12, b_ n13, s_ a13, b_ n14, s_ a14]) = some (aAr u1) := aCM Pu1 (by decide)
 have c13 : p10 = u1 := by rw [hp10, hone]; exact aNO _ _
 obtain ⟨p14, hp14⟩ : ∃ v, v = one - t2 := ⟨_, rfl⟩
 have s_p14 : Sq 8 p14 := by rw [hp14]; exact aDW s_one s_t2
 have c15 : aCn (encR one ++ [b_ n21, s_ a21, s_ b21]) = some (encR p14) := by rw [hp14]; exact R2.at (RI.can s_one) Pt2 (by decide) (by decide)
 obtain ⟨p16, hp16⟩ : ∃ v, v = vmid u1 u0 p14 := ⟨_, rfl⟩
 have s_p16 : Sv 28 p16 := by rw [hp16]; exact Sv.vmid s_u1 s_u0 s_p14
 have c17 : aAJ ([b_ n11, s_ a11, b_ n12, s_ a12, b_ n13, s_ a13, b_ n14, s_ a14] ++ ([b_ n01, s_ a01, b_ n02, s_ a02, b_ n03, s_ a03, b_ n04, s_ a04] ++ encR p14)) = some (aAr p16) := by rw [hp16]; exact aBV Pu1 Pu0 (RI.can s_p14) (by decide) (by decide) (by decide)
 have c18 : p16 = p4 := by rw [hp16, hp4, hp14, hone]; exact aMI _ _ _
 obtain ⟨p19, hp19⟩ : ∃ v, v = vmid u0 u1 half := ⟨_, rfl⟩
 have s_p19 : Sv 21 p19 := by rw [hp19]; exact Sv.vmid s_u0 s_u1 s_half
 have c20 : aAJ ([b_ n01, s_ a01, b_ n02, s_ a02, b_ n03, s_ a03, b_ n04, s_ a04] ++ ([b_ n11, s_ a11, b_ n12, s_ a12, b_ n13, s_ a13, b_ n14, s_ a14] ++ [b_ false, s_ (⟨#[1]⟩ : ByteArray), s_ (⟨#[2]⟩ : ByteArray)])) = some (aAr p19) := by rw [hp19]; exact aBV Pu0 Pu1 Phalf (by decide) (by decide) (by decide)
 obtain ⟨p21, hp21⟩ : ∃ v, v = vmid u0 p19 half := ⟨_, rfl⟩
 have s_p21 : Sv 36 p21 := by rw [hp21]; exact Sv.vmid s_u0 s_p19 s_half
 have c22 : aAJ ([b_ n01, s_ a01, b_ n02, s_ a02, b_ n03, s_ a03, b_ n04, s_ a04] ++ (aAr p19 ++ [b_ false, s_ (⟨#[1]⟩ : ByteArray), s_ (⟨#[2]⟩ : ByteArray)])) = some (aAr p21) := by rw [hp21]; exact aBV Pu0 (PA.can s_p19) Phalf (by decide) (by decide) (by decide)
 obtain ⟨p23, hp23⟩ : ∃ v, v = vmid u0 u1 quarter := ⟨_, rfl⟩
 have s_p23 : Sv 21 p23 := by rw [hp23]; exact Sv.vmid s_u0 s_u1 s_quarter
 have c24 : aAJ ([b_ n01, s_ a01, b_ n02, s_ a02, b_ n03, s_ a03, b_ n04, s_ a04] ++ ([b_ n11, s_ a11, b_ n12, s_ a12, b_ n13, s_ a13, b_ n14, s_ a14] ++ [b_ false, s_ (⟨#[1]⟩ : ByteArray), s_ (⟨#[4]⟩ : ByteArray)])) = some (aAr p23) := by rw [hp23]; exact aBV Pu0 Pu1 Pquarter (by decide) (by decide) (by decide)
 have c25 : p21 = p23 := by rw [hp21, hp19, hp23, hhalf, hquarter]; exact aMJ _ _
 have c26 : aGp ([b_ n21, s_ a21, s_ b21]) = some [i_ (sgn t2.num)] := R1.at Pt2 (by decide)
 have c27 : aHa ([b_ n21, s_ a21, s_ b21] ++ encR one) = some [i_ (sgn (t2 - one).num)] := R2.at Pt2 (RI.can s_one) (by decide) (by decide)
 have c28 : aAA ([b_ n01, s_ a01, b_ n02, s_ a02, b_ n03, s_ a03, b_ n04, s_ a04] ++ [b_ n11, s_ a11, b_ n12, s_ a12, b_ n13, s_ a13, b_ n14, s_ a14]) = some [i_ (lex u0 u1)] := aB4 Pu0 Pu1 (by decide) (by decide)
 have c29 : ¬ sgn t2.num < 0 → ¬ sgn (t2 - one).num > 0 → ¬ (lex u0 u1) > 0 → lex u0 p4 ≤ 0 ∧ lex p4 u1 ≤ 0 := by rw [hp4, hone]; exact aJ5
 have c30 : aAA ([b_ n01, s_ a01, b_ n02, s_ a02, b_ n03, s_ a03, b_ n04, s_ a04] ++ aAr p4) = some [i_ (lex u0 p4)] := aB4 Pu0 (PA.can s_p4) (by decide) (by decide)
 have c31 : aAA (aAr p4 ++ [b_ n11, s_ a11, b_ n12, s_ a12, b_ n13, s_ a13, b_ n14, s_ a14]) = some [i_ (lex p4 u1)] := aB4 (PA.can s_p4) Pu1 (by decide) (by decide)
 clear hu0 hu1 ht2 hone hhalf hquarter hzero hp4 hp6 hp10 hp14 hp16 hp19 hp21 hp23
 refine aAa F_rfrom (by kernel_rfl) (by kernel_rfl) c3 rfl ?_
 refine aAa aAJ (by kernel_rfl) (by kernel_rfl) c5 rfl ?_
 refine aAa aAJ (by kernel_rfl) (by kernel_rfl) c7 rfl ?_
 refine aAa aA9 (by kernel_rfl) (by kernel_rfl) c8 rfl ?_
 refine aAd (by kernel_rfl) (aJh _ p6 u0) ?_
 refine aBk (b := !decide (p6 = u0)) (by kernel_rfl) (aJ1 c9) ?_
 refine aAa aAJ (by kernel_rfl) (by kernel_rfl) c11 rfl ?_
 refine aAa aA9 (by kernel_rfl) (by kernel_rfl) c12 rfl ?_
 refine aAd (by kernel_rfl) (aJh _ p10 u1) ?_
 refine aBk (b := !decide (p10 = u1)) (by kernel_rfl) (aJ1 c13) ?_
 refine aAa aCn (by kernel_rfl) (by kernel_rfl) c15 rfl ?_
 refine aAa aAJ (by kernel_rfl) (by kernel_rfl) c17 rfl ?_
 refine aAd (by kernel_rfl) (aJh _ p16 p4) ?_
 refine aBk (b := !decide (p16 = p4)) (by kernel_rfl) (aJ1 c18) ?_
 refine aAa (aBb Tryz.prog) (by kernel_rfl) (by kernel_rfl) aC9 rfl ?_
 refine aAa (aBb Tryz.prog) (by kernel_rfl) (by kernel_rfl) aGd rfl ?_
 refine aAa (aCc Tryz.prog) (by kernel_rfl) (by kernel_rfl) aIv rfl ?_
 refine aAa (aBb Tryz.prog) (by kernel_rfl) (by kernel_rfl) aC9 rfl ?_
 refine aAa (aBb Tryz.prog) (by kernel_rfl) (by kernel_rfl) aQK rfl ?_
 refine aAa (aCc Tryz.prog) (by kernel_rfl) (by kernel_rfl) aQh rfl ?_
 refine aAa aAJ (by kernel_rfl) (by kernel_rfl) c20 rfl ?_
 refine aAa aAJ (by kernel_rfl) (by kernel_rfl) c22 rfl ?_
 refine aAa aAJ (by kernel_rfl) (by kernel_rfl) c24 rfl ?_
 refine aAd (by kernel_rfl) (aJh _ p21 p23) ?_
 refine aBk (b := !decide (p21 = p23)) (by kernel_rfl) (aJ1 c25) ?_
 refine aAa aGp (by kernel_rfl) (by kernel_rfl) c26 rfl ?_
 refine aAd (by kernel_rfl) (aGr _ _ .i64 (sgn t2.num) 0) ?_
 refine aA2 (b := decide (sgn t2.num < 0)) (by kernel_rfl) (fun _ => aAe (by kernel_rfl)) (fun ht0 => ?_)
 refine aAa aHa (by kernel_rfl) (by kernel_rfl) c27 rfl ?_
 refine aAd (by kernel_rfl) (aBi _ _ .i64 (sgn (t2 - one).num) 0) ?_
 refine aA2 (b := decide (sgn (t2 - one).num > 0)) (by kernel_rfl) (fun _ => aAe (by kernel_rfl)) (fun ht1 => ?_)
 refine aAa aAA (by kernel_rfl) (by kernel_rfl) c28 rfl ?_
 refine aAd (by kernel_rfl) (aBi _ _ .i64 (lex u0 u1) 0) ?_
 refine aA2 (b := decide ((lex u0 u1) > 0)) (by kernel_rfl) (fun _ => aAe (by kernel_rfl)) (fun hab => ?_)
 obtain ⟨l1, l2⟩ := c29 (of_decide_eq_false ht0) (of_decide_eq_false ht1) (of_decide_eq_false hab)
 refine aAa aAA (by kernel_rfl) (by kernel_rfl) c30 rfl ?_
 refine aAd (by kernel_rfl) (aHM _ _ .i64 (lex u0 p4) 0) ?_
 refine aBr (b := decide ((lex u0 p4) ≤ 0)) (by kernel_rfl) (decide_eq_true l1) ?_
 refine aAa aAA (by kernel_rfl) (by kernel_rfl) c31 rfl ?_
 refine aAd (by kernel_rfl) (aHM _ _ .i64 (lex p4 u1) 0) ?_
 rw [decide_eq_true l2]
 exact aAe (by kernel_rfl)
end Go.Proofs.YtjefbecmeobegaaGreatDoor.Sp
