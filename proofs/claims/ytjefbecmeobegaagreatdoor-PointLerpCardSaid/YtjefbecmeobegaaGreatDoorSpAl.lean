import Derived.Test.YtjefbecmeobegaaGreatDoorSpA
import Derived.Test.YtjefbecmeobegaaGreatDoorSpC
namespace Go.Proofs.YtjefbecmeobegaaGreatDoor.Sp
open Go Go.RowKit Go.Proofs.YtjefbecmeobegaaGreatDoor.Sx Go.Proofs.YtjefbecmeobegaaGreatDoor.NatA Go.Proofs.YtjefbecmeobegaaGreatDoor.NatB Go.Proofs.YtjefbecmeobegaaGreatDoor.NatC Go.Proofs.YtjefbecmeobegaaGreatDoor.NatD Go.Proofs.YtjefbecmeobegaaGreatDoor.NatI Go.Proofs.YtjefbecmeobegaaGreatDoor.NatJ Go.Proofs.YtjefbecmeobegaaGreatDoor.IntZ Go.Proofs.YtjefbecmeobegaaGreatDoor.RatZ Go.Proofs.YtjefbecmeobegaaGreatDoor.PtZ
set_option maxHeartbeats 2000000 in
theorem g_alive : Sx.Good Tryz.prog X.G 16 ⟨[], .v1 .one⟩ aCN := aAj (TbOk.app aRn okB6) (fun _ _ => X.G_below) 400 (by kernel_rfl) (by kernel_rfl : _ = some aDz) fun ds rs h => by
 unfold aCN at h
 split at h
 ·obtain rfl := Option.some.inj h
  obtain ⟨q12, hq12⟩ : ∃ q, q = Rat.divInt 1 2 := ⟨_, rfl⟩
  have r12 : RI 1 q12 [b_ false, s_ (⟨#[1]⟩ : ByteArray), s_ (⟨#[2]⟩ : ByteArray)] := by rw [hq12]; exact aEO (x := 1) (y := 2) (by decide) (by decide) (by decide) (by decide) (by decide)
  have sq12 : Sq 1 q12 := r12.sq (by decide)
  obtain ⟨q13, hq13⟩ : ∃ q, q = Rat.divInt 1 3 := ⟨_, rfl⟩
  have r13 : RI 1 q13 [b_ false, s_ (⟨#[1]⟩ : ByteArray), s_ (⟨#[3]⟩ : ByteArray)] := by rw [hq13]; exact aEO (x := 1) (y := 3) (by decide) (by decide) (by decide) (by decide) (by decide)
  have sq13 : Sq 1 q13 := r13.sq (by decide)
  obtain ⟨q11, hq11⟩ : ∃ q, q = Rat.divInt 1 1 := ⟨_, rfl⟩
  have r11 : RI 1 q11 [b_ false, s_ (⟨#[1]⟩ : ByteArray), s_ (⟨#[]⟩ : ByteArray)] := by rw [hq11]; exact aJ3 (x := 1) (by decide) (by decide)
  have sq11 : Sq 1 q11 := r11.sq (by decide)
  obtain ⟨q21, hq21⟩ : ∃ q, q = Rat.divInt 2 1 := ⟨_, rfl⟩
  have r21 : RI 1 q21 [b_ false, s_ (⟨#[2]⟩ : ByteArray), s_ (⟨#[]⟩ : ByteArray)] := by rw [hq21]; exact aJ3 (x := 2) (by decide) (by decide)
  have sq21 : Sq 1 q21 := r21.sq (by decide)
  obtain ⟨q31, hq31⟩ : ∃ q, q = Rat.divInt 3 1 := ⟨_, rfl⟩
  have r31 : RI 1 q31 [b_ false, s_ (⟨#[3]⟩ : ByteArray), s_ (⟨#[]⟩ : ByteArray)] := by rw [hq31]; exact aJ3 (x := 3) (by decide) (by decide)
  have sq31 : Sq 1 q31 := r31.sq (by decide)
  obtain ⟨q01, hq01⟩ : ∃ q, q = Rat.divInt 0 1 := ⟨_, rfl⟩
  have r0 : RI 1 q01 [b_ false, s_ (⟨#[]⟩ : ByteArray), s_ (⟨#[]⟩ : ByteArray)] := by rw [hq01, ← aMD]; exact .raw false (by decide) (by decide)
  have sq01 : Sq 1 q01 := r0.sq (by decide)
  have k1 : aBg ([b_ false, s_ (⟨#[1]⟩ : ByteArray), s_ (⟨#[2]⟩ : ByteArray)] ++ ([b_ false, s_ (⟨#[1]⟩ : ByteArray), s_ (⟨#[3]⟩ : ByteArray)] ++ [b_ false, s_ (⟨#[]⟩ : ByteArray), s_ (⟨#[]⟩ : ByteArray)])) = some (aAr (q12, q13, q01)) := aEP (VI.mk r12 r13 r0) (by decide)
  have k2 : aBg ([b_ false, s_ (⟨#[]⟩ : ByteArray), s_ (⟨#[]⟩ : ByteArray)] ++ ([b_ false, s_ (⟨#[]⟩ : ByteArray), s_ (⟨#[]⟩ : ByteArray)] ++ [b_ false, s_ (⟨#[]⟩ : ByteArray), s_ (⟨#[]⟩ : ByteArray)])) = some (aAr (q01, q01, q01)) := aEP (VI.mk r0 r0 r0) (by decide)
  have k3 : aBg ([b_ false, s_ (⟨#[1]⟩ : ByteArray), s_ (⟨#[]⟩ : ByteArray)] ++ ([b_ false, s_ (⟨#[2]⟩ : ByteArray), s_ (⟨#[]⟩ : ByteArray)] ++ [b_ false, s_ (⟨#[3]⟩ : ByteArray), s_ (⟨#[]⟩ : ByteArray)])) = some (aAr (q11, q21, q31)) := aEP (VI.mk r11 r21 r31) (by decide)
  have s2 : Sv 1 (q01, q01, q01) := ⟨sq01, sq01, sq01⟩
  have s3 : Sv 1 (q11, q21, q31) := ⟨sq11, sq21, sq31⟩
  have k4 : aAJ (aAr (q01, q01, q01) ++ (aAr (q11, q21, q31) ++ [b_ false, s_ (⟨#[1]⟩ : ByteArray), s_ (⟨#[2]⟩ : ByteArray)])) = some (aAr (vmid (q01, q01, q01) (q11, q21, q31) q12)) := aBV (PA.can s2) (PA.can s3) r12 (by decide) (by decide) (by decide)
  have s4 : Sv 6 (vmid (q01, q01, q01) (q11, q21, q31) q12) := (Sv.vmid s2 s3 sq12).le (by decide)
  have k5 : aCy (aAr (vmid (q01, q01, q01) (q11, q21, q31) q12)) = some [s_ (aAY (vmid (q01, q01, q01) (q11, q21, q31) q12))] := aHE (PA.can s4) (by decide)
  have ht : aAY (vmid (q01, q01, q01) (q11, q21, q31) q12) = (⟨#[40, 49, 47, 50, 44, 32, 49, 44, 32, 51, 47, 50, 41]⟩ : ByteArray) := by rw [hq01, hq11, hq21, hq31, hq12, aME]; exact aL8
  rw [ht] at k5
  have hp : pt (q12, q13, q01) = (3, 2, 0, 6) := by rw [hq12, hq13, hq01]; exact aNH
  have k6 : (Pu.bin .eql 25 false).run Tryz.prog [.agg (aAr (q12, q13, q01)), .agg ([b_ false, s_ (⟨#[3]⟩ : ByteArray)] ++ ([b_ false, s_ (⟨#[2]⟩ : ByteArray)] ++ ([b_ false, s_ (⟨#[]⟩ : ByteArray)] ++ [b_ false, s_ (⟨#[6]⟩ : ByteArray)])))] = some (b_ true) := by
   have e := eq_4 false (pt (q12, q13, q01)) (3, 2, 0, 6)
   rw [decide_eq_true hp] at e
   have e1 : enc4 (3, 2, 0, 6) = enc 3 ++ (enc 2 ++ (enc 0 ++ enc 6)) := rfl
   have e3 : enc 3 = [b_ false, s_ (⟨#[3]⟩ : ByteArray)] := aF3 (n := 3) (by decide) (N_V (.inr (by decide)))
   have e2 : enc 2 = [b_ false, s_ (⟨#[2]⟩ : ByteArray)] := aF3 (n := 2) (by decide) (N_V (.inr (by decide)))
   have e6 : enc 6 = [b_ false, s_ (⟨#[6]⟩ : ByteArray)] := aF3 (n := 6) (by decide) (N_V (.inr (by decide)))
   rw [e1, aPz, e3, e2, e6] at e
   exact e
  clear hq12 hq13 hq11 hq21 hq31 hq01 hp ht
  generalize vmid (q01, q01, q01) (q11, q21, q31) q12 = mid at *
  have e1 : aAr (q12, q13, q01) = enc4 (pt (q12, q13, q01)) := rfl
  have e2 : aAr (q01, q01, q01) = enc4 (pt (q01, q01, q01)) := rfl
  have e3 : aAr (q11, q21, q31) = enc4 (pt (q11, q21, q31)) := rfl
  have e4 : aAr mid = enc4 (pt mid) := rfl
  rw [e1] at k1 k6
  rw [e2] at k2 k4
  rw [e3] at k3 k4
  rw [e4] at k4 k5
  generalize pt (q12, q13, q01) = P1 at *
  generalize pt (q01, q01, q01) = P2 at *
  generalize pt (q11, q21, q31) = P3 at *
  generalize pt mid = P4 at *
  have k7 : (Pu.bin .eql 9 true).run Tryz.prog [.one (s_ (⟨#[40, 49, 47, 50, 44, 32, 49, 44, 32, 51, 47, 50, 41]⟩ : ByteArray)), .one (s_ (⟨#[40, 49, 47, 50, 44, 32, 49, 44, 32, 51, 47, 50, 41]⟩ : ByteArray))] = some (b_ true) := by rw [aEz, decide_eq_true rfl]
  refine ⟨0, ?_⟩
  refine aAa (aBb Tryz.prog) (by kernel_rfl) (by kernel_rfl) aC9 rfl (aAa (aBb Tryz.prog) (by kernel_rfl) (by kernel_rfl) aGd rfl (aAa (aCc Tryz.prog) (by kernel_rfl) (by kernel_rfl) aIv rfl (aAa (aBb Tryz.prog) (by kernel_rfl) (by kernel_rfl) aC9 rfl (aAa (aBb Tryz.prog) (by kernel_rfl) (by kernel_rfl) aKB rfl (aAa (aCc Tryz.prog) (by kernel_rfl) (by kernel_rfl) aQd rfl (aAa aBg (by kernel_rfl) (by kernel_rfl) k1 rfl (aAa aBg (by kernel_rfl) (by kernel_rfl) k2 rfl ?_)))))))
  refine aAa (aBb Tryz.prog) (by kernel_rfl) (by kernel_rfl) aC9 rfl (aAa (aBb Tryz.prog) (by kernel_rfl) (by kernel_rfl) aC9 rfl (aAa (aCc Tryz.prog) (by kernel_rfl) (by kernel_rfl) aQe rfl (aAa (aBb Tryz.prog) (by kernel_rfl) (by kernel_rfl) aGd rfl (aAa (aBb Tryz.prog) (by kernel_rfl) (by kernel_rfl) aC9 rfl (aAa (aCc Tryz.prog) (by kernel_rfl) (by kernel_rfl) aQf rfl (aAa (aBb Tryz.prog) (by kernel_rfl) (by kernel_rfl) aKB rfl (aAa (aBb Tryz.prog) (by kernel_rfl) (by kernel_rfl) aC9 rfl (aAa (aCc Tryz.prog) (by kernel_rfl) (by kernel_rfl) aQg rfl (aAa aBg (by kernel_rfl) (by kernel_rfl) k3 rfl ?_)))))))))
  refine aAa (aBb Tryz.prog) (by kernel_rfl) (by kernel_rfl) aC9 rfl (aAa (aBb Tryz.prog) (by kernel_rfl) (by kernel_rfl) aGd rfl (aAa (aCc Tryz.prog) (by kernel_rfl) (by kernel_rfl) aIv rfl (aAa aAJ (by kernel_rfl) (by kernel_rfl) k4 rfl (aAa (aBb Tryz.prog) (by kernel_rfl) (by kernel_rfl) aKB rfl (aAa (aBb Tryz.prog) (by kernel_rfl) (by kernel_rfl) aGd rfl (aAa (aBb Tryz.prog) (by kernel_rfl) (by kernel_rfl) aQL rfl ?_))))))
  exact aAd (by kernel_rfl) k6 (aCg (by kernel_rfl) (aAa aCy (by kernel_rfl) (by kernel_rfl) k5 rfl (aAd (by kernel_rfl) k7 (aAe (by kernel_rfl)))))
 ·cases h
def tbL1 (P : Program) : Tb := [(16, aCN), (69, aAH), (18, aBP), (55, aBb P), (81, aCc P)] ++ tbB6
theorem aNG : TbOk Tryz.prog X.G (tbL1 Tryz.prog) := .cons (by kernel_rfl) g_alive (.cons (by kernel_rfl) g_great (.cons (by kernel_rfl) g_wide (.cons (by kernel_rfl) aOI (.cons (by kernel_rfl) run_make okB6))))
end Go.Proofs.YtjefbecmeobegaaGreatDoor.Sp
