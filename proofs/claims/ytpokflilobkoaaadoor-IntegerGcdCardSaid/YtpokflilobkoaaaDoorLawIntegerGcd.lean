/- The law IntegerGcd: for every input the Go function answers true: its row, out of the pure statement and the printed walk, and its tied card. -/
import Derived.Test.YtpokflilobkoaaaDoorRows
import Derived.Test.YtpokflilobkoaaaDoorPxVoussoirlaw02IntegerGcd
import Derived.Test.YtpokflilobkoaaaDoorPureIntegerGcd
import Derived.Test.YtpokflilobkoaaaDoorXG
import Derived.Test.YtpokflilobkoaaaDoorXS
import Derived.Test.YtpokflilobkoaaaDoorCards
import Derived.Test.YtpokflilobkoaaaDoorTie
import Derived.WalkKit
import Derived.ProofKit
import Derived.OpenShut
import Derived.ShutString
import Derived.ChangeOld
import Derived.Below
import Derived.SizedLaws
import Derived.LaidMore
import Derived.Lay
import Derived.SevenTiedAt
import Derived.Stop.Joined
namespace Go.Proofs.YtpokflilobkoaaaDoor.integerGcd
open Go.ChangeShapes Go.WideShapes Go.ChangeAt Go.RowKit
open Go.ChangeMaps (open_string shut_string)
set_option linter.unusedVariables false
theorem own : ownKnob Tryd.prog.godebug = none := by kernel_rfl
set_option maxRecDepth 100000 in
theorem lifted (os : Os) (started : os.Started) (H : Type) (enc : TypeId × Value → H) :
    ReturnsInHanded {} Tryd.checked os 13 .any (fun w args => (Rows.integerGcdSpec.pre enc Tryd.prog Tryd.f13 Rows.integerGcdRow.domain false w args ∧ laidMetH Tryd.prog Rows.integerGcdRow.laid w) ∧ sizedMet enc Tryd.prog Tryd.f13 (OpenSpec.ofChange Rows.integerGcdSpec) false w args) (Rows.integerGcdSpec.post enc Tryd.prog Tryd.f13 false true false false) := by
  refine returnsInHanded_of_change_and (C := Tryd.checked) (X := fun w _ => laidMetH Tryd.prog Rows.integerGcdRow.laid w) (fun _ _ _ hh h => h.of_heap hh) own started (by kernel_rfl) Tryd.func13
    (ChangeSpec.witness_shaped (enc := enc) (C := Tryd.checked) (os := os) (X := fun w _ => laidMetH Tryd.prog Rows.integerGcdRow.laid w) false (World.laidAll Tryd.prog os Rows.integerGcdRow.laid) #[.agg #[.bool false, .string ByteArray.empty], .agg #[.bool false, .string ByteArray.empty], .agg #[.bool false, .string ByteArray.empty]] 8 (World.laidAll_os _ _ _)
      (World.shaped_of_ZipB (by kernel_rfl) (by kernel_rfl)) (by kernel_rfl) (by kernel_rfl) (by kernel_rfl)
      (by rw [MakeChecks.laidMetH_plain _ _ _ (by kernel_rfl)]; exact laidMet_laidAll _ (by kernel_rfl) (by kernel_rfl))) ?_
  intro W base args ds gs before hval0 hW hcnd hsz0 hL _
  have hG : X.G W := X.G_of_laid hL (by kernel_rfl) (by simp [Rows.integerGcdRow])
  clear hL
  have hval : ∀ (j : Nat) t v, Tryd.f13.params[j]? = some t → args[j]? = some v → Value.okWide Tryd.prog W .any base t v := hval0
  have hW' := hW
  obtain ⟨p, q, hA0, hV, rfl, hfz, hnd⟩ := hW
  have hA : DataW.TrodAll enc Tryd.prog W 0 (fun _ => true) true Tryd.f13.params.toList args.toList ds p := hA0
  rw [Tryd.params13] at hA hval
  obtain ⟨v0, vs0, d0, ds0, p0, q0, hargs, rfl, rfl, h0, r0⟩ := trodAll_cons hA
  obtain ⟨v1, vs1, d1, ds1, p1, q1, rfl, rfl, rfl, h1, r1⟩ := trodAll_cons r0
  obtain ⟨v2, vs2, d2, ds2, p2, q2, rfl, rfl, rfl, h2, r2⟩ := trodAll_cons r1
  obtain ⟨rfl, rfl, rfl⟩ := trodAll_nil r2
  obtain rfl : args = #[v0, v1, v2] := by cases args; simp_all
  obtain ⟨rfl, rfl⟩ := trodVars_none hV
  obtain ⟨b0, a0, rfl, rfl, rfl, y0⟩ := X.open_api (hval 0 36 v0 rfl rfl) h0
  obtain ⟨b1, a1, rfl, rfl, rfl, y1⟩ := X.open_api (hval 1 36 v1 rfl rfl) h1
  obtain ⟨b2, a2, rfl, rfl, rfl, y2⟩ := X.open_api (hval 2 36 v2 rfl rfl) h2
  clear hA0 hval0 hsz0
  obtain ⟨k, hk⟩ := Pure.IntegerGcd b0 a0 b1 a1 b2 a2
  refine (P.voussoirlaw02_IntegerGcd.calls k b0 a0 b1 a1 b2 a2 true rfl W hG hk).mono fun e W' ⟨he, bel⟩ => ?_
  subst he
  exact ⟨_, rfl, _, _, _, [], _, [], hW', trodAll_mk1 (shut_bool Tryd.underlying4 _), (trodAll_cons_mk (X.shut_api y0) (trodAll_cons_mk (X.shut_api y1) (trodAll_cons_mk (X.shut_api y2) trodAll_mk0))), rfl, bel.frame _, fun h => by cases h⟩
theorem over : Rows.integerGcdRow.holds Tryd.pinned (OpenSpec.ofChange Rows.integerGcdSpec) :=
  OpenClaim.holds_of_wide 13 Tryd.f13 rfl rfl rfl rfl rfl rfl rfl ⟨rfl, rfl, rfl, rfl, rfl⟩ rfl rfl rfl rfl rfl (by kernel_rfl) Tryd.func13 (by kernel_rfl)
    (of_decide_eq_true (by kernel_rfl)) (by unfold Func.isWrapper; first | (rw [if_pos (by decide +kernel)]; kernel_rfl) | (rw [if_neg (by decide +kernel)]; exact ⟨rfl, rfl⟩))
    (fun os started H enc _ => lifted os started H enc)
theorem card : Rows.IntegerGcdCardSaid :=
  Claim7.holds_tied_plain_at .later [] [.data, .data, .data, .data, .pinned] true (true, "ba1c14a28be60e6a30f8d74bff09d3bdfbad6a0f11b20ff14b774e26a549e0bd") false over (fun _ h => by cases h) (by kernel_rfl) (fun _ h => by cases h) integerGcd_row_tie rfl ⟨rfl, rfl⟩ (by kernel_rfl) rfl
    (fun f fn hf hfn => by
      obtain rfl : f = 13 := Option.some.inj ((show Tryd.prog.funcNamed "voussoir/voussoirlaw02.IntegerGcd" = some 13 by kernel_rfl).symm.trans hf) |>.symm
      obtain rfl : fn = Tryd.f13 := (Option.some.inj (Tryd.func13.symm.trans hfn)).symm
      exact ⟨by kernel_rfl, fun j t ht => by
        rw [Tryd.params13] at ht
        have hm : t ∈ [36, 36, 36] := by simpa using Array.mem_of_getElem? ht
        have hall : ([36, 36, 36].all fun u => !Tryd.prog.wantsStandIn u) = true := by kernel_rfl
        exact (show Tryd.prog.wantsStandIn t = false by simpa using List.all_eq_true.1 hall t hm)⟩)
    (by kernel_rfl)
#print axioms card
end Go.Proofs.YtpokflilobkoaaaDoor.integerGcd
namespace Go.Proofs.YtpokflilobkoaaaDoor
/-- The card, under a short name, for the claim. -/
theorem integerGcd_holds : Rows.IntegerGcdCardSaid := integerGcd.card
end Go.Proofs.YtpokflilobkoaaaDoor
