/- The law IntegerAddition: for every input the Go function answers true: its row, out of the pure statement and the printed walk, and its tied card. -/
import Derived.Test.YtpokflilobkoaaaDoorRows
import Derived.Test.YtpokflilobkoaaaDoorPxVoussoirlaw02IntegerAddition
import Derived.Test.YtpokflilobkoaaaDoorPureIntegerAddition
import Derived.Test.YtpokflilobkoaaaDoorXG
import Derived.Test.YtpokflilobkoaaaDoorXS
import Derived.Test.YtpokflilobkoaaaDoorCards
import Derived.Test.YtpokflilobkoaaaDoorTie
import Derived.WalkKit
import Derived.ProofKit
import Derived.OpenShut
import Derived.ShutString
import Derived.ChangeOld
import Derived.Below
import Derived.SizedLaws
import Derived.LaidMore
import Derived.Lay
import Derived.SevenTiedAt
import Derived.Stop.Joined
namespace Go.Proofs.YtpokflilobkoaaaDoor.integerAddition
open Go.ChangeShapes Go.WideShapes Go.ChangeAt Go.RowKit
open Go.ChangeMaps (open_string shut_string)
set_option linter.unusedVariables false
theorem own : ownKnob Tryd.prog.godebug = none := by kernel_rfl
set_option maxRecDepth 100000 in
theorem lifted (os : Os) (started : os.Started) (H : Type) (enc : TypeId × Value → H) :
    ReturnsInHanded {} Tryd.checked os 11 .any (fun w args => (Rows.integerAdditionSpec.pre enc Tryd.prog Tryd.f11 Rows.integerAdditionRow.domain false w args ∧ laidMetH Tryd.prog Rows.integerAdditionRow.laid w) ∧ sizedMet enc Tryd.prog Tryd.f11 (OpenSpec.ofChange Rows.integerAdditionSpec) false w args) (Rows.integerAdditionSpec.post enc Tryd.prog Tryd.f11 false true false false) := by
  refine returnsInHanded_of_change_and (C := Tryd.checked) (X := fun w _ => laidMetH Tryd.prog Rows.integerAdditionRow.laid w) (fun _ _ _ hh h => h.of_heap hh) own started (by kernel_rfl) Tryd.func11
    (ChangeSpec.witness_shaped (enc := enc) (C := Tryd.checked) (os := os) (X := fun w _ => laidMetH Tryd.prog Rows.integerAdditionRow.laid w) false (World.laidAll Tryd.prog os Rows.integerAdditionRow.laid) #[.agg #[.bool false, .string ByteArray.empty], .agg #[.bool false, .string ByteArray.empty]] 8 (World.laidAll_os _ _ _)
      (World.shaped_of_ZipB (by kernel_rfl) (by kernel_rfl)) (by kernel_rfl) (by kernel_rfl) (by kernel_rfl)
      (by rw [MakeChecks.laidMetH_plain _ _ _ (by kernel_rfl)]; exact laidMet_laidAll _ (by kernel_rfl) (by kernel_rfl))) ?_
  intro W base args ds gs before hval0 hW hcnd hsz0 hL _
  have hG : X.G W := X.G_of_laid hL (by kernel_rfl) (by simp [Rows.integerAdditionRow])
  clear hL
  have hval : ∀ (j : Nat) t v, Tryd.f11.params[j]? = some t → args[j]? = some v → Value.okWide Tryd.prog W .any base t v := hval0
  have hW' := hW
  obtain ⟨p, q, hA0, hV, rfl, hfz, hnd⟩ := hW
  have hA : DataW.TrodAll enc Tryd.prog W 0 (fun _ => true) true Tryd.f11.params.toList args.toList ds p := hA0
  rw [Tryd.params11] at hA hval
  obtain ⟨v0, vs0, d0, ds0, p0, q0, hargs, rfl, rfl, h0, r0⟩ := trodAll_cons hA
  obtain ⟨v1, vs1, d1, ds1, p1, q1, rfl, rfl, rfl, h1, r1⟩ := trodAll_cons r0
  obtain ⟨rfl, rfl, rfl⟩ := trodAll_nil r1
  obtain rfl : args = #[v0, v1] := by cases args; simp_all
  obtain ⟨rfl, rfl⟩ := trodVars_none hV
  obtain ⟨b0, a0, rfl, rfl, rfl, y0⟩ := X.open_api (hval 0 36 v0 rfl rfl) h0
  obtain ⟨b1, a1, rfl, rfl, rfl, y1⟩ := X.open_api (hval 1 36 v1 rfl rfl) h1
  clear hA0 hval0 hsz0
  obtain ⟨k, hk⟩ := Pure.IntegerAddition b0 a0 b1 a1
  refine (P.voussoirlaw02_IntegerAddition.calls k b0 a0 b1 a1 true rfl W hG hk).mono fun e W' ⟨he, bel⟩ => ?_
  subst he
  exact ⟨_, rfl, _, _, _, [], _, [], hW', trodAll_mk1 (shut_bool Tryd.underlying4 _), (trodAll_cons_mk (X.shut_api y0) (trodAll_cons_mk (X.shut_api y1) trodAll_mk0)), rfl, bel.frame _, fun h => by cases h⟩
theorem over : Rows.integerAdditionRow.holds Tryd.pinned (OpenSpec.ofChange Rows.integerAdditionSpec) :=
  OpenClaim.holds_of_wide 11 Tryd.f11 rfl rfl rfl rfl rfl rfl rfl ⟨rfl, rfl, rfl, rfl, rfl⟩ rfl rfl rfl rfl rfl (by kernel_rfl) Tryd.func11 (by kernel_rfl)
    (of_decide_eq_true (by kernel_rfl)) (by unfold Func.isWrapper; first | (rw [if_pos (by decide +kernel)]; kernel_rfl) | (rw [if_neg (by decide +kernel)]; exact ⟨rfl, rfl⟩))
    (fun os started H enc _ => lifted os started H enc)
theorem card : Rows.IntegerAdditionCardSaid :=
  Claim7.holds_tied_plain_at .later [] [.data, .data, .data, .data, .pinned] true (true, "ba1c14a28be60e6a30f8d74bff09d3bdfbad6a0f11b20ff14b774e26a549e0bd") false over (fun _ h => by cases h) (by kernel_rfl) (fun _ h => by cases h) integerAddition_row_tie rfl ⟨rfl, rfl⟩ (by kernel_rfl) rfl
    (fun f fn hf hfn => by
      obtain rfl : f = 11 := Option.some.inj ((show Tryd.prog.funcNamed "voussoir/voussoirlaw02.IntegerAddition" = some 11 by kernel_rfl).symm.trans hf) |>.symm
      obtain rfl : fn = Tryd.f11 := (Option.some.inj (Tryd.func11.symm.trans hfn)).symm
      exact ⟨by kernel_rfl, fun j t ht => by
        rw [Tryd.params11] at ht
        have hm : t ∈ [36, 36] := by simpa using Array.mem_of_getElem? ht
        have hall : ([36, 36].all fun u => !Tryd.prog.wantsStandIn u) = true := by kernel_rfl
        exact (show Tryd.prog.wantsStandIn t = false by simpa using List.all_eq_true.1 hall t hm)⟩)
    (by kernel_rfl)
#print axioms card
end Go.Proofs.YtpokflilobkoaaaDoor.integerAddition
namespace Go.Proofs.YtpokflilobkoaaaDoor
/-- The card, under a short name, for the claim. -/
theorem integerAddition_holds : Rows.IntegerAdditionCardSaid := integerAddition.card
end Go.Proofs.YtpokflilobkoaaaDoor
