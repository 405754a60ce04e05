import Derived.Test.YtjefbecmeobegaaGreatDoorLPA
import Derived.Test.YtjefbecmeobegaaGreatDoorRows
import Derived.Test.YtjefbecmeobegaaGreatDoorPLOffsets
import Derived.Test.YtjefbecmeobegaaGreatDoorXG
import Derived.Test.YtjefbecmeobegaaGreatDoorXT
import Derived.Test.YtjefbecmeobegaaGreatDoorCards
import Derived.Test.YtjefbecmeobegaaGreatDoorTie
import Derived.WalkKit
import Derived.ProofKit
import Derived.OpenShut
import Derived.ShutString
import Derived.ChangeOld
import Derived.Below
import Derived.SizedLaws
import Derived.LaidMore
import Derived.Lay
import Derived.SevenTiedAt
import Derived.Stop.Joined
namespace Go.Proofs.YtjefbecmeobegaaGreatDoor.planeOffsets
open Go.ChangeShapes Go.WideShapes Go.ChangeAt Go.RowKit
set_option linter.unusedVariables false
set_option maxHeartbeats 8000000 in
theorem over:Rows.planeOffsetsRow.holds Tryz.pinned (OpenSpec.ofChange Rows.planeOffsetsSpec):=
 OpenClaim.holds_of_wide 15 Tryz.f15 rfl rfl rfl rfl rfl rfl rfl ⟨rfl,rfl,rfl,rfl,rfl⟩ rfl rfl rfl rfl rfl (by as_aux_lemma => kernel_rfl) Tryz.func15 (by as_aux_lemma => kernel_rfl)
  (of_decide_eq_true (by as_aux_lemma => kernel_rfl)) (by as_aux_lemma => (unfold Func.isWrapper;first | (rw [if_pos (by decide +kernel)];kernel_rfl) | (rw [if_neg (by decide +kernel)];exact ⟨rfl,rfl⟩)))
  (λ os started H enc _=>lifted os started H enc)
theorem card:Rows.PlaneOffsetsCardSaid:=
 Claim7.holds_tied_plain_at .later [] [.data, .data, .data, .data, .pinned] true (true, "aa6a4fdf4c60225785df291a4967c3e22c317121f7278beca8305c370a93349f") false over (fun _ h => by cases h) (by kernel_rfl) (fun _ h => by cases h) planeOffsets_row_tie rfl ⟨rfl, rfl⟩ (by kernel_rfl) rfl
  (λ f fn hf hfn=>by
   obtain rfl : f = 15 := Option.some.inj ((show Tryz.prog.funcNamed "voussoir/voussoirlaw05.PlaneOffsets" = some 15 by kernel_rfl).symm.trans hf) |>.symm
   obtain rfl:fn=Tryz.f15:=(Option.some.inj (Tryz.func15.symm.trans hfn)).symm
   exact ⟨by kernel_rfl,λ j t ht=>by
    rw [Tryz.params15] at ht
    have hm:t ∈ [53,25,27]:=by simpa using Array.mem_of_getElem? ht
    have hall:([53,25,27].all λ u=>!Tryz.prog.wantsStandIn u)=true:=by kernel_rfl
    exact (show Tryz.prog.wantsStandIn t=false by simpa using List.all_eq_true.1 hall t hm)⟩)
  (by kernel_rfl)
#print axioms card
end Go.Proofs.YtjefbecmeobegaaGreatDoor.planeOffsets
namespace Go.Proofs.YtjefbecmeobegaaGreatDoor
theorem planeOffsets_holds:Rows.PlaneOffsetsCardSaid:=planeOffsets.card
end Go.Proofs.YtjefbecmeobegaaGreatDoor
