import Derived.Test.YtkkjlpfomofiaaaGreatDoorRows
import Derived.Test.YtkkjlpfomofiaaaGreatDoorPureEditNodeNames
import Derived.Test.YtkkjlpfomofiaaaGreatDoorXG
import Derived.Test.YtkkjlpfomofiaaaGreatDoorXT
import Derived.Test.YtkkjlpfomofiaaaGreatDoorCards
import Derived.Test.YtkkjlpfomofiaaaGreatDoorTie
import Derived.WalkKit
import Derived.ProofKit
import Derived.OpenShut
import Derived.ShutString
import Derived.ChangeOld
import Derived.Below
import Derived.SizedLaws
import Derived.LaidMore
import Derived.Lay
import Derived.SevenTiedAt
import Derived.Stop.Joined
namespace Go.Proofs.YtkkjlpfomofiaaaGreatDoor.editNodeNames
open Go.ChangeShapes Go.WideShapes Go.ChangeAt Go.RowKit
open Go.ChangeMaps (open_string shut_string)
set_option linter.unusedVariables false
theorem own:ownKnob Tryz.prog.godebug=none:=by kernel_rfl
set_option maxRecDepth 100000 in
theorem lifted (os:Os) (started:os.Started) (H:Type) (enc:TypeId × Value→H) :
  ReturnsInHanded {} Tryz.checked os 9 .any (fun w args=>(Rows.editNodeNamesSpec.pre enc Tryz.prog Tryz.f9 Rows.editNodeNamesRow.domain false w args∧laidMetH Tryz.prog Rows.editNodeNamesRow.laid w)∧sizedMet enc Tryz.prog Tryz.f9 (OpenSpec.ofChange Rows.editNodeNamesSpec) false w args) (Rows.editNodeNamesSpec.post enc Tryz.prog Tryz.f9 false true false false):=by
 refine returnsInHanded_of_change_and (C:=Tryz.checked) (X:=fun w _=>laidMetH Tryz.prog Rows.editNodeNamesRow.laid w) (fun _ _ _ hh h=>h.of_heap hh) own started (by kernel_rfl) Tryz.func9
  (ChangeSpec.witness_shaped (enc:=enc) (C:=Tryz.checked) (os:=os) (X:=fun w _=>laidMetH Tryz.prog Rows.editNodeNamesRow.laid w) false (World.laidAll Tryz.prog os Rows.editNodeNamesRow.laid) #[.agg #[.string ByteArray.empty,.int .i64 0],.string ByteArray.empty] 8 (World.laidAll_os _ _ _)
   (World.shaped_of_ZipB (by kernel_rfl) (by kernel_rfl)) (by kernel_rfl) (by kernel_rfl) (by kernel_rfl)
   (by rw [MakeChecks.laidMetH_plain _ _ _ (by kernel_rfl)];exact laidMet_laidAll _ (by kernel_rfl) (by kernel_rfl))) ?_
 intro W base args ds gs before hval0 hW hcnd hsz0 hL _
 have hG:X.G W:=X.G_of_laid hL (by kernel_rfl) (by simp [Rows.editNodeNamesRow]) (by simp [Rows.editNodeNamesRow]) (by simp [Rows.editNodeNamesRow])
 clear hL
 have hval:∀ (j:Nat) t v,Tryz.f9.params[j]?=some t→args[j]?=some v→Value.okWide Tryz.prog W .any base t v:=hval0
 have hW':=hW
 obtain ⟨p,q,hA0,hV,rfl,hfz,hnd⟩:=hW
 have hA:DataW.TrodAll enc Tryz.prog W 0 (fun _=>true) true Tryz.f9.params.toList args.toList ds p:=hA0
 rw [Tryz.params9] at hA hval
 obtain ⟨v0,vs0,d0,ds0,p0,q0,hargs,rfl,rfl,h0,r0⟩:=trodAll_cons hA
 obtain ⟨v1,vs1,d1,ds1,p1,q1,rfl,rfl,rfl,h1,r1⟩:=trodAll_cons r0
 obtain ⟨rfl,rfl,rfl⟩:=trodAll_nil r1
 obtain rfl:args=#[v0,v1]:=by cases args;simp_all
 obtain ⟨rfl,rfl⟩:=trodVars_none hV
 obtain ⟨c0,rfl,g0⟩:=okWide_struct Tryz.underlying23 (hval 0 23 v0 rfl rfl)
 obtain ⟨k0,rfl,z0⟩:=X.open_pk (d:=5) (ks:=[.s,.i .i64]) (by kernel_rfl) (by kernel_rfl) h0
 have g0:c0.size=2:=g0.trans (by kernel_rfl)
 obtain ⟨a1,rfl,rfl,rfl,w1⟩:=open_string Tryz.underlying9 (hval 1 9 v1 rfl rfl) h1
 clear hA0 hval0 hsz0
 have hb:Sx.blds [.agg 2,.one] (c0.toList++[.string a1])=[.agg c0,.string a1]:=by
  rw [X.blds_agg g0]
  rfl
 have hc:=Sp.calls_EditNodeNames (cs:=c0.toList) (s:=a1) k0 hG
 rw [hb] at hc
 refine hc.mono fun e W' ⟨he,bel⟩=>?_
 subst he
 exact ⟨_,rfl,_,_,_,[],_,[],hW',trodAll_mk1 (shut_bool Tryz.underlying4 _),(trodAll_cons_mk (z0 W' _ _ _) (trodAll_cons_mk (shut_string Tryz.underlying9 w1) trodAll_mk0)),rfl,bel.frame _,fun h=>by cases h⟩
theorem over:Rows.editNodeNamesRow.holds Tryz.pinned (OpenSpec.ofChange Rows.editNodeNamesSpec):=
 OpenClaim.holds_of_wide 9 Tryz.f9 rfl rfl rfl rfl rfl rfl rfl ⟨rfl,rfl,rfl,rfl,rfl⟩ rfl rfl rfl rfl rfl (by kernel_rfl) Tryz.func9 (by kernel_rfl)
  (of_decide_eq_true (by kernel_rfl)) (by unfold Func.isWrapper;first | (rw [if_pos (by decide +kernel)];kernel_rfl) | (rw [if_neg (by decide +kernel)];exact ⟨rfl,rfl⟩))
  (fun os started H enc _=>lifted os started H enc)
theorem card:Rows.EditNodeNamesCardSaid:=
 Claim7.holds_tied_plain_at .later [] [.data, .data, .data, .data, .sentinel, .sentinel, .pinned] true (true, "b943bff82f981aee562cfd8a0a074593bc4b8c4b9f2ebd57630a3bfa0c4022b8") true over (fun _ h => by cases h) (by kernel_rfl) (fun _ h => by cases h) editNodeNames_row_tie rfl ⟨rfl, rfl⟩ (by kernel_rfl) rfl
  (fun f fn hf hfn=>by
   obtain rfl : f = 9 := Option.some.inj ((show Tryz.prog.funcNamed "voussoir/voussoirlaw37.EditNodeNames" = some 9 by kernel_rfl).symm.trans hf) |>.symm
   obtain rfl:fn=Tryz.f9:=(Option.some.inj (Tryz.func9.symm.trans hfn)).symm
   exact ⟨by kernel_rfl,fun j t ht=>by
    rw [Tryz.params9] at ht
    have hm:t ∈ [23,9]:=by simpa using Array.mem_of_getElem? ht
    have hall:([23,9].all fun u=>!Tryz.prog.wantsStandIn u)=true:=by kernel_rfl
    exact (show Tryz.prog.wantsStandIn t=false by simpa using List.all_eq_true.1 hall t hm)⟩)
  (by kernel_rfl)
#print axioms card
end Go.Proofs.YtkkjlpfomofiaaaGreatDoor.editNodeNames
namespace Go.Proofs.YtkkjlpfomofiaaaGreatDoor
theorem editNodeNames_holds:Rows.EditNodeNamesCardSaid:=editNodeNames.card
end Go.Proofs.YtkkjlpfomofiaaaGreatDoor
