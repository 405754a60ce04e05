import Derived.Test.YtjefbecmeobegaaGreatDoorRows
import Derived.Test.YtjefbecmeobegaaGreatDoorPLScaling
import Derived.Test.YtjefbecmeobegaaGreatDoorXG
import Derived.Test.YtjefbecmeobegaaGreatDoorXT
import Derived.Test.YtjefbecmeobegaaGreatDoorCards
import Derived.Test.YtjefbecmeobegaaGreatDoorTie
import Derived.WalkKit
import Derived.ProofKit
import Derived.OpenShut
import Derived.ShutString
import Derived.ChangeOld
import Derived.Below
import Derived.SizedLaws
import Derived.LaidMore
import Derived.Lay
import Derived.SevenTiedAt
import Derived.Stop.Joined
namespace Go.Proofs.YtjefbecmeobegaaGreatDoor.planeScaling
open Go.ChangeShapes Go.WideShapes Go.ChangeAt Go.RowKit
set_option linter.unusedVariables false
theorem own:ownKnob Tryz.prog.godebug=none:=by kernel_rfl
set_option maxRecDepth 100000 in
theorem lifted (os:Os) (started:os.Started) (H:Type) (enc:TypeId × Value→H) :
  ReturnsInHanded {} Tryz.checked os 12 .any (fun w args=>(Rows.planeScalingSpec.pre enc Tryz.prog Tryz.f12 Rows.planeScalingRow.domain false w args∧laidMetH Tryz.prog Rows.planeScalingRow.laid w)∧sizedMet enc Tryz.prog Tryz.f12 (OpenSpec.ofChange Rows.planeScalingSpec) false w args) (Rows.planeScalingSpec.post enc Tryz.prog Tryz.f12 false true false false):=by
 refine returnsInHanded_of_change_and (C:=Tryz.checked) (X:=fun w _=>laidMetH Tryz.prog Rows.planeScalingRow.laid w) (fun _ _ _ hh h=>h.of_heap hh) own started (by kernel_rfl) Tryz.func12
  (ChangeSpec.witness_shaped (enc:=enc) (C:=Tryz.checked) (os:=os) (X:=fun w _=>laidMetH Tryz.prog Rows.planeScalingRow.laid w) false (World.laidAll Tryz.prog os Rows.planeScalingRow.laid) #[.agg #[.bool false,.string ByteArray.empty,.bool false,.string ByteArray.empty,.bool false,.string ByteArray.empty,.bool false,.string ByteArray.empty],.int .i8 0] 8 (World.laidAll_os _ _ _)
   (World.shaped_of_ZipB (by kernel_rfl) (by kernel_rfl)) (by kernel_rfl) (by kernel_rfl) (by kernel_rfl)
   (by rw [MakeChecks.laidMetH_plain _ _ _ (by kernel_rfl)];exact laidMet_laidAll _ (by kernel_rfl) (by kernel_rfl))) ?_
 intro W base args ds gs before hval0 hW hcnd hsz0 hL _
 have hG:X.G W:=X.G_of_laid hL (by kernel_rfl) (by simp [Rows.planeScalingRow])
 clear hL
 have hval:∀ (j:Nat) t v,Tryz.f12.params[j]?=some t→args[j]?=some v→Value.okWide Tryz.prog W .any base t v:=hval0
 have hW':=hW
 obtain ⟨p,q,hA0,hV,rfl,hfz,hnd⟩:=hW
 have hA:DataW.TrodAll enc Tryz.prog W 0 (fun _=>true) true Tryz.f12.params.toList args.toList ds p:=hA0
 rw [Tryz.params12] at hA hval
 obtain ⟨v0,vs0,d0,ds0,p0,q0,hargs,rfl,rfl,h0,r0⟩:=trodAll_cons hA
 obtain ⟨v1,vs1,d1,ds1,p1,q1,rfl,rfl,rfl,h1,r1⟩:=trodAll_cons r0
 obtain ⟨rfl,rfl,rfl⟩:=trodAll_nil r1
 obtain rfl:args=#[v0,v1]:=by cases args;simp_all
 obtain ⟨rfl,rfl⟩:=trodVars_none hV
 obtain ⟨c0,rfl,g0⟩:=okWide_struct Tryz.underlying53 (hval 0 53 v0 rfl rfl)
 obtain ⟨k0,rfl,z0⟩:=X.open_pk (d:=5) (ks:=[.b,.s,.b,.s,.b,.s,.b,.s]) (by kernel_rfl) (by kernel_rfl) h0
 have g0:c0.size=8:=g0.trans (by kernel_rfl)
 obtain ⟨a1,rfl,rfl,rfl,w1⟩:=open_int Tryz.underlying70 (hval 1 70 v1 rfl rfl) h1
 clear hA0 hval0 hsz0
 have hb:Sx.blds [.agg 8,.one] (c0.toList++[.int .i8 a1])=[.agg c0,.int .i8 a1]:=by
  rw [X.blds_agg g0]
  rfl
 have hc:=Sp.calls_PlaneScaling (cs:=c0.toList) w1 k0 hG
 rw [hb] at hc
 refine hc.mono fun e W' ⟨he,bel⟩=>?_
 subst he
 exact ⟨_,rfl,_,_,_,[],_,[],hW',trodAll_mk1 (shut_bool Tryz.underlying4 _),(trodAll_cons_mk (z0 W' _ _ _) (trodAll_cons_mk (shut_int Tryz.underlying70 w1) trodAll_mk0)),rfl,bel.frame _,fun h=>by cases h⟩
theorem over:Rows.planeScalingRow.holds Tryz.pinned (OpenSpec.ofChange Rows.planeScalingSpec):=
 OpenClaim.holds_of_wide 12 Tryz.f12 rfl rfl rfl rfl rfl rfl rfl ⟨rfl,rfl,rfl,rfl,rfl⟩ rfl rfl rfl rfl rfl (by kernel_rfl) Tryz.func12 (by kernel_rfl)
  (of_decide_eq_true (by kernel_rfl)) (by unfold Func.isWrapper;first | (rw [if_pos (by decide +kernel)];kernel_rfl) | (rw [if_neg (by decide +kernel)];exact ⟨rfl,rfl⟩))
  (fun os started H enc _=>lifted os started H enc)
theorem card:Rows.PlaneScalingCardSaid:=
 Claim7.holds_tied_plain_at .later [] [.data, .data, .data, .data, .pinned] true (true, "aa6a4fdf4c60225785df291a4967c3e22c317121f7278beca8305c370a93349f") false over (fun _ h => by cases h) (by kernel_rfl) (fun _ h => by cases h) planeScaling_row_tie rfl ⟨rfl, rfl⟩ (by kernel_rfl) rfl
  (fun f fn hf hfn=>by
   obtain rfl : f = 12 := Option.some.inj ((show Tryz.prog.funcNamed "voussoir/voussoirlaw05.PlaneScaling" = some 12 by kernel_rfl).symm.trans hf) |>.symm
   obtain rfl:fn=Tryz.f12:=(Option.some.inj (Tryz.func12.symm.trans hfn)).symm
   exact ⟨by kernel_rfl,fun j t ht=>by
    rw [Tryz.params12] at ht
    have hm:t ∈ [53,70]:=by simpa using Array.mem_of_getElem? ht
    have hall:([53,70].all fun u=>!Tryz.prog.wantsStandIn u)=true:=by kernel_rfl
    exact (show Tryz.prog.wantsStandIn t=false by simpa using List.all_eq_true.1 hall t hm)⟩)
  (by kernel_rfl)
#print axioms card
end Go.Proofs.YtjefbecmeobegaaGreatDoor.planeScaling
namespace Go.Proofs.YtjefbecmeobegaaGreatDoor
theorem planeScaling_holds:Rows.PlaneScalingCardSaid:=planeScaling.card
end Go.Proofs.YtjefbecmeobegaaGreatDoor
