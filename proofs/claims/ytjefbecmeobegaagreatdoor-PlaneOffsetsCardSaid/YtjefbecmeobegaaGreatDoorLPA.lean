import Derived.Test.YtjefbecmeobegaaGreatDoorRows
import Derived.Test.YtjefbecmeobegaaGreatDoorPLOffsets
import Derived.Test.YtjefbecmeobegaaGreatDoorXG
import Derived.Test.YtjefbecmeobegaaGreatDoorXT
import Derived.Test.YtjefbecmeobegaaGreatDoorCards
import Derived.Test.YtjefbecmeobegaaGreatDoorTie
import Derived.WalkKit
import Derived.ProofKit
import Derived.OpenShut
import Derived.ShutString
import Derived.ChangeOld
import Derived.Below
import Derived.SizedLaws
import Derived.LaidMore
import Derived.Lay
import Derived.SevenTiedAt
import Derived.Stop.Joined
namespace Go.Proofs.YtjefbecmeobegaaGreatDoor.planeOffsets
open Go.ChangeShapes Go.WideShapes Go.ChangeAt Go.RowKit
set_option linter.unusedVariables false
theorem own:ownKnob Tryz.prog.godebug=none:=by kernel_rfl
set_option maxRecDepth 100000 in
theorem lifted (os:Os) (started:os.Started) (H:Type) (enc:TypeId × Value->H) :
  ReturnsInHanded {} Tryz.checked os 15 .any (λ w args=>(Rows.planeOffsetsSpec.pre enc Tryz.prog Tryz.f15 Rows.planeOffsetsRow.domain false w args/\laidMetH Tryz.prog Rows.planeOffsetsRow.laid w)/\sizedMet enc Tryz.prog Tryz.f15 (OpenSpec.ofChange Rows.planeOffsetsSpec) false w args) (Rows.planeOffsetsSpec.post enc Tryz.prog Tryz.f15 false true false false):=by
 refine returnsInHanded_of_change_and (C:=Tryz.checked) (X:=λ w _=>laidMetH Tryz.prog Rows.planeOffsetsRow.laid w) (λ _ _ _ hh h=>h.of_heap hh) own started (by kernel_rfl) Tryz.func15
  (ChangeSpec.witness_shaped (enc:=enc) (C:=Tryz.checked) (os:=os) (X:=λ w _=>laidMetH Tryz.prog Rows.planeOffsetsRow.laid w) false (World.laidAll Tryz.prog os Rows.planeOffsetsRow.laid) #[.agg #[.bool false,.string ByteArray.empty,.bool false,.string ByteArray.empty,.bool false,.string ByteArray.empty,.bool false,.string ByteArray.empty],.agg #[.bool false,.string ByteArray.empty,.bool false,.string ByteArray.empty,.bool false,.string ByteArray.empty,.bool false,.string ByteArray.empty],.agg #[.bool false,.string ByteArray.empty,.string ByteArray.empty]] 8 (World.laidAll_os _ _ _)
   (World.shaped_of_ZipB (by kernel_rfl) (by kernel_rfl)) (by kernel_rfl) (by kernel_rfl) (by kernel_rfl)
   (by rw [MakeChecks.laidMetH_plain _ _ _ (by kernel_rfl)];exact laidMet_laidAll _ (by kernel_rfl) (by kernel_rfl))) ?_
 intro W base args ds gs before hval0 hW hcnd hsz0 hL _
 have hG:X.G W:=X.G_of_laid hL (by kernel_rfl) (by simp [Rows.planeOffsetsRow])
 clear hL
 have hval:∀ (j:Nat) t v,Tryz.f15.params[j]?=some t->args[j]?=some v->Value.okWide Tryz.prog W .any base t v:=hval0
 have hW':=hW
 obtain ⟨p,q,hA0,hV,rfl,hfz,hnd⟩:=hW
 have hA:DataW.TrodAll enc Tryz.prog W 0 (λ _=>true) true Tryz.f15.params.toList args.toList ds p:=hA0
 rw [Tryz.params15] at hA hval
 obtain ⟨v0,vs0,d0,ds0,p0,q0,hargs,rfl,rfl,h0,r0⟩:=trodAll_cons hA
 obtain ⟨v1,vs1,d1,ds1,p1,q1,rfl,rfl,rfl,h1,r1⟩:=trodAll_cons r0
 obtain ⟨v2,vs2,d2,ds2,p2,q2,rfl,rfl,rfl,h2,r2⟩:=trodAll_cons r1
 obtain ⟨rfl,rfl,rfl⟩:=trodAll_nil r2
 obtain rfl:args=#[v0,v1,v2]:=by cases args;simp_all
 obtain ⟨rfl,rfl⟩:=trodVars_none hV
 obtain ⟨c0,rfl,g0⟩:=okWide_struct Tryz.underlying53 (hval 0 53 v0 rfl rfl)
 obtain ⟨k0,rfl,z0⟩:=X.open_pk (d:=5) (ks:=[.b,.s,.b,.s,.b,.s,.b,.s]) (by kernel_rfl) (by kernel_rfl) h0
 have g0:c0.size=8:=g0.trans (by kernel_rfl)
 obtain ⟨c1,rfl,g1⟩:=okWide_struct Tryz.underlying25 (hval 1 25 v1 rfl rfl)
 obtain ⟨k1,rfl,z1⟩:=X.open_pk (d:=5) (ks:=[.b,.s,.b,.s,.b,.s,.b,.s]) (by kernel_rfl) (by kernel_rfl) h1
 have g1:c1.size=8:=g1.trans (by kernel_rfl)
 obtain ⟨c2,rfl,g2⟩:=okWide_struct Tryz.underlying27 (hval 2 27 v2 rfl rfl)
 obtain ⟨k2,rfl,z2⟩:=X.open_pk (d:=5) (ks:=[.b,.s,.s]) (by kernel_rfl) (by kernel_rfl) h2
 have g2:c2.size=3:=g2.trans (by kernel_rfl)
 clear hA0 hval0 hsz0
 have hb:Sx.blds [.agg 8,.agg 8,.agg 3] (c0.toList++(c1.toList++(c2.toList++([]))))=[.agg c0,.agg c1,.agg c2]:=by
  rw [X.blds_agg g0,X.blds_agg g1,X.blds_agg g2]
  rfl
 have hk:Sx.oks ([.b,.s,.b,.s,.b,.s,.b,.s]++([.b,.s,.b,.s,.b,.s,.b,.s]++([.b,.s,.s]++([])))) (c0.toList++(c1.toList++(c2.toList++([]))))=true:=(X.oks_add k0 (X.oks_add k1 (X.oks_add k2 rfl)))
 have hc:=Sp.calls_flat Sp.g_PlaneOffsets (cs:=c0.toList++(c1.toList++(c2.toList++([])))) hk (by kernel_rfl) hG
 rw [hb] at hc
 refine hc.mono λ e W' ⟨he,bel⟩=>?_
 subst he
 exact ⟨_,rfl,_,_,_,[],_,[],hW',trodAll_mk1 (shut_bool Tryz.underlying4 _),(trodAll_cons_mk (z0 W' _ _ _) (trodAll_cons_mk (z1 W' _ _ _) (trodAll_cons_mk (z2 W' _ _ _) trodAll_mk0))),rfl,bel.frame _,λ h=>by cases h⟩
end Go.Proofs.YtjefbecmeobegaaGreatDoor.planeOffsets
