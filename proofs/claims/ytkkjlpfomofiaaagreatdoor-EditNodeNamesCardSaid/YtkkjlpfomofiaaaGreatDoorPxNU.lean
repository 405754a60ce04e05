import Derived.Test.YtkkjlpfomofiaaaGreatDoorPx0
import Derived.Test.YtkkjlpfomofiaaaGreatDoorPxNA
import Derived.Test.YtkkjlpfomofiaaaGreatDoorXQ
namespace Go.Proofs.YtkkjlpfomofiaaaGreatDoor.P
open Go.RowKit Go.Proofs.YtkkjlpfomofiaaaGreatDoorW.PrintWords Go.Proofs.YtkkjlpfomofiaaaGreatDoorW.PrintLast Go.Proofs.YtkkjlpfomofiaaaGreatDoorW.PrintMore
attribute [local go_sem] aBK aBL aCg aCh aB0 aB1 aBM aBN
attribute [local go_sem] XW.cell_twice
set_option linter.unusedVariables false
set_option linter.unusedSimpArgs false
def nat_Uint64.l0:Nat→ByteArray→Int→Int→Int→Option (Int × Bool)
 | 0,_,_,_,_=>none
 | k+1,x0,x4,x12,x13=>if x13 < x12 then (if 0≤x13 then (if x13 < (x0.size:Int) then (if 0≤(wrap64 (8*x13)) then (nat_Uint64.l0 k x0 (Go.bits .or .u64 x4 (shl .u64 (IntKind.u64.wrap (bt x0 x13)) (wrap64 (8*x13)))) x12 (wrap64 (x13+1))) else (none)) else (none)) else (none)) else (some (x4,true))
def nat_Uint64.f (k:Nat) (a0:ByteArray):Option (Int × Bool):=(nat_Normalize.f k a0).bind fun t254=>(if (t254.size:Int) > 8 then (some (0,false)) else (nat_Uint64.l0 k t254 0 (t254.size:Int) 0))
theorem nat_Uint64.mono_l:∀ k,(∀ y0 y1 y2 y3,LeO (nat_Uint64.l0 k y0 y1 y2 y3) (nat_Uint64.l0 (k+1) y0 y1 y2 y3))
 | 0=>fun _ _ _ _ r h=>by simp [nat_Uint64.l0] at h
 | k+1=>by
  have ih0:=nat_Uint64.mono_l k
  ·intro y0 y1 y2 y3
   unfold nat_Uint64.l0
   repeat' first
   | (with_reducible exact ih0 _ _ _ _)
   | (with_reducible exact nat_Normalize.mono _ _)
   | (with_reducible exact LeO.refl _)
   | (with_reducible exact LeO.none _)
   | (with_reducible refine LeO.ite ?_ ?_)
   | (with_reducible refine LeO.bind ?_ (fun _=>?_))
   | exact ih0 _ _ _ _
   | exact nat_Normalize.mono _ _
   | exact LeO.none _
   | refine LeO.ite ?_ ?_
   | refine LeO.bind ?_ (fun _=>?_)
theorem nat_Uint64.mono:∀ a0 k,LeO (nat_Uint64.f k a0) (nat_Uint64.f (k+1) a0):=by
 intro a0 k
 have ih0:=nat_Uint64.mono_l k
 unfold nat_Uint64.f
 repeat' first
   | (with_reducible exact ih0 _ _ _ _)
   | (with_reducible exact nat_Normalize.mono _ _)
   | (with_reducible exact LeO.refl _)
   | (with_reducible exact LeO.none _)
   | (with_reducible refine LeO.ite ?_ ?_)
   | (with_reducible refine LeO.bind ?_ (fun _=>?_))
   | exact ih0 _ _ _ _
   | exact nat_Normalize.mono _ _
   | exact LeO.none _
   | refine LeO.ite ?_ ?_
   | refine LeO.bind ?_ (fun _=>?_)
set_option maxHeartbeats 8000000 in
set_option maxRecDepth 100000 in
theorem nat_Uint64.calls (k:Nat) (a0:ByteArray) (r1:Int) (r2:Bool) (w:World) (h:nat_Uint64.f k a0=some (r1,r2)) :
  Calls Tryz.prog 186 #[.string a0] w fun e w'=>e=.returned (.tuple #[.int .u64 r1,.bool r2])∧Below w.heap.size w w':=by
 have HB:=Q.a (Below.refl w.heap.size w)
 have H:((nat_Normalize.f k a0).bind fun t254=>(if (t254.size:Int) > 8 then (some (0,false)) else (nat_Uint64.l0 k t254 0 (t254.size:Int) 0)))=some (r1,r2):=h
 clear h
 replace H:=Option.bind_eq_some_iff.mp H
 obtain ⟨t254,A20,H⟩:=H
 try dsimp only at H
 have A2:=Q.a A20
 clear A20
 by_cases c3:(t254.size:Int) > 8
 ·rw [if_pos c3] at H
  have c3b0:decide (8 < (t254.size:Int))=true:=decide_eq_true c3
  have c3b1:decide (8 < t254.size)=true:=decide_eq_true (by omega)
  clear c3
  simp only [Option.some.injEq,Prod.mk.injEq] at H
  obtain ⟨rfl,rfl⟩:=H
  go_enter Tryz.func186,Tryz.ntmps186
  go_wp2_with (first | ((with_reducible refine aAe (f:=162) rfl ?_);refine Q.gl 7 Tryz.func162 #[.string a0] rfl rfl rfl rfl ?_;(with_reducible refine (nat_Normalize.calls k a0 t254 _ A2.out).mono ?_);rintro e w4 ⟨rfl,hb⟩;refine ⟨_,rfl,?_⟩;replace HB:=Q.a (aAb (Q.bw HB) hb);(try clear hb)))
  go_ret2
  exact ⟨Q.en,Q.bw HB⟩
 ·rw [if_neg c3] at H
  have c3b0:decide (8 < (t254.size:Int))=false:=decide_eq_false c3
  have c3b1:decide (8 < t254.size)=false:=decide_eq_false (by omega)
  clear c3
  have H':=Q.a H
  clear H
  go_enter Tryz.func186,Tryz.ntmps186
  go_wp2_with (first | ((with_reducible refine aAe (f:=162) rfl ?_);refine Q.gl 7 Tryz.func162 #[.string a0] rfl rfl rfl rfl ?_;(with_reducible refine (nat_Normalize.calls k a0 t254 _ A2.out).mono ?_);rintro e w5 ⟨rfl,hb⟩;refine ⟨_,rfl,?_⟩;replace HB:=Q.a (aAb (Q.bw HB) hb);(try clear hb)))
  go_loopg [4,13] k (fun kq v4 v13 w'=>∃ (x4_1:Int) (x13_1:Int),v4=.int .u64 x4_1∧v13=.int .i64 x13_1∧Aside0 (nat_Uint64.l0 kq t254 x4_1 (t254.size:Int) x13_1=some (r1,r2))∧Aside0 (kq≤k)∧Aside0 (Below w.heap.size w w'))
  case atStart=>exact ⟨(0),(0),Q.rs,Q.rs,H',⟨Nat.le_refl _⟩,⟨Q.bw HB⟩⟩
  case round =>
   clear H'
   try clear c1
   try clear p2
   try clear c3
   try clear c3b0
   try clear c3b1
   obtain ⟨x4_1,x13_1,rfl,rfl,HA,HK1,HB⟩:=hrel
   cases gk with
   | zero=>exact absurd HA.out (by simp [nat_Uint64.l0])
   | succ k1 =>
    have H:=HA.out
    clear HA
    simp only [nat_Uint64.l0] at H
    by_cases c6:x13_1 < (t254.size:Int)
    ·rw [if_pos c6] at H
     have c6b0:decide (x13_1 < (t254.size:Int))=true:=decide_eq_true c6
     clear c6
     by_cases c7:0≤x13_1
     ·rw [if_pos c7] at H
      have c7b0:decide (0≤x13_1)=true:=decide_eq_true c7
      clear c7
      by_cases c8:x13_1 < (t254.size:Int)
      ·rw [if_pos c8] at H
       have c8b0:decide (x13_1 < (t254.size:Int))=true:=decide_eq_true c8
       clear c8
       obtain ⟨ji10,hji10⟩:∃ j_:Int,(wrap64 (8*x13_1))=j_:=⟨_,rfl⟩
       replace H:(if 0≤(ji10) then (nat_Uint64.l0 k1 t254 (Go.bits .or .u64 x4_1 (shl .u64 (IntKind.u64.wrap (bt t254 x13_1)) (ji10))) (t254.size:Int) (wrap64 (x13_1+1))) else (none))=some (r1,r2):=by first | (rw [hji10] at H;exact H) | (simp only [hji10] at H ⊢;exact H)
       have hji10w:(IntKind.i64.wrap (8*x13_1))=ji10:=(aAk _).trans hji10
       by_cases c11:0≤(ji10)
       ·rw [if_pos c11] at H
        have c11b0:=eq_true c11
        have c11b1:decide (0≤(ji10))=true:=decide_eq_true c11
        clear c11
        obtain ⟨ji12,hji12⟩:∃ j_:Int,(shl .u64 (IntKind.u64.wrap (bt t254 x13_1)) (ji10))=j_:=⟨_,rfl⟩
        replace H:(nat_Uint64.l0 k1 t254 (Go.bits .or .u64 x4_1 (ji12)) (t254.size:Int) (wrap64 (x13_1+1)))=some (r1,r2):=by first | (rw [hji12] at H;exact H) | (simp only [hji12] at H ⊢;exact H)
        have hji12_:(IntKind.u64.wrap ((IntKind.u64.wrap (bt t254 x13_1))*2 ^ min (ji10).toNat 64))=ji12:=hji12
        have hji12z:(ji10)≤64→(IntKind.u64.wrap ((IntKind.u64.wrap (bt t254 x13_1))*2 ^ (ji10).toNat))=ji12:=aFk hji12
        have H':=Q.a H
        clear H
        have p9:0≤(x13_1:Int):=of_decide_eq_true (by first | (with_reducible assumption) | assumption)
        have q9:x13_1 < (t254.size:Int):=of_decide_eq_true (by first | (with_reducible assumption) | assumption)
        have hx9:=aBq t254 x13_1
        replace p9:=eq_true p9
        replace q9:=eq_true q9
        go_wp2
        go_roundg k1
        case measure=>have:=HK1.out;omega
        case rel=>exact ⟨(Go.bits .or .u64 x4_1 (ji12)),(wrap64 (x13_1+1)),(by first | rfl | (simp;done) | (simp only [← hji12]<;>(first | rfl | simp)) | (simp [*];done)),Q.rs,H',⟨by have:=HK1.out;omega⟩,⟨Q.bw HB⟩⟩
       ·rw [if_neg c11] at H
        exact absurd H (by simp)
      ·rw [if_neg c8] at H
       exact absurd H (by simp)
     ·rw [if_neg c7] at H
      exact absurd H (by simp)
    ·rw [if_neg c6] at H
     have c6b0:decide (x13_1 < (t254.size:Int))=false:=decide_eq_false c6
     clear c6
     simp only [Option.some.injEq,Prod.mk.injEq] at H
     obtain ⟨rfl,rfl⟩:=H
     go_wp2
     go_ret2
     exact ⟨Q.en,Q.bw HB⟩
end Go.Proofs.YtkkjlpfomofiaaaGreatDoor.P
