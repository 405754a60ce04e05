import Derived.Test.YtkkjlpfomofiaaaGreatDoorPx0
import Derived.Test.YtkkjlpfomofiaaaGreatDoorPxNB
import Derived.Test.YtkkjlpfomofiaaaGreatDoorTw
import Derived.Test.YtkkjlpfomofiaaaGreatDoorXQ
namespace Go.Proofs.YtkkjlpfomofiaaaGreatDoor.P
open Go.RowKit Go.Proofs.YtkkjlpfomofiaaaGreatDoorW.PrintWords Go.Proofs.YtkkjlpfomofiaaaGreatDoorW.PrintLast Go.Proofs.YtkkjlpfomofiaaaGreatDoorW.PrintMore
attribute [local go_sem] aBK aBL aCg aCh aB0 aB1 aBM aBN
attribute [local go_sem] XW.cell_twice
set_option linter.unusedVariables false
set_option linter.unusedSimpArgs false
mutual
def nat_long.l0:Nat→List Int→List Int→Int→Int→Int→List Int→Int→Int→Option (List Int × List Int)
 | 0,_,_,_,_,_,_,_,_=>none
 | k+1,x0,x1,x6,x7,x8,x9,x45,x46=>if x46 < x45 then (if 0≤(wrap64 ((wrap64 ((wrap64 ((x9.length:Int) - 1)) - x46))+x7)) then (if (wrap64 ((wrap64 ((wrap64 ((x9.length:Int) - 1)) - x46))+x7)) < (x0.length:Int) then (if 0≤(wrap64 ((wrap64 ((wrap64 ((wrap64 ((x9.length:Int) - 1)) - x46))+x7)) - 1)) then (if (wrap64 ((wrap64 ((wrap64 ((wrap64 ((x9.length:Int) - 1)) - x46))+x7)) - 1)) < (x0.length:Int) then (if (IntKind.u64.wrap (x8))=0 then (none) else (nat_long.l1 k x0 x1 x6 x7 x8 x9 (wrap64 ((wrap64 ((x9.length:Int) - 1)) - x46)) (IntKind.u64.wrap (Int.tdiv (Go.bits .or .u64 (IntKind.u64.wrap ((IntKind.u64.wrap (rd x0 (wrap64 ((wrap64 ((wrap64 ((x9.length:Int) - 1)) - x46))+x7))))*4294967296)) (IntKind.u64.wrap (rd x0 (wrap64 ((wrap64 ((wrap64 ((wrap64 ((x9.length:Int) - 1)) - x46))+x7)) - 1))))) (IntKind.u64.wrap (x8)))) (Int.tmod (Go.bits .or .u64 (IntKind.u64.wrap ((IntKind.u64.wrap (rd x0 (wrap64 ((wrap64 ((wrap64 ((x9.length:Int) - 1)) - x46))+x7))))*4294967296)) (IntKind.u64.wrap (rd x0 (wrap64 ((wrap64 ((wrap64 ((wrap64 ((x9.length:Int) - 1)) - x46))+x7)) - 1))))) (IntKind.u64.wrap (x8))) x45 x46)) else (none)) else (none)) else (none)) else (none)) else (if 0≤x7 then (if x7≤(x0.length:Int) then ((nat_unshift.f k (x0.take (x7:Int).toNat) x6).bind fun t213=>(some (x9,t213))) else (none)) else (none))
def nat_long.l1:Nat→List Int→List Int→Int→Int→Int→List Int→Int→Int→Int→Int→Int→Option (List Int × List Int)
 | 0,_,_,_,_,_,_,_,_,_,_,_=>none
 | k+1,x0,x1,x6,x7,x8,x9,x11,x13,x14,x45,x46=>if x13 > 4294967295 then (nat_long.j2 k x0 x1 x6 x7 x8 x9 x11 x13 x14 x45 x46 true) else (if 0≤(wrap64 (x7 - 2)) then (if (wrap64 (x7 - 2)) < (x1.length:Int) then (if 0≤(wrap64 ((wrap64 (x11+x7)) - 2)) then (if (wrap64 ((wrap64 (x11+x7)) - 2)) < (x0.length:Int) then (nat_long.j2 k x0 x1 x6 x7 x8 x9 x11 x13 x14 x45 x46 (decide ((IntKind.u64.wrap (x13*(IntKind.u64.wrap (rd x1 (wrap64 (x7 - 2)))))) > (Go.bits .or .u64 (IntKind.u64.wrap (x14*4294967296)) (IntKind.u64.wrap (rd x0 (wrap64 ((wrap64 (x11+x7)) - 2)))))))) else (none)) else (none)) else (none)) else (none))
def nat_long.j2:Nat→List Int→List Int→Int→Int→Int→List Int→Int→Int→Int→Int→Int→Bool→Option (List Int × List Int)
 | 0,_,_,_,_,_,_,_,_,_,_,_,_=>none
 | k+1,x0,x1,x6,x7,x8,x9,x11,x13,x14,x45,x46,x102=>if x102=true then (if (IntKind.u64.wrap (x14+(IntKind.u64.wrap (x8)))) > 4294967295 then ((nat_take_win.f k x0 x11 (wrap64 ((wrap64 (x11+x7))+1)) x1 ((IntKind.u64.wrap (x13 - 1)) % 4294967296)).bind fun bt220=>(if bt220.1=true then (if 0≤x11 then (if x11 < (x9.length:Int) then (nat_long.l0 k bt220.2 x1 x6 x7 x8 (x9.set (x11:Int).toNat ((IntKind.u64.wrap ((IntKind.u64.wrap (x13 - 1)) - 1)) % 4294967296)) x45 (wrap64 (x46+1))) else (none)) else (none)) else (if 0≤x11 then (if x11 < (x9.length:Int) then (nat_long.l0 k bt220.2 x1 x6 x7 x8 (x9.set (x11:Int).toNat ((IntKind.u64.wrap (x13 - 1)) % 4294967296)) x45 (wrap64 (x46+1))) else (none)) else (none)))) else (nat_long.l1 k x0 x1 x6 x7 x8 x9 x11 (IntKind.u64.wrap (x13 - 1)) (IntKind.u64.wrap (x14+(IntKind.u64.wrap (x8)))) x45 x46)) else ((nat_take_win.f k x0 x11 (wrap64 ((wrap64 (x11+x7))+1)) x1 ((x13) % 4294967296)).bind fun bt224=>(if bt224.1=true then (if 0≤x11 then (if x11 < (x9.length:Int) then (nat_long.l0 k bt224.2 x1 x6 x7 x8 (x9.set (x11:Int).toNat ((IntKind.u64.wrap (x13 - 1)) % 4294967296)) x45 (wrap64 (x46+1))) else (none)) else (none)) else (if 0≤x11 then (if x11 < (x9.length:Int) then (nat_long.l0 k bt224.2 x1 x6 x7 x8 (x9.set (x11:Int).toNat ((x13) % 4294967296)) x45 (wrap64 (x46+1))) else (none)) else (none))))
end
def nat_long.f (k:Nat) (l0:List Int) (l1:List Int):Option (List Int × List Int):=if 0≤(wrap64 ((l1.length:Int) - 1)) then (if (wrap64 ((l1.length:Int) - 1)) < (l1.length:Int) then ((X.bits_LeadingZeros32.f (rd l1 (wrap64 ((l1.length:Int) - 1)))).bind fun t196=>((nat_shift.f k l1 t196).bind fun t197=>(if 0≤(l1.length:Int) then (if (l1.length:Int)≤(t197.length:Int) then ((some (t197.take ((l1.length:Int):Int).toNat:List Int)).bind fun y200=>((nat_shift.f k l0 t196).bind fun t203=>(if 0≤(wrap64 ((y200.length:Int) - 1)) then (if (wrap64 ((y200.length:Int) - 1)) < (y200.length:Int) then (if 0≤(mx (wrap64 ((t203.length:Int) - (y200.length:Int))) 0) then (if (mx (wrap64 ((t203.length:Int) - (y200.length:Int))) 0:Int).toNat≤70368744177664 then ((some (List.replicate (mx (wrap64 ((t203.length:Int) - (y200.length:Int))) 0:Int).toNat 0:List Int)).bind fun y207=>(nat_long.l0 k t203 y200 t196 (y200.length:Int) (rd y200 (wrap64 ((y200.length:Int) - 1))) y207 (y207.length:Int) 0)) else (none)) else (none)) else (none)) else (none)))) else (none)) else (none)))) else (none)) else (none)
theorem nat_long.mono_l:∀ k,(∀ y0 y1 y2 y3 y4 y5 y6 y7,LeO (nat_long.l0 k y0 y1 y2 y3 y4 y5 y6 y7) (nat_long.l0 (k+1) y0 y1 y2 y3 y4 y5 y6 y7))∧(∀ y0 y1 y2 y3 y4 y5 y6 y7 y8 y9 y10,LeO (nat_long.l1 k y0 y1 y2 y3 y4 y5 y6 y7 y8 y9 y10) (nat_long.l1 (k+1) y0 y1 y2 y3 y4 y5 y6 y7 y8 y9 y10))∧(∀ y0 y1 y2 y3 y4 y5 y6 y7 y8 y9 y10 y11,LeO (nat_long.j2 k y0 y1 y2 y3 y4 y5 y6 y7 y8 y9 y10 y11) (nat_long.j2 (k+1) y0 y1 y2 y3 y4 y5 y6 y7 y8 y9 y10 y11))
 | 0=>⟨fun _ _ _ _ _ _ _ _ r h=>by simp [nat_long.l0] at h,fun _ _ _ _ _ _ _ _ _ _ _ r h=>by simp [nat_long.l1] at h,fun _ _ _ _ _ _ _ _ _ _ _ _ r h=>by simp [nat_long.j2] at h⟩
 | k+1=>by
  obtain ⟨ih0,ih1,ih2⟩:=nat_long.mono_l k
  refine ⟨?_,?_,?_⟩
  ·intro y0 y1 y2 y3 y4 y5 y6 y7
   unfold nat_long.l0
   repeat' first
   | (with_reducible exact ih0 _ _ _ _ _ _ _ _)
   | (with_reducible exact ih1 _ _ _ _ _ _ _ _ _ _ _)
   | (with_reducible exact ih2 _ _ _ _ _ _ _ _ _ _ _ _)
   | (with_reducible exact nat_shift.mono _ _ _)
   | (with_reducible exact nat_take_win.mono _ _ _ _ _ _)
   | (with_reducible exact nat_unshift.mono _ _ _)
   | (with_reducible exact LeO.refl _)
   | (with_reducible exact LeO.none _)
   | (with_reducible refine LeO.ite ?_ ?_)
   | (with_reducible refine LeO.bind ?_ (fun _=>?_))
   | exact ih0 _ _ _ _ _ _ _ _
   | exact ih1 _ _ _ _ _ _ _ _ _ _ _
   | exact ih2 _ _ _ _ _ _ _ _ _ _ _ _
   | exact nat_shift.mono _ _ _
   | exact nat_take_win.mono _ _ _ _ _ _
   | exact nat_unshift.mono _ _ _
   | exact LeO.none _
   | refine LeO.ite ?_ ?_
   | refine LeO.bind ?_ (fun _=>?_)
  ·intro y0 y1 y2 y3 y4 y5 y6 y7 y8 y9 y10
   unfold nat_long.l1
   repeat' first
   | (with_reducible exact ih0 _ _ _ _ _ _ _ _)
   | (with_reducible exact ih1 _ _ _ _ _ _ _ _ _ _ _)
   | (with_reducible exact ih2 _ _ _ _ _ _ _ _ _ _ _ _)
   | (with_reducible exact nat_shift.mono _ _ _)
   | (with_reducible exact nat_take_win.mono _ _ _ _ _ _)
   | (with_reducible exact nat_unshift.mono _ _ _)
   | (with_reducible exact LeO.refl _)
   | (with_reducible exact LeO.none _)
   | (with_reducible refine LeO.ite ?_ ?_)
   | (with_reducible refine LeO.bind ?_ (fun _=>?_))
   | exact ih0 _ _ _ _ _ _ _ _
   | exact ih1 _ _ _ _ _ _ _ _ _ _ _
   | exact ih2 _ _ _ _ _ _ _ _ _ _ _ _
   | exact nat_shift.mono _ _ _
   | exact nat_take_win.mono _ _ _ _ _ _
   | exact nat_unshift.mono _ _ _
   | exact LeO.none _
   | refine LeO.ite ?_ ?_
   | refine LeO.bind ?_ (fun _=>?_)
  ·intro y0 y1 y2 y3 y4 y5 y6 y7 y8 y9 y10 y11
   unfold nat_long.j2
   repeat' first
   | (with_reducible exact ih0 _ _ _ _ _ _ _ _)
   | (with_reducible exact ih1 _ _ _ _ _ _ _ _ _ _ _)
   | (with_reducible exact ih2 _ _ _ _ _ _ _ _ _ _ _ _)
   | (with_reducible exact nat_shift.mono _ _ _)
   | (with_reducible exact nat_take_win.mono _ _ _ _ _ _)
   | (with_reducible exact nat_unshift.mono _ _ _)
   | (with_reducible exact LeO.refl _)
   | (with_reducible exact LeO.none _)
   | (with_reducible refine LeO.ite ?_ ?_)
   | (with_reducible refine LeO.bind ?_ (fun _=>?_))
   | exact ih0 _ _ _ _ _ _ _ _
   | exact ih1 _ _ _ _ _ _ _ _ _ _ _
   | exact ih2 _ _ _ _ _ _ _ _ _ _ _ _
   | exact nat_shift.mono _ _ _
   | exact nat_take_win.mono _ _ _ _ _ _
   | exact nat_unshift.mono _ _ _
   | exact LeO.none _
   | refine LeO.ite ?_ ?_
   | refine LeO.bind ?_ (fun _=>?_)
theorem nat_long.mono:∀ a0 a1 k,LeO (nat_long.f k a0 a1) (nat_long.f (k+1) a0 a1):=by
 intro a0 a1 k
 obtain ⟨ih0,ih1,ih2⟩:=nat_long.mono_l k
 unfold nat_long.f
 repeat' first
   | (with_reducible exact ih0 _ _ _ _ _ _ _ _)
   | (with_reducible exact ih1 _ _ _ _ _ _ _ _ _ _ _)
   | (with_reducible exact ih2 _ _ _ _ _ _ _ _ _ _ _ _)
   | (with_reducible exact nat_shift.mono _ _ _)
   | (with_reducible exact nat_take_win.mono _ _ _ _ _ _)
   | (with_reducible exact nat_unshift.mono _ _ _)
   | (with_reducible exact LeO.refl _)
   | (with_reducible exact LeO.none _)
   | (with_reducible refine LeO.ite ?_ ?_)
   | (with_reducible refine LeO.bind ?_ (fun _=>?_))
   | exact ih0 _ _ _ _ _ _ _ _
   | exact ih1 _ _ _ _ _ _ _ _ _ _ _
   | exact ih2 _ _ _ _ _ _ _ _ _ _ _ _
   | exact nat_shift.mono _ _ _
   | exact nat_take_win.mono _ _ _ _ _ _
   | exact nat_unshift.mono _ _ _
   | exact LeO.none _
   | refine LeO.ite ?_ ?_
   | refine LeO.bind ?_ (fun _=>?_)
set_option maxHeartbeats 8000000 in
set_option maxRecDepth 100000 in
theorem nat_long.calls (k:Nat) (A0:Option Addr) (c0:Nat) (l0:List Int) (A1:Option Addr) (c1:Nat) (l1:List Int) (r1:List Int) (r2:List Int) (w:World) (hr0:Kd.C (Kd.int .u32) w A0 l0.length l0) (hc0:l0.length≤c0) (hr1:Kd.C (Kd.int .u32) w A1 l1.length l1) (hc1:l1.length≤c1) (h:nat_long.f k l0 l1=some (r1,r2)) :
  Calls Tryz.prog 189 #[.slice A0 l0.length c0,.slice A1 l1.length c1] w fun e w'=>∃ v0_ v1_:Value,e=.returned (.tuple #[v0_,v1_])∧Kd.R (Kd.int .u32) 178 w' w.heap.size (fun k_=>some k_≠(v1_:Value).ownBlock) v0_ r1∧Kd.R (Kd.int .u32) 178 w' w.heap.size (fun k_=>some k_≠(v0_:Value).ownBlock) v1_ r2∧Below w.heap.size w w':=by
 have HR0:=Q.a hr0
 have HC0:=Q.a hc0
 clear hr0 hc0
 have HR1:=Q.a hr1
 have HC1:=Q.a hc1
 clear hr1 hc1
 have HB:=Q.a (Below.refl w.heap.size w)
 have H:(if 0≤(wrap64 ((l1.length:Int) - 1)) then (if (wrap64 ((l1.length:Int) - 1)) < (l1.length:Int) then ((X.bits_LeadingZeros32.f (rd l1 (wrap64 ((l1.length:Int) - 1)))).bind fun t196=>((nat_shift.f k l1 t196).bind fun t197=>(if 0≤(l1.length:Int) then (if (l1.length:Int)≤(t197.length:Int) then ((some (t197.take ((l1.length:Int):Int).toNat:List Int)).bind fun y200=>((nat_shift.f k l0 t196).bind fun t203=>(if 0≤(wrap64 ((y200.length:Int) - 1)) then (if (wrap64 ((y200.length:Int) - 1)) < (y200.length:Int) then (if 0≤(mx (wrap64 ((t203.length:Int) - (y200.length:Int))) 0) then (if (mx (wrap64 ((t203.length:Int) - (y200.length:Int))) 0:Int).toNat≤70368744177664 then ((some (List.replicate (mx (wrap64 ((t203.length:Int) - (y200.length:Int))) 0:Int).toNat 0:List Int)).bind fun y207=>(nat_long.l0 k t203 y200 t196 (y200.length:Int) (rd y200 (wrap64 ((y200.length:Int) - 1))) y207 (y207.length:Int) 0)) else (none)) else (none)) else (none)) else (none)))) else (none)) else (none)))) else (none)) else (none))=some (r1,r2):=h
 clear h
 obtain ⟨ji3,hji3⟩:∃ j_:Int,(wrap64 ((l1.length:Int) - 1))=j_:=⟨_,rfl⟩
 replace H:(if 0≤(ji3) then (if (ji3) < (l1.length:Int) then ((X.bits_LeadingZeros32.f (rd l1 (ji3))).bind fun t196=>((nat_shift.f k l1 t196).bind fun t197=>(if 0≤(l1.length:Int) then (if (l1.length:Int)≤(t197.length:Int) then ((some (t197.take ((l1.length:Int):Int).toNat:List Int)).bind fun y200=>((nat_shift.f k l0 t196).bind fun t203=>(if 0≤(wrap64 ((y200.length:Int) - 1)) then (if (wrap64 ((y200.length:Int) - 1)) < (y200.length:Int) then (if 0≤(mx (wrap64 ((t203.length:Int) - (y200.length:Int))) 0) then (if (mx (wrap64 ((t203.length:Int) - (y200.length:Int))) 0:Int).toNat≤70368744177664 then ((some (List.replicate (mx (wrap64 ((t203.length:Int) - (y200.length:Int))) 0:Int).toNat 0:List Int)).bind fun y207=>(nat_long.l0 k t203 y200 t196 (y200.length:Int) (rd y200 (wrap64 ((y200.length:Int) - 1))) y207 (y207.length:Int) 0)) else (none)) else (none)) else (none)) else (none)))) else (none)) else (none)))) else (none)) else (none))=some (r1,r2):=by first | (rw [hji3] at H;exact H) | (simp only [hji3] at H ⊢;exact H)
 have hji3w:(IntKind.i64.wrap ((l1.length:Int) - 1))=ji3:=(aAk _).trans hji3
 by_cases c4:0≤(ji3)
 ·rw [if_pos c4] at H
  have c4b0:decide (0≤(ji3))=true:=decide_eq_true c4
  clear c4
  by_cases c5:(ji3) < (l1.length:Int)
  ·rw [if_pos c5] at H
   have c5b0:decide ((ji3) < (l1.length:Int))=true:=decide_eq_true c5
   clear c5
   replace H:=Option.bind_eq_some_iff.mp H
   obtain ⟨t196,A60,H⟩:=H
   try dsimp only at H
   have A6:=Q.a A60
   clear A60
   replace H:=Option.bind_eq_some_iff.mp H
   obtain ⟨t197,A70,H⟩:=H
   try dsimp only at H
   have A7:=Q.a A70
   clear A70
   by_cases c8:0≤(l1.length:Int)
   ·rw [if_pos c8] at H
    have c8b0:=eq_true c8
    have c8b1:decide (0≤(l1.length:Int))=true:=decide_eq_true c8
    clear c8
    by_cases c9:(l1.length:Int)≤(t197.length:Int)
    ·rw [if_pos c9] at H
     have c9b0:=eq_true c9
     have c9b1:decide ((l1.length:Int)≤(t197.length:Int))=true:=decide_eq_true c9
     clear c9
     obtain ⟨y200,hy200⟩:∃ y_:List Int,y_=(t197.take ((l1.length:Int):Int).toNat):=⟨_,rfl⟩
     replace H:((nat_shift.f k l0 t196).bind fun t203=>(if 0≤(wrap64 ((y200.length:Int) - 1)) then (if (wrap64 ((y200.length:Int) - 1)) < (y200.length:Int) then (if 0≤(mx (wrap64 ((t203.length:Int) - (y200.length:Int))) 0) then (if (mx (wrap64 ((t203.length:Int) - (y200.length:Int))) 0:Int).toNat≤70368744177664 then ((some (List.replicate (mx (wrap64 ((t203.length:Int) - (y200.length:Int))) 0:Int).toNat 0:List Int)).bind fun y207=>(nat_long.l0 k t203 y200 t196 (y200.length:Int) (rd y200 (wrap64 ((y200.length:Int) - 1))) y207 (y207.length:Int) 0)) else (none)) else (none)) else (none)) else (none)))=some (r1,r2):=by first | (rw [hy200];with_reducible exact H) | (have H2_:=(Option.bind_some _ _).symm.trans H;rw [hy200];with_reducible exact H2_) | (have H2_:=(Option.bind_some _ _).symm.trans H;with_reducible exact H2_) | with_reducible exact H | (rw [hy200];exact H) | exact H
     have Ny200:=Q.a hy200
     clear hy200
     replace H:=Option.bind_eq_some_iff.mp H
     obtain ⟨t203,A100,H⟩:=H
     try dsimp only at H
     have A10:=Q.a A100
     clear A100
     obtain ⟨ji11,hji11⟩:∃ j_:Int,(wrap64 ((y200.length:Int) - 1))=j_:=⟨_,rfl⟩
     replace H:(if 0≤(ji11) then (if (ji11) < (y200.length:Int) then (if 0≤(mx (wrap64 ((t203.length:Int) - (y200.length:Int))) 0) then (if (mx (wrap64 ((t203.length:Int) - (y200.length:Int))) 0:Int).toNat≤70368744177664 then ((some (List.replicate (mx (wrap64 ((t203.length:Int) - (y200.length:Int))) 0:Int).toNat 0:List Int)).bind fun y207=>(nat_long.l0 k t203 y200 t196 (y200.length:Int) (rd y200 (ji11)) y207 (y207.length:Int) 0)) else (none)) else (none)) else (none)) else (none))=some (r1,r2):=by first | (rw [hji11] at H;exact H) | (simp only [hji11] at H ⊢;exact H)
     (try rw [hji11] at A6)
     (try rw [hji11] at A7)
     (try rw [hji11] at A10)
     have hji11w:(IntKind.i64.wrap ((y200.length:Int) - 1))=ji11:=(aAk _).trans hji11
     by_cases c12:0≤(ji11)
     ·rw [if_pos c12] at H
      have c12b0:decide (0≤(ji11))=true:=decide_eq_true c12
      clear c12
      by_cases c13:(ji11) < (y200.length:Int)
      ·rw [if_pos c13] at H
       have c13b0:decide ((ji11) < (y200.length:Int))=true:=decide_eq_true c13
       clear c13
       obtain ⟨ji14,hji14⟩:∃ j_:Int,(mx (wrap64 ((t203.length:Int) - (y200.length:Int))) 0)=j_:=⟨_,rfl⟩
       replace H:(if 0≤(ji14) then (if (ji14:Int).toNat≤70368744177664 then ((some (List.replicate (ji14:Int).toNat 0:List Int)).bind fun y207=>(nat_long.l0 k t203 y200 t196 (y200.length:Int) (rd y200 (ji11)) y207 (y207.length:Int) 0)) else (none)) else (none))=some (r1,r2):=by first | (rw [hji14] at H;exact H) | (simp only [hji14] at H ⊢;exact H)
       (try rw [hji14] at A6)
       (try rw [hji14] at A7)
       (try rw [hji14] at A10)
       (try (have hji14l:0≤ji14:=by (rw [← hji14];unfold mx;(repeat' split)<;>omega)))
       (try (have hji14m:0≤ji14:=by omega))
       have hji14_:(if (wrap64 ((t203.length:Int) - (y200.length:Int))) < 0 then 0 else (wrap64 ((t203.length:Int) - (y200.length:Int))))=ji14:=hji14
       by_cases c15:0≤(ji14)
       ·rw [if_pos c15] at H
        have c15b0:=eq_true c15
        have c15b1:decide (0≤(ji14))=true:=decide_eq_true c15
        clear c15
        by_cases c16:(ji14:Int).toNat≤70368744177664
        ·rw [if_pos c16] at H
         have c16b0:=eq_true c16
         have c16b1:decide ((ji14:Int).toNat≤70368744177664)=true:=decide_eq_true c16
         clear c16
         obtain ⟨y207,hy207⟩:∃ y_:List Int,y_=(List.replicate (ji14:Int).toNat 0):=⟨_,rfl⟩
         replace H:(nat_long.l0 k t203 y200 t196 (y200.length:Int) (rd y200 (ji11)) y207 (y207.length:Int) 0)=some (r1,r2):=by first | (rw [hy207];with_reducible exact H) | (have H2_:=(Option.bind_some _ _).symm.trans H;rw [hy207];with_reducible exact H2_) | (have H2_:=(Option.bind_some _ _).symm.trans H;with_reducible exact H2_) | with_reducible exact H | (rw [hy207];exact H) | exact H
         have Ny207:=Q.a hy207
         clear hy207
         have H':=Q.a H
         clear H
         have p195:0≤((ji3):Int):=of_decide_eq_true (by first | (with_reducible assumption) | assumption)
         have q195:(ji3) < (l1.length:Int):=of_decide_eq_true (by first | (with_reducible assumption) | assumption)
         obtain ⟨ad195,e195,hx195_0⟩:=Kd.at_int HR1.out (ji3) p195 q195
         cases e195
         replace p195:=eq_true p195
         replace q195:=eq_true q195
         go_enter Tryz.func189,Tryz.ntmps189
         go_wp2_with (first | (go_at_call 222;(with_reducible refine (X.bits_LeadingZeros32.calls (rd l1 (ji3)) t196 _ A6.out).mono ?_);rintro e w' ⟨rfl,⟨nd,rfl⟩⟩;(try exact Q.dd)) | (go_at_call 223;(with_reducible refine (nat_shift.calls k _ _ l1 t196 t197 _ ?side1 ?side2 A7.out).mono ?_);(case side1=>repeat (first | exact HR1.out | (with_reducible refine Kd.C_alloc ?_ _) | (with_reducible refine Kd.C_drewN ?_ _) | (with_reducible refine Kd.C_drew ?_)));(case side2=>exact HC1.out);rintro e w17 ⟨v198,rfl,ho0,hb⟩;replace HO199:=Q.a (Kd.R_lower ho0 (aAh (Q.bw HB)));replace HB:=Q.a (aAb (Q.bw HB) hb);(try clear hb);(try clear ho0);obtain ⟨Ao18,co18,eo18⟩:=Kd.R_slice HO199.out;subst eo18;have q19:((l1.length:Int):Int)≤((t197.length:Int):Int):=of_decide_eq_true (by first | (with_reducible assumption) | assumption);obtain ⟨i019,hi019,_,hsz19,_⟩:=info_parts aAQ;have hcut19:=aFi (P:=Tryz.prog) 176 178 .i64 Tryz.underlying176 hi019 Ao18 t197.length co18 (l1.length:Int) Q.od q19 (Kd.R_reads' HO199.out).2.1;have hr19:=Kd.R_take (m:=((l1.length:Int):Int).toNat) HO199.out (by omega);have hy19:y200.length=((l1.length:Int):Int).toNat:=(by rw [Ny200.out,List.length_take];omega);rw [← Ny200.out] at hr19;rw [← hy19] at hr19 hcut19;clear hy19 hi019 hsz19 HO199;have HO202:=Q.a hr19;clear hr19;replace q19:=eq_true q19) | (go_at_call 223;(with_reducible refine (nat_shift.calls k _ _ l0 t196 t203 _ ?side1 ?side2 A10.out).mono ?_);(case side1=>repeat (first | exact (Kd.C_below HR0.out HB.out) | (with_reducible refine Kd.C_alloc ?_ _) | (with_reducible refine Kd.C_drewN ?_ _) | (with_reducible refine Kd.C_drew ?_)));(case side2=>exact HC0.out);rintro e w20 ⟨v204,rfl,ho0,hb⟩;replace HO205:=Q.a (Kd.R_lower (Kd.R_new' ho0 (Kd.R_lt (Q.kr HO202))) (aAh (Q.bw HB)));replace HO202:=Q.a (Kd.R_elder' (Q.kr HO202) (Kd.R_base ho0) hb);replace HB:=Q.a (aAb (Q.bw HB) hb);(try clear hb);(try clear ho0);have p206:0≤((ji11):Int):=of_decide_eq_true (by first | (with_reducible assumption) | assumption);have q206:(ji11) < (y200.length:Int):=of_decide_eq_true (by first | (with_reducible assumption) | assumption);obtain ⟨ad206,e206,hx206_0⟩:=Kd.at_int (Kd.R_reads' HO202.out).2.2 (ji11) p206 q206;cases e206;replace p206:=eq_true p206;replace q206:=eq_true q206;obtain ⟨Ao21,co21,eo21⟩:=Kd.R_slice HO205.out;subst eo21) | ((with_reducible refine aB5 (N:=43) rfl ?_);refine Kd.R_make (Kd.int .u32) _ 178 rfl (N:=43) rfl 176 _ _ rfl ji14 rfl rfl Tryz.underlying176 (.int .u32 0) 4 aAQ rfl (by decide) (by omega) 0 (ok:=fun _=>True) (okp:=fun _=>True) rfl (fun _ hk=>hk) trivial Q.od (Nat.le_trans (Nat.mul_le_mul_right _ (of_decide_eq_true (by first | (with_reducible assumption) | assumption):ji14.toNat≤70368744177664)) (by omega)) (Below.refl _ _) (Nat.le_refl _) ?_;intro v208 w22 ho23 hb hg_ hnew_;clear hg_ hnew_;(first | rw [← Ny207.out] at ho23 | (simp only [Int.reduceToNat] at ho23;rw [← Ny207.out] at ho23));replace HO209:=Q.a (Kd.R_lower (Kd.R_new' (Kd.R_new' ho23 (Kd.R_lt (Q.kr HO202))) (Kd.R_lt (Q.kr HO205))) (aAh (Q.bw HB)));replace HO202:=Q.a (Kd.R_elder' (Q.kr HO202) (Kd.R_base ho23) hb);replace HO205:=Q.a (Kd.R_elder' (Q.kr HO205) (Kd.R_base ho23) hb);replace HB:=Q.a (aAb (Q.bw HB) hb);clear hb ho23;obtain ⟨Ao24,co24,eo24⟩:=Kd.R_slice HO209.out;subst eo24))
         repeat (go_quiet (first | (go_at_call 222;(with_reducible refine (X.bits_LeadingZeros32.calls (rd l1 (ji3)) t196 _ A6.out).mono ?_);rintro e w' ⟨rfl,⟨nd,rfl⟩⟩;(try exact Q.dd)) | (go_at_call 223;(with_reducible refine (nat_shift.calls k _ _ l1 t196 t197 _ ?side1 ?side2 A7.out).mono ?_);(case side1=>repeat (first | exact HR1.out | (with_reducible refine Kd.C_alloc ?_ _) | (with_reducible refine Kd.C_drewN ?_ _) | (with_reducible refine Kd.C_drew ?_)));(case side2=>exact HC1.out);rintro e w17 ⟨v198,rfl,ho0,hb⟩;replace HO199:=Q.a (Kd.R_lower ho0 (aAh (Q.bw HB)));replace HB:=Q.a (aAb (Q.bw HB) hb);(try clear hb);(try clear ho0);obtain ⟨Ao18,co18,eo18⟩:=Kd.R_slice HO199.out;subst eo18;have q19:((l1.length:Int):Int)≤((t197.length:Int):Int):=of_decide_eq_true (by first | (with_reducible assumption) | assumption);obtain ⟨i019,hi019,_,hsz19,_⟩:=info_parts aAQ;have hcut19:=aFi (P:=Tryz.prog) 176 178 .i64 Tryz.underlying176 hi019 Ao18 t197.length co18 (l1.length:Int) Q.od q19 (Kd.R_reads' HO199.out).2.1;have hr19:=Kd.R_take (m:=((l1.length:Int):Int).toNat) HO199.out (by omega);have hy19:y200.length=((l1.length:Int):Int).toNat:=(by rw [Ny200.out,List.length_take];omega);rw [← Ny200.out] at hr19;rw [← hy19] at hr19 hcut19;clear hy19 hi019 hsz19 HO199;have HO202:=Q.a hr19;clear hr19;replace q19:=eq_true q19) | (go_at_call 223;(with_reducible refine (nat_shift.calls k _ _ l0 t196 t203 _ ?side1 ?side2 A10.out).mono ?_);(case side1=>repeat (first | exact (Kd.C_below HR0.out HB.out) | (with_reducible refine Kd.C_alloc ?_ _) | (with_reducible refine Kd.C_drewN ?_ _) | (with_reducible refine Kd.C_drew ?_)));(case side2=>exact HC0.out);rintro e w20 ⟨v204,rfl,ho0,hb⟩;replace HO205:=Q.a (Kd.R_lower (Kd.R_new' ho0 (Kd.R_lt (Q.kr HO202))) (aAh (Q.bw HB)));replace HO202:=Q.a (Kd.R_elder' (Q.kr HO202) (Kd.R_base ho0) hb);replace HB:=Q.a (aAb (Q.bw HB) hb);(try clear hb);(try clear ho0);have p206:0≤((ji11):Int):=of_decide_eq_true (by first | (with_reducible assumption) | assumption);have q206:(ji11) < (y200.length:Int):=of_decide_eq_true (by first | (with_reducible assumption) | assumption);obtain ⟨ad206,e206,hx206_0⟩:=Kd.at_int (Kd.R_reads' HO202.out).2.2 (ji11) p206 q206;cases e206;replace p206:=eq_true p206;replace q206:=eq_true q206;obtain ⟨Ao21,co21,eo21⟩:=Kd.R_slice HO205.out;subst eo21) | ((with_reducible refine aB5 (N:=43) rfl ?_);refine Kd.R_make (Kd.int .u32) _ 178 rfl (N:=43) rfl 176 _ _ rfl ji14 rfl rfl Tryz.underlying176 (.int .u32 0) 4 aAQ rfl (by decide) (by omega) 0 (ok:=fun _=>True) (okp:=fun _=>True) rfl (fun _ hk=>hk) trivial Q.od (Nat.le_trans (Nat.mul_le_mul_right _ (of_decide_eq_true (by first | (with_reducible assumption) | assumption):ji14.toNat≤70368744177664)) (by omega)) (Below.refl _ _) (Nat.le_refl _) ?_;intro v208 w22 ho23 hb hg_ hnew_;clear hg_ hnew_;(first | rw [← Ny207.out] at ho23 | (simp only [Int.reduceToNat] at ho23;rw [← Ny207.out] at ho23));replace HO209:=Q.a (Kd.R_lower (Kd.R_new' (Kd.R_new' ho23 (Kd.R_lt (Q.kr HO202))) (Kd.R_lt (Q.kr HO205))) (aAh (Q.bw HB)));replace HO202:=Q.a (Kd.R_elder' (Q.kr HO202) (Kd.R_base ho23) hb);replace HO205:=Q.a (Kd.R_elder' (Q.kr HO205) (Kd.R_base ho23) hb);replace HB:=Q.a (aAb (Q.bw HB) hb);clear hb ho23;obtain ⟨Ao24,co24,eo24⟩:=Kd.R_slice HO209.out;subst eo24));try go_wp2_with (first | (go_at_call 222;(with_reducible refine (X.bits_LeadingZeros32.calls (rd l1 (ji3)) t196 _ A6.out).mono ?_);rintro e w' ⟨rfl,⟨nd,rfl⟩⟩;(try exact Q.dd)) | (go_at_call 223;(with_reducible refine (nat_shift.calls k _ _ l1 t196 t197 _ ?side1 ?side2 A7.out).mono ?_);(case side1=>repeat (first | exact HR1.out | (with_reducible refine Kd.C_alloc ?_ _) | (with_reducible refine Kd.C_drewN ?_ _) | (with_reducible refine Kd.C_drew ?_)));(case side2=>exact HC1.out);rintro e w17 ⟨v198,rfl,ho0,hb⟩;replace HO199:=Q.a (Kd.R_lower ho0 (aAh (Q.bw HB)));replace HB:=Q.a (aAb (Q.bw HB) hb);(try clear hb);(try clear ho0);obtain ⟨Ao18,co18,eo18⟩:=Kd.R_slice HO199.out;subst eo18;have q19:((l1.length:Int):Int)≤((t197.length:Int):Int):=of_decide_eq_true (by first | (with_reducible assumption) | assumption);obtain ⟨i019,hi019,_,hsz19,_⟩:=info_parts aAQ;have hcut19:=aFi (P:=Tryz.prog) 176 178 .i64 Tryz.underlying176 hi019 Ao18 t197.length co18 (l1.length:Int) Q.od q19 (Kd.R_reads' HO199.out).2.1;have hr19:=Kd.R_take (m:=((l1.length:Int):Int).toNat) HO199.out (by omega);have hy19:y200.length=((l1.length:Int):Int).toNat:=(by rw [Ny200.out,List.length_take];omega);rw [← Ny200.out] at hr19;rw [← hy19] at hr19 hcut19;clear hy19 hi019 hsz19 HO199;have HO202:=Q.a hr19;clear hr19;replace q19:=eq_true q19) | (go_at_call 223;(with_reducible refine (nat_shift.calls k _ _ l0 t196 t203 _ ?side1 ?side2 A10.out).mono ?_);(case side1=>repeat (first | exact (Kd.C_below HR0.out HB.out) | (with_reducible refine Kd.C_alloc ?_ _) | (with_reducible refine Kd.C_drewN ?_ _) | (with_reducible refine Kd.C_drew ?_)));(case side2=>exact HC0.out);rintro e w20 ⟨v204,rfl,ho0,hb⟩;replace HO205:=Q.a (Kd.R_lower (Kd.R_new' ho0 (Kd.R_lt (Q.kr HO202))) (aAh (Q.bw HB)));replace HO202:=Q.a (Kd.R_elder' (Q.kr HO202) (Kd.R_base ho0) hb);replace HB:=Q.a (aAb (Q.bw HB) hb);(try clear hb);(try clear ho0);have p206:0≤((ji11):Int):=of_decide_eq_true (by first | (with_reducible assumption) | assumption);have q206:(ji11) < (y200.length:Int):=of_decide_eq_true (by first | (with_reducible assumption) | assumption);obtain ⟨ad206,e206,hx206_0⟩:=Kd.at_int (Kd.R_reads' HO202.out).2.2 (ji11) p206 q206;cases e206;replace p206:=eq_true p206;replace q206:=eq_true q206;obtain ⟨Ao21,co21,eo21⟩:=Kd.R_slice HO205.out;subst eo21) | ((with_reducible refine aB5 (N:=43) rfl ?_);refine Kd.R_make (Kd.int .u32) _ 178 rfl (N:=43) rfl 176 _ _ rfl ji14 rfl rfl Tryz.underlying176 (.int .u32 0) 4 aAQ rfl (by decide) (by omega) 0 (ok:=fun _=>True) (okp:=fun _=>True) rfl (fun _ hk=>hk) trivial Q.od (Nat.le_trans (Nat.mul_le_mul_right _ (of_decide_eq_true (by first | (with_reducible assumption) | assumption):ji14.toNat≤70368744177664)) (by omega)) (Below.refl _ _) (Nat.le_refl _) ?_;intro v208 w22 ho23 hb hg_ hnew_;clear hg_ hnew_;(first | rw [← Ny207.out] at ho23 | (simp only [Int.reduceToNat] at ho23;rw [← Ny207.out] at ho23));replace HO209:=Q.a (Kd.R_lower (Kd.R_new' (Kd.R_new' ho23 (Kd.R_lt (Q.kr HO202))) (Kd.R_lt (Q.kr HO205))) (aAh (Q.bw HB)));replace HO202:=Q.a (Kd.R_elder' (Q.kr HO202) (Kd.R_base ho23) hb);replace HO205:=Q.a (Kd.R_elder' (Q.kr HO205) (Kd.R_base ho23) hb);replace HB:=Q.a (aAb (Q.bw HB) hb);clear hb ho23;obtain ⟨Ao24,co24,eo24⟩:=Kd.R_slice HO209.out;subst eo24)))
         go_loopg [46] k (fun kq v46 w'=>∃ (x0_1:List Int) (x9_1:List Int) (x46_1:Int),v46=.int .i64 x46_1∧Aside0 (nat_long.l0 kq x0_1 y200 t196 (y200.length:Int) (rd y200 (ji11)) x9_1 (y207.length:Int) x46_1=some (r1,r2))∧Aside0 (kq≤k)∧Aside0 (Kd.R (Kd.int .u32) 178 w' w.heap.size (fun k_=>some k_≠((.slice (some ad206) y200.length co18):Value).ownBlock∧some k_≠((.slice Ao24 y207.length co24):Value).ownBlock) (.slice Ao21 t203.length co21) x0_1)∧Aside0 (Kd.R (Kd.int .u32) 178 w' w.heap.size (fun k_=>some k_≠((.slice Ao21 t203.length co21):Value).ownBlock∧some k_≠((.slice Ao24 y207.length co24):Value).ownBlock) (.slice (some ad206) y200.length co18) y200)∧Aside0 (Kd.R (Kd.int .u32) 178 w' w.heap.size (fun k_=>some k_≠((.slice Ao21 t203.length co21):Value).ownBlock∧some k_≠((.slice (some ad206) y200.length co18):Value).ownBlock) (.slice Ao24 y207.length co24) x9_1)∧Aside0 (Below w.heap.size w w'))
         case atStart=>exact ⟨(t203),(y207),(0),Q.rs,H',⟨Nat.le_refl _⟩,⟨by (with_reducible repeat (first | apply Kd.R_alloc | apply Kd.R_drewN | apply Kd.R_drew));exact Kd.R_mono HO205.out (fun _ hk=>⟨hk.1.2,hk.2⟩)⟩,⟨by (with_reducible repeat (first | apply Kd.R_alloc | apply Kd.R_drewN | apply Kd.R_drew));exact Kd.R_mono HO202.out (fun _ hk=>⟨hk.1.2,hk.2⟩)⟩,⟨by (with_reducible repeat (first | apply Kd.R_alloc | apply Kd.R_drewN | apply Kd.R_drew));exact Kd.R_mono HO209.out (fun _ hk=>⟨hk.2,hk.1.2⟩)⟩,⟨Q.bw HB⟩⟩
         case round =>
          clear H'
          try clear c1
          try clear p1
          try clear q1
          try clear hx1
          try clear p2
          try clear q2
          try clear hx2
          try clear c4
          try clear c4b0
          try clear c5
          try clear c5b0
          try clear p6
          try clear c8
          try clear c8b0
          try clear c8b1
          try clear c9
          try clear c9b0
          try clear c9b1
          try clear c12
          try clear c12b0
          try clear c13
          try clear c13b0
          try clear c15
          try clear c15b0
          try clear c15b1
          try clear c16
          try clear c16b0
          try clear c16b1
          try clear c18
          try clear p19
          try clear q19
          try clear hx19
          try clear p20
          try clear q20
          try clear hx20
          try clear hx195_0
          try clear hx206_0
          try clear p195
          try clear p206
          try clear q19
          try clear q195
          try clear q206
          obtain ⟨x0_1,x9_1,x46_1,rfl,HA,HK1,HO_0,HO_1,HO_9,HB⟩:=hrel
          have hl0_1:=(Kd.R_reads' HO_0.out).1
          rw [hl0_1] at HO_0
          (try simp only [hl0_1])
          (try simp only [hl0_1] at HO_1)
          (try simp only [hl0_1] at HO_9)
          have hl9_1:=(Kd.R_reads' HO_9.out).1
          rw [hl9_1] at HO_9
          (try simp only [hl9_1])
          (try simp only [hl9_1] at HO_0)
          (try simp only [hl9_1] at HO_1)
          cases gk with
          | zero=>exact absurd HA.out (by simp [nat_long.l0])
          | succ k1 =>
           have H:=HA.out
           clear HA
           simp only [nat_long.l0] at H
           by_cases c25:x46_1 < (y207.length:Int)
           ·rw [if_pos c25] at H
            have c25b0:decide (x46_1 < (y207.length:Int))=true:=decide_eq_true c25
            (try (have c25b0l:=c25b0;simp only [hl0_1,hl9_1] at c25b0l))
            clear c25
            obtain ⟨ji26,hji26⟩:∃ j_:Int,(wrap64 ((wrap64 ((wrap64 ((x9_1.length:Int) - 1)) - x46_1))+(y200.length:Int)))=j_:=⟨_,rfl⟩
            replace H:(if 0≤(ji26) then (if (ji26) < (x0_1.length:Int) then (if 0≤(wrap64 ((ji26) - 1)) then (if (wrap64 ((ji26) - 1)) < (x0_1.length:Int) then (if (IntKind.u64.wrap ((rd y200 (ji11))))=0 then (none) else (nat_long.l1 k1 x0_1 y200 t196 (y200.length:Int) (rd y200 (ji11)) x9_1 (wrap64 ((wrap64 ((x9_1.length:Int) - 1)) - x46_1)) (IntKind.u64.wrap (Int.tdiv (Go.bits .or .u64 (IntKind.u64.wrap ((IntKind.u64.wrap (rd x0_1 (ji26)))*4294967296)) (IntKind.u64.wrap (rd x0_1 (wrap64 ((ji26) - 1))))) (IntKind.u64.wrap ((rd y200 (ji11)))))) (Int.tmod (Go.bits .or .u64 (IntKind.u64.wrap ((IntKind.u64.wrap (rd x0_1 (ji26)))*4294967296)) (IntKind.u64.wrap (rd x0_1 (wrap64 ((ji26) - 1))))) (IntKind.u64.wrap ((rd y200 (ji11))))) (y207.length:Int) x46_1)) else (none)) else (none)) else (none)) else (none))=some (r1,r2):=by first | (rw [hji26] at H;exact H) | (simp only [hji26] at H ⊢;exact H)
            have hji26w:(IntKind.i64.wrap ((wrap64 ((wrap64 ((x9_1.length:Int) - 1)) - x46_1))+(y200.length:Int)))=ji26:=(aAk _).trans hji26
            (try (have hji26l:=hji26;simp only [hl0_1,hl9_1] at hji26l))
            (try (have hji26wl:=hji26w;simp only [hl0_1,hl9_1] at hji26wl))
            by_cases c27:0≤(ji26)
            ·rw [if_pos c27] at H
             have c27b0:decide (0≤(ji26))=true:=decide_eq_true c27
             clear c27
             by_cases c28:(ji26) < (x0_1.length:Int)
             ·rw [if_pos c28] at H
              have c28b0:decide ((ji26) < (x0_1.length:Int))=true:=decide_eq_true c28
              (try (have c28b0l:=c28b0;simp only [hl0_1,hl9_1] at c28b0l))
              clear c28
              obtain ⟨ji29,hji29⟩:∃ j_:Int,(wrap64 ((ji26) - 1))=j_:=⟨_,rfl⟩
              replace H:(if 0≤(ji29) then (if (ji29) < (x0_1.length:Int) then (if (IntKind.u64.wrap ((rd y200 (ji11))))=0 then (none) else (nat_long.l1 k1 x0_1 y200 t196 (y200.length:Int) (rd y200 (ji11)) x9_1 (wrap64 ((wrap64 ((x9_1.length:Int) - 1)) - x46_1)) (IntKind.u64.wrap (Int.tdiv (Go.bits .or .u64 (IntKind.u64.wrap ((IntKind.u64.wrap (rd x0_1 (ji26)))*4294967296)) (IntKind.u64.wrap (rd x0_1 (ji29)))) (IntKind.u64.wrap ((rd y200 (ji11)))))) (Int.tmod (Go.bits .or .u64 (IntKind.u64.wrap ((IntKind.u64.wrap (rd x0_1 (ji26)))*4294967296)) (IntKind.u64.wrap (rd x0_1 (ji29)))) (IntKind.u64.wrap ((rd y200 (ji11))))) (y207.length:Int) x46_1)) else (none)) else (none))=some (r1,r2):=by first | (rw [hji29] at H;exact H) | (simp only [hji29] at H ⊢;exact H)
              have hji29w:(IntKind.i64.wrap ((ji26) - 1))=ji29:=(aAk _).trans hji29
              by_cases c30:0≤(ji29)
              ·rw [if_pos c30] at H
               have c30b0:decide (0≤(ji29))=true:=decide_eq_true c30
               clear c30
               by_cases c31:(ji29) < (x0_1.length:Int)
               ·rw [if_pos c31] at H
                have c31b0:decide ((ji29) < (x0_1.length:Int))=true:=decide_eq_true c31
                (try (have c31b0l:=c31b0;simp only [hl0_1,hl9_1] at c31b0l))
                clear c31
                by_cases c32:(IntKind.u64.wrap ((rd y200 (ji11))))=0
                ·rw [if_pos c32] at H
                 exact absurd H (by simp)
                ·rw [if_neg c32] at H
                 have c32b0:((IntKind.u64.wrap ((rd y200 (ji11)))) == 0)=false:=beq_eq_false_iff_ne.mpr c32
                 have c32b1:((IntKind.u64.wrap ((rd y200 (ji11)))) != 0)=true:=bne_iff_ne.mpr c32
                 have H':=Q.a H
                 clear H
                 have p216:0≤((ji26):Int):=of_decide_eq_true (by first | (with_reducible assumption) | assumption)
                 have q216:(ji26) < (x0_1.length:Int):=of_decide_eq_true (by first | (with_reducible assumption) | assumption)
                 obtain ⟨ad216,e216,hx216_0⟩:=Kd.at_int (Kd.R_reads' HO_0.out).2.2 (ji26) p216 q216
                 cases e216
                 replace p216:=eq_true p216
                 replace q216:=eq_true q216
                 have p217:0≤((ji29):Int):=of_decide_eq_true (by first | (with_reducible assumption) | assumption)
                 have q217:(ji29) < (x0_1.length:Int):=of_decide_eq_true (by first | (with_reducible assumption) | assumption)
                 obtain ⟨ad217,e217,hx217_0⟩:=Kd.at_int (Kd.R_reads' HO_0.out).2.2 (ji29) p217 q217
                 obtain rfl:ad216=ad217:=(by injection e217)
                 replace p217:=eq_true p217
                 replace q217:=eq_true q217
                 go_wp2
                 repeat (go_quiet (fail);try go_wp2)
                 go_loopg [13,14] k1 (fun kq v13 v14 w'=>∃ (x13_2:Int) (x14_2:Int),v13=.int .u64 x13_2∧v14=.int .u64 x14_2∧Aside0 (nat_long.l1 kq x0_1 y200 t196 (y200.length:Int) (rd y200 (ji11)) x9_1 (wrap64 ((wrap64 ((x9_1.length:Int) - 1)) - x46_1)) x13_2 x14_2 (y207.length:Int) x46_1=some (r1,r2))∧Aside0 (kq≤k1)∧Aside0 (Kd.R (Kd.int .u32) 178 w' w.heap.size (fun k_=>some k_≠((.slice (some ad206) y200.length co18):Value).ownBlock∧some k_≠((.slice Ao24 x9_1.length co24):Value).ownBlock) (.slice (some ad216) x0_1.length co21) x0_1)∧Aside0 (Kd.R (Kd.int .u32) 178 w' w.heap.size (fun k_=>some k_≠((.slice (some ad216) x0_1.length co21):Value).ownBlock∧some k_≠((.slice Ao24 x9_1.length co24):Value).ownBlock) (.slice (some ad206) y200.length co18) y200)∧Aside0 (Kd.R (Kd.int .u32) 178 w' w.heap.size (fun k_=>some k_≠((.slice (some ad216) x0_1.length co21):Value).ownBlock∧some k_≠((.slice (some ad206) y200.length co18):Value).ownBlock) (.slice Ao24 x9_1.length co24) x9_1)∧Aside0 (Below w.heap.size w w'))
                 case atStart=>exact ⟨(IntKind.u64.wrap (Int.tdiv (Go.bits .or .u64 (IntKind.u64.wrap ((IntKind.u64.wrap (rd x0_1 (ji26)))*4294967296)) (IntKind.u64.wrap (rd x0_1 (ji29)))) (IntKind.u64.wrap ((rd y200 (ji11)))))),(Int.tmod (Go.bits .or .u64 (IntKind.u64.wrap ((IntKind.u64.wrap (rd x0_1 (ji26)))*4294967296)) (IntKind.u64.wrap (rd x0_1 (ji29)))) (IntKind.u64.wrap ((rd y200 (ji11))))),(by first | rfl | (simp;done) | (simp only [← hji11,← hji26,← hji29]<;>(first | rfl | simp)) | (simp [*];done)),(by first | rfl | (simp;done) | (simp only [← hji11,← hji26,← hji29]<;>(first | rfl | simp)) | (simp [*];done)),H',⟨Nat.le_refl _⟩,⟨by (try simp only [hl0_1]);(try simp only [hl9_1]);(with_reducible repeat (first | apply Kd.R_alloc | apply Kd.R_drewN | apply Kd.R_drew));exact HO_0.out⟩,⟨by (try simp only [hl0_1]);(try simp only [hl9_1]);(with_reducible repeat (first | apply Kd.R_alloc | apply Kd.R_drewN | apply Kd.R_drew));exact HO_1.out⟩,⟨by (try simp only [hl0_1]);(try simp only [hl9_1]);(with_reducible repeat (first | apply Kd.R_alloc | apply Kd.R_drewN | apply Kd.R_drew));exact HO_9.out⟩,⟨Q.bw HB⟩⟩
                 case round =>
                  clear H'
                  try clear c1
                  try clear p1
                  try clear q1
                  try clear hx1
                  try clear c2
                  try clear p2
                  try clear q2
                  try clear hx2
                  try clear c3
                  try clear c4
                  try clear c4b0
                  try clear c5
                  try clear c5b0
                  try clear p6
                  try clear c8
                  try clear c8b0
                  try clear c8b1
                  try clear c9
                  try clear c9b0
                  try clear c9b1
                  try clear c12
                  try clear c12b0
                  try clear c13
                  try clear c13b0
                  try clear c15
                  try clear c15b0
                  try clear c15b1
                  try clear c16
                  try clear c16b0
                  try clear c16b1
                  try clear c18
                  try clear p19
                  try clear q19
                  try clear hx19
                  try clear p20
                  try clear q20
                  try clear hx20
                  try clear p21
                  try clear q21
                  try clear hx21
                  try clear c25
                  try clear c25b0
                  try clear c27
                  try clear c27b0
                  try clear c28
                  try clear c28b0
                  try clear c30
                  try clear c30b0
                  try clear c31
                  try clear c31b0
                  try clear c32
                  try clear c32b0
                  try clear c32b1
                  try clear hx195_0
                  try clear hx206_0
                  try clear hx216_0
                  try clear hx217_0
                  try clear p1
                  try clear p19
                  try clear p195
                  try clear p2
                  try clear p20
                  try clear p206
                  try clear p216
                  try clear p217
                  try clear p6
                  try clear q1
                  try clear q19
                  try clear q195
                  try clear q2
                  try clear q20
                  try clear q206
                  try clear q216
                  try clear q217
                  obtain ⟨x13_2,x14_2,rfl,rfl,HA,HK2,HO_0,HO_1,HO_9,HB⟩:=hrel
                  cases gk with
                  | zero=>exact absurd HA.out (by simp [nat_long.l1])
                  | succ k2 =>
                   have H:=HA.out
                   clear HA
                   simp only [nat_long.l1] at H
                   have HC33:=Q.a H
                   clear H
                   go_upto_region 13 with (fail)
                   repeat (go_quiet (fail);go_upto_region 13 with (fail))
                   go_cut [102] (fun v102 wc=>∃ (kq:Nat) (x102_32:Bool),v102=.bool x102_32∧Aside0 (nat_long.j2 kq x0_1 y200 t196 (y200.length:Int) (rd y200 (ji11)) x9_1 (wrap64 ((wrap64 ((x9_1.length:Int) - 1)) - x46_1)) x13_2 x14_2 (y207.length:Int) x46_1 x102_32=some (r1,r2))∧Aside0 (kq≤k2)∧Aside0 (Kd.R (Kd.int .u32) 178 wc w.heap.size (fun k_=>some k_≠((.slice (some ad206) y200.length co18):Value).ownBlock∧some k_≠((.slice Ao24 x9_1.length co24):Value).ownBlock) (.slice (some ad216) x0_1.length co21) x0_1)∧Aside0 (Kd.R (Kd.int .u32) 178 wc w.heap.size (fun k_=>some k_≠((.slice (some ad216) x0_1.length co21):Value).ownBlock∧some k_≠((.slice Ao24 x9_1.length co24):Value).ownBlock) (.slice (some ad206) y200.length co18) y200)∧Aside0 (Kd.R (Kd.int .u32) 178 wc w.heap.size (fun k_=>some k_≠((.slice (some ad216) x0_1.length co21):Value).ownBlock∧some k_≠((.slice (some ad206) y200.length co18):Value).ownBlock) (.slice Ao24 x9_1.length co24) x9_1)∧Aside0 (Below w.heap.size w wc))
                   case first =>
                    have H:=HC33.out
                    clear HC33
                    by_cases c34:x13_2 > 4294967295
                    ·rw [if_pos c34] at H
                     have c34b0:decide (4294967295 < x13_2)=true:=decide_eq_true c34
                     clear c34
                     (first | rw [c34b0] | (simp only [aAk,aA0];rw [c34b0]) | skip)
                     have H':=Q.a H
                     clear H
                     go_wp2
                     repeat (go_quiet (fail);try go_wp2)
                     go_meet
                     case rel=>exact ⟨_,(true),Q.rs,H',⟨by have:=HK1.out;have:=HK2.out;first | omega | exact Nat.le_refl _⟩,⟨by (try simp only [hl0_1]);(try simp only [hl9_1]);(with_reducible repeat (first | apply Kd.R_alloc | apply Kd.R_drewN | apply Kd.R_drew));exact HO_0.out⟩,⟨by (try simp only [hl0_1]);(try simp only [hl9_1]);(with_reducible repeat (first | apply Kd.R_alloc | apply Kd.R_drewN | apply Kd.R_drew));exact HO_1.out⟩,⟨by (try simp only [hl0_1]);(try simp only [hl9_1]);(with_reducible repeat (first | apply Kd.R_alloc | apply Kd.R_drewN | apply Kd.R_drew));exact HO_9.out⟩,⟨Q.bw HB⟩⟩
                    ·rw [if_neg c34] at H
                     have c34b0:decide (4294967295 < x13_2)=false:=decide_eq_false c34
                     clear c34
                     (first | rw [c34b0] | (simp only [aAk,aA0];rw [c34b0]) | skip)
                     obtain ⟨ji35,hji35⟩:∃ j_:Int,(wrap64 ((y200.length:Int) - 2))=j_:=⟨_,rfl⟩
                     replace H:(if 0≤(ji35) then (if (ji35) < (y200.length:Int) then (if 0≤(wrap64 ((wrap64 ((wrap64 ((wrap64 ((x9_1.length:Int) - 1)) - x46_1))+(y200.length:Int))) - 2)) then (if (wrap64 ((wrap64 ((wrap64 ((wrap64 ((x9_1.length:Int) - 1)) - x46_1))+(y200.length:Int))) - 2)) < (x0_1.length:Int) then (nat_long.j2 k2 x0_1 y200 t196 (y200.length:Int) (rd y200 (ji11)) x9_1 (wrap64 ((wrap64 ((x9_1.length:Int) - 1)) - x46_1)) x13_2 x14_2 (y207.length:Int) x46_1 (decide ((IntKind.u64.wrap (x13_2*(IntKind.u64.wrap (rd y200 (ji35))))) > (Go.bits .or .u64 (IntKind.u64.wrap (x14_2*4294967296)) (IntKind.u64.wrap (rd x0_1 (wrap64 ((wrap64 ((wrap64 ((wrap64 ((x9_1.length:Int) - 1)) - x46_1))+(y200.length:Int))) - 2)))))))) else (none)) else (none)) else (none)) else (none))=some (r1,r2):=by first | (rw [hji35] at H;exact H) | (simp only [hji35] at H ⊢;exact H)
                     have hji35w:(IntKind.i64.wrap ((y200.length:Int) - 2))=ji35:=(aAk _).trans hji35
                     (try (have hji35l:=hji35;simp only [hl0_1,hl9_1] at hji35l))
                     (try (have hji35wl:=hji35w;simp only [hl0_1,hl9_1] at hji35wl))
                     by_cases c36:0≤(ji35)
                     ·rw [if_pos c36] at H
                      have c36b0:decide (0≤(ji35))=true:=decide_eq_true c36
                      clear c36
                      by_cases c37:(ji35) < (y200.length:Int)
                      ·rw [if_pos c37] at H
                       have c37b0:decide ((ji35) < (y200.length:Int))=true:=decide_eq_true c37
                       (try (have c37b0l:=c37b0;simp only [hl0_1,hl9_1] at c37b0l))
                       clear c37
                       obtain ⟨ji38,hji38⟩:∃ j_:Int,(wrap64 ((wrap64 ((wrap64 ((wrap64 ((x9_1.length:Int) - 1)) - x46_1))+(y200.length:Int))) - 2))=j_:=⟨_,rfl⟩
                       replace H:(if 0≤(ji38) then (if (ji38) < (x0_1.length:Int) then (nat_long.j2 k2 x0_1 y200 t196 (y200.length:Int) (rd y200 (ji11)) x9_1 (wrap64 ((wrap64 ((x9_1.length:Int) - 1)) - x46_1)) x13_2 x14_2 (y207.length:Int) x46_1 (decide ((IntKind.u64.wrap (x13_2*(IntKind.u64.wrap (rd y200 (ji35))))) > (Go.bits .or .u64 (IntKind.u64.wrap (x14_2*4294967296)) (IntKind.u64.wrap (rd x0_1 (ji38))))))) else (none)) else (none))=some (r1,r2):=by first | (rw [hji38] at H;exact H) | (simp only [hji38] at H ⊢;exact H)
                       have hji38w:(IntKind.i64.wrap ((wrap64 ((wrap64 ((wrap64 ((x9_1.length:Int) - 1)) - x46_1))+(y200.length:Int))) - 2))=ji38:=(aAk _).trans hji38
                       (try (have hji38v:=hji38;simp only [hji26] at hji38v))
                       (try (have hji38wv:=hji38w;simp only [hji26] at hji38wv))
                       (try (have hji38l:=hji38;simp only [hl0_1,hl9_1] at hji38l))
                       (try (have hji38wl:=hji38w;simp only [hl0_1,hl9_1] at hji38wl))
                       by_cases c39:0≤(ji38)
                       ·rw [if_pos c39] at H
                        have c39b0:decide (0≤(ji38))=true:=decide_eq_true c39
                        clear c39
                        by_cases c40:(ji38) < (x0_1.length:Int)
                        ·rw [if_pos c40] at H
                         have c40b0:decide ((ji38) < (x0_1.length:Int))=true:=decide_eq_true c40
                         (try (have c40b0l:=c40b0;simp only [hl0_1,hl9_1] at c40b0l))
                         clear c40
                         have H':=Q.a H
                         clear H
                         have p218:0≤((ji35):Int):=of_decide_eq_true (by first | (with_reducible assumption) | assumption)
                         have q218:(ji35) < (y200.length:Int):=of_decide_eq_true (by first | (with_reducible assumption) | assumption)
                         obtain ⟨ad218,e218,hx218_0⟩:=Kd.at_int (Kd.R_reads' HO_1.out).2.2 (ji35) p218 q218
                         obtain rfl:ad206=ad218:=(by injection e218)
                         replace p218:=eq_true p218
                         replace q218:=eq_true q218
                         have p219:0≤((ji38):Int):=of_decide_eq_true (by first | (with_reducible assumption) | assumption)
                         have q219:(ji38) < (x0_1.length:Int):=of_decide_eq_true (by first | (with_reducible assumption) | assumption)
                         obtain ⟨ad219,e219,hx219_0⟩:=Kd.at_int (Kd.R_reads' HO_0.out).2.2 (ji38) p219 q219
                         obtain rfl:ad216=ad219:=(by injection e219)
                         replace p219:=eq_true p219
                         replace q219:=eq_true q219
                         go_wp2
                         repeat (go_quiet (fail);try go_wp2)
                         go_meet
                         case rel=>exact ⟨_,(decide ((IntKind.u64.wrap (x13_2*(IntKind.u64.wrap (rd y200 (ji35))))) > (Go.bits .or .u64 (IntKind.u64.wrap (x14_2*4294967296)) (IntKind.u64.wrap (rd x0_1 (ji38)))))),(by first | rfl | (simp;done) | (simp only [← hji35,← hji38]<;>(first | rfl | simp)) | (simp [*];done)),H',⟨by have:=HK1.out;have:=HK2.out;first | omega | exact Nat.le_refl _⟩,⟨by (try simp only [hl0_1]);(try simp only [hl9_1]);(with_reducible repeat (first | apply Kd.R_alloc | apply Kd.R_drewN | apply Kd.R_drew));exact HO_0.out⟩,⟨by (try simp only [hl0_1]);(try simp only [hl9_1]);(with_reducible repeat (first | apply Kd.R_alloc | apply Kd.R_drewN | apply Kd.R_drew));exact HO_1.out⟩,⟨by (try simp only [hl0_1]);(try simp only [hl9_1]);(with_reducible repeat (first | apply Kd.R_alloc | apply Kd.R_drewN | apply Kd.R_drew));exact HO_9.out⟩,⟨Q.bw HB⟩⟩
                        ·rw [if_neg c40] at H
                         exact absurd H (by simp)
                       ·rw [if_neg c39] at H
                        exact absurd H (by simp)
                      ·rw [if_neg c37] at H
                       exact absurd H (by simp)
                     ·rw [if_neg c36] at H
                      exact absurd H (by simp)
                   case rest =>
                    clear HC33
                    try clear c1
                    try clear p1
                    try clear q1
                    try clear hx1
                    try clear c2
                    try clear p2
                    try clear q2
                    try clear hx2
                    try clear c3
                    try clear c4
                    try clear c4b0
                    try clear c5
                    try clear c5b0
                    try clear p6
                    try clear c8
                    try clear c8b0
                    try clear c8b1
                    try clear c9
                    try clear c9b0
                    try clear c9b1
                    try clear c12
                    try clear c12b0
                    try clear c13
                    try clear c13b0
                    try clear c15
                    try clear c15b0
                    try clear c15b1
                    try clear c16
                    try clear c16b0
                    try clear c16b1
                    try clear c18
                    try clear p19
                    try clear q19
                    try clear hx19
                    try clear p20
                    try clear q20
                    try clear hx20
                    try clear p21
                    try clear q21
                    try clear hx21
                    try clear c25
                    try clear c25b0
                    try clear c27
                    try clear c27b0
                    try clear c28
                    try clear c28b0
                    try clear c30
                    try clear c30b0
                    try clear c31
                    try clear c31b0
                    try clear c32
                    try clear c32b0
                    try clear c32b1
                    try clear c34
                    try clear c34b0
                    try clear c36
                    try clear c36b0
                    try clear c37
                    try clear c37b0
                    try clear c39
                    try clear c39b0
                    try clear c40
                    try clear c40b0
                    try clear hx195_0
                    try clear hx206_0
                    try clear hx216_0
                    try clear hx217_0
                    try clear hx218_0
                    try clear hx219_0
                    try clear p1
                    try clear p19
                    try clear p195
                    try clear p2
                    try clear p20
                    try clear p206
                    try clear p21
                    try clear p216
                    try clear p217
                    try clear p218
                    try clear p219
                    try clear p6
                    try clear q1
                    try clear q19
                    try clear q195
                    try clear q2
                    try clear q20
                    try clear q206
                    try clear q21
                    try clear q216
                    try clear q217
                    try clear q218
                    try clear q219
                    obtain ⟨kq,x102_32,rfl,HA,HJ32,HO_0,HO_1,HO_9,HB⟩:=hcut
                    cases kq with
                    | zero=>exact absurd HA.out (by simp [nat_long.j2])
                    | succ kj32 =>
                     have H:=HA.out
                     clear HA
                     simp only [nat_long.j2] at H
                     by_cases c41:x102_32=true
                     ·subst c41
                      have H1:(if (IntKind.u64.wrap (x14_2+(IntKind.u64.wrap ((rd y200 (ji11)))))) > 4294967295 then ((nat_take_win.f kj32 x0_1 (wrap64 ((wrap64 ((x9_1.length:Int) - 1)) - x46_1)) (wrap64 ((wrap64 ((wrap64 ((wrap64 ((x9_1.length:Int) - 1)) - x46_1))+(y200.length:Int)))+1)) y200 ((IntKind.u64.wrap (x13_2 - 1)) % 4294967296)).bind fun bt220=>(if bt220.1=true then (if 0≤(wrap64 ((wrap64 ((x9_1.length:Int) - 1)) - x46_1)) then (if (wrap64 ((wrap64 ((x9_1.length:Int) - 1)) - x46_1)) < (x9_1.length:Int) then (nat_long.l0 kj32 bt220.2 y200 t196 (y200.length:Int) (rd y200 (ji11)) (x9_1.set ((wrap64 ((wrap64 ((x9_1.length:Int) - 1)) - x46_1)):Int).toNat ((IntKind.u64.wrap ((IntKind.u64.wrap (x13_2 - 1)) - 1)) % 4294967296)) (y207.length:Int) (wrap64 (x46_1+1))) else (none)) else (none)) else (if 0≤(wrap64 ((wrap64 ((x9_1.length:Int) - 1)) - x46_1)) then (if (wrap64 ((wrap64 ((x9_1.length:Int) - 1)) - x46_1)) < (x9_1.length:Int) then (nat_long.l0 kj32 bt220.2 y200 t196 (y200.length:Int) (rd y200 (ji11)) (x9_1.set ((wrap64 ((wrap64 ((x9_1.length:Int) - 1)) - x46_1)):Int).toNat ((IntKind.u64.wrap (x13_2 - 1)) % 4294967296)) (y207.length:Int) (wrap64 (x46_1+1))) else (none)) else (none)))) else (nat_long.l1 kj32 x0_1 y200 t196 (y200.length:Int) (rd y200 (ji11)) x9_1 (wrap64 ((wrap64 ((x9_1.length:Int) - 1)) - x46_1)) (IntKind.u64.wrap (x13_2 - 1)) (IntKind.u64.wrap (x14_2+(IntKind.u64.wrap ((rd y200 (ji11)))))) (y207.length:Int) x46_1))=some (r1,r2):=by rw [if_pos rfl] at H;exact H
                      clear H
                      have H:=H1
                      clear H1
                      by_cases c42:(IntKind.u64.wrap (x14_2+(IntKind.u64.wrap ((rd y200 (ji11)))))) > 4294967295
                      ·rw [if_pos c42] at H
                       have c42b0:decide (4294967295 < (IntKind.u64.wrap (x14_2+(IntKind.u64.wrap ((rd y200 (ji11)))))))=true:=decide_eq_true c42
                       clear c42
                       replace H:=Option.bind_eq_some_iff.mp H
                       obtain ⟨⟨t220,t221⟩,A430,H⟩:=H
                       try dsimp only at H
                       have A43:=Q.a A430
                       clear A430
                       by_cases c44:t220=true
                       ·subst c44
                        have H1:(if 0≤(wrap64 ((wrap64 ((x9_1.length:Int) - 1)) - x46_1)) then (if (wrap64 ((wrap64 ((x9_1.length:Int) - 1)) - x46_1)) < (x9_1.length:Int) then (nat_long.l0 kj32 t221 y200 t196 (y200.length:Int) (rd y200 (ji11)) (x9_1.set ((wrap64 ((wrap64 ((x9_1.length:Int) - 1)) - x46_1)):Int).toNat ((IntKind.u64.wrap ((IntKind.u64.wrap (x13_2 - 1)) - 1)) % 4294967296)) (y207.length:Int) (wrap64 (x46_1+1))) else (none)) else (none))=some (r1,r2):=by rw [if_pos rfl] at H;exact H
                        clear H
                        have H:=H1
                        clear H1
                        obtain ⟨ji45,hji45⟩:∃ j_:Int,(wrap64 ((wrap64 ((x9_1.length:Int) - 1)) - x46_1))=j_:=⟨_,rfl⟩
                        replace H:(if 0≤(ji45) then (if (ji45) < (x9_1.length:Int) then (nat_long.l0 kj32 t221 y200 t196 (y200.length:Int) (rd y200 (ji11)) (x9_1.set ((ji45):Int).toNat ((IntKind.u64.wrap ((IntKind.u64.wrap (x13_2 - 1)) - 1)) % 4294967296)) (y207.length:Int) (wrap64 (x46_1+1))) else (none)) else (none))=some (r1,r2):=by first | (rw [hji45] at H;exact H) | (simp only [hji45] at H ⊢;exact H)
                        (try rw [hji45] at A43)
                        have hji45w:(IntKind.i64.wrap ((wrap64 ((x9_1.length:Int) - 1)) - x46_1))=ji45:=(aAk _).trans hji45
                        (try (have hji45l:=hji45;simp only [hl0_1,hl9_1] at hji45l))
                        (try (have hji45wl:=hji45w;simp only [hl0_1,hl9_1] at hji45wl))
                        by_cases c46:0≤(ji45)
                        ·rw [if_pos c46] at H
                         have c46b0:decide (0≤(ji45))=true:=decide_eq_true c46
                         clear c46
                         by_cases c47:(ji45) < (x9_1.length:Int)
                         ·rw [if_pos c47] at H
                          have c47b0:decide ((ji45) < (x9_1.length:Int))=true:=decide_eq_true c47
                          (try (have c47b0l:=c47b0;simp only [hl0_1,hl9_1] at c47b0l))
                          clear c47
                          obtain ⟨y222,hy222⟩:∃ y_:List Int,y_=(x9_1.set ((ji45):Int).toNat ((IntKind.u64.wrap ((IntKind.u64.wrap (x13_2 - 1)) - 1)) % 4294967296)):=⟨_,rfl⟩
                          replace H:(nat_long.l0 kj32 t221 y200 t196 (y200.length:Int) (rd y200 (ji11)) y222 (y207.length:Int) (wrap64 (x46_1+1)))=some (r1,r2):=by first | (rw [hy222];with_reducible exact H) | (have H2_:=(Option.bind_some _ _).symm.trans H;rw [hy222];with_reducible exact H2_) | (have H2_:=(Option.bind_some _ _).symm.trans H;with_reducible exact H2_) | with_reducible exact H | (rw [hy222];exact H) | exact H
                          have Ny222:=Q.a hy222
                          clear hy222
                          have H':=Q.a H
                          clear H
                          have hwb_:=nat_take_win.bounds A43.out
                          have hwin_:=XW.run_win 176 178 Tryz.underlying176 aAQ (some ad216) x0_1.length co21 (ji45) (wrap64 ((wrap64 ((ji45)+(y200.length:Int)))+1)) hwb_.1 (Int.le_of_lt hwb_.2.1) (Int.le_trans hwb_.2.2 (Int.ofNat_le.2 (Kd.R_reads' HO_0.out).2.1))
                          clear hwb_
                          go_wp2_with (first | (go_at_call 224;(with_reducible refine (nat_take_win.calls kj32 (fun k_=>some k_=(.slice (some ad216) x0_1.length co21:Value).ownBlock) (.slice (some ad216) x0_1.length co21) x0_1 (ji45) (wrap64 ((wrap64 ((ji45)+(y200.length:Int)))+1)) _ _ y200 ((IntKind.u64.wrap (x13_2 - 1)) % 4294967296) true t221 w _ ?side1 ?side2 ?side3 ?side4 A43.out).mono ?_);(case side1=>repeat (first | (with_reducible first | exact HB.out | apply aAr | apply aAn | apply aAw) | exact HB.out));(case side2=>exact Kd.R_tight rfl HO_0.out);(case side3=>exact Kd.C_kept_own (HO_1.out) (fun k_ hk_ hs_=>(hk_.1) hs_));(case side4=>exact (Kd.R_reads' HO_1.out).2.1);rintro e w49 ⟨rfl,hy0,hb,hkp⟩;replace HO_0:=Q.a (Kd.R_reok rfl hy0 (fun k_ e_=>HO_0.out.1 k_ e_));replace HO_1:=Q.a (Kd.R_mono (ok':=fun k_=>some k_≠(.slice (some ad216) x0_1.length co21:Value).ownBlock∧some k_≠(.slice Ao24 x9_1.length co24:Value).ownBlock) (Kd.R_keptB (HO_1.out) hkp (fun k_ hk_ hs_=>(hk_.1) hs_)) (fun k_ hk_=>⟨hk_.1.1,hk_.1.2⟩));replace HO_9:=Q.a (Kd.R_mono (ok':=fun k_=>some k_≠(.slice (some ad216) x0_1.length co21:Value).ownBlock∧some k_≠(.slice (some ad206) y200.length co18:Value).ownBlock) (Kd.R_keptB (HO_9.out) hkp (fun k_ hk_ hs_=>(hk_.1) hs_)) (fun k_ hk_=>⟨hk_.1.1,hk_.1.2⟩));replace HB:=Q.a (hb);(try clear hb);(try clear hkp);(try clear hy0);have p48:0≤((ji45):Int):=of_decide_eq_true (by first | (with_reducible assumption) | assumption);have q48:((ji45):Int) < ((x9_1.length:Int):Int):=of_decide_eq_true (by first | (with_reducible assumption) | assumption);obtain ⟨go48,co48,eo48,gb48,gl48,cl48,HG48⟩:=Kd.R_form HO_9.out (by omega);(first | cases eo48 | (injection eo48 with ea_ en_ ec_;(first | subst ea_ | (injection ea_ with ea_;subst ea_));subst ec_;clear en_));have GB48:=Q.a gb48;have GG48:=Q.a HG48;clear gb48 gl48 HG48;obtain ⟨hx48_0,hf48_0⟩:=Kd.R_celln 0 HO_9.out ((ji45):Int) p48 q48;replace p48:=eq_true p48;replace q48:=eq_true q48;obtain ⟨hy50_,hz50_⟩:=Kd.R_celln 0 HO_9.out ((ji45):Int) Q.od Q.od;have HP50:=Kd.R_putg HO_9.out ((ji45):Int) ((IntKind.u64.wrap ((IntKind.u64.wrap (x13_2 - 1)) - 1)) % 4294967296)) | ((with_reducible refine aAp (t:=178) (p:=128) rfl ?_);(try (rw [aAy w49];generalize hq_:World.drewN w49 _=w49;have n0_:=Q.a (Kd.R_at hq_ HO_0.out);have n1_:=Q.a (Kd.R_at hq_ HO_1.out);have n2_:=Q.a (Kd.R_at hq_ HO_9.out);have n3_:=Q.a (aAZ hq_ HB.out);clear hq_ HO_0 HO_1 HO_9 HB;have HO_0:=n0_;have HO_1:=n1_;have HO_9:=n2_;have HB:=n3_;clear n0_ n1_ n2_ n3_;(try (obtain ⟨hy50_,hz50_⟩:=Kd.R_celln 0 HO_9.out ((ji45):Int) Q.od Q.od));(try (have HP50:=Kd.R_putg HO_9.out ((ji45):Int) ((IntKind.u64.wrap ((IntKind.u64.wrap (x13_2 - 1)) - 1)) % 4294967296)))));refine aAm (t:=178) (p:=128) (v:=?vo_w51) (w1:=(w49.setCell ⟨go48,((ji45):Int).toNat,none⟩ (.int .u32 ((IntKind.u64.wrap ((IntKind.u64.wrap (x13_2 - 1)) - 1)) % 4294967296)))) ?hg ?ho ?hn ?hr ?_;(case ho=>rfl);(case hg=>rfl);(case hn=>rfl);(case hr=>first | (go_simp;done) | (go_simp;rfl));intro w51 hw;have hg:w49.grownBy w51 (some go48):=(by rw [hw];exact HP50.2);have hp_:Kd.R (Kd.int .u32) 178 w51 w.heap.size (fun k_=>some k_≠(.slice (some ad216) x0_1.length co21:Value).ownBlock∧some k_≠(.slice (some ad206) y200.length co18:Value).ownBlock) (.slice (some ⟨go48,0,none⟩) x9_1.length co24) y222:=(by rw [hw,Ny222.out];exact HP50.1);clear HP50;replace HO_0:=Q.a (Kd.R_after (v:=(.slice (some ⟨go48,0,none⟩) x9_1.length co24)) (v1:=(.slice (some ⟨go48,0,none⟩) x9_1.length co24)) (ok:=(fun k_=>some k_≠(.slice (some ad206) y200.length co18:Value).ownBlock)) (Q.kr HO_0) hg (.inl rfl));replace HO_1:=Q.a (Kd.R_after (v:=(.slice (some ⟨go48,0,none⟩) x9_1.length co24)) (v1:=(.slice (some ⟨go48,0,none⟩) x9_1.length co24)) (ok:=(fun k_=>some k_≠(.slice (some ad216) x0_1.length co21:Value).ownBlock)) (Q.kr HO_1) hg (.inl rfl));replace HO_9:=Q.a (hp_);replace HB:=Q.a ((by rw [hw];exact aAq (HB.out) GB48.out:Below w.heap.size w w51));clear hg hw hp_))
                          repeat (go_quiet (first | (go_at_call 224;(with_reducible refine (nat_take_win.calls kj32 (fun k_=>some k_=(.slice (some ad216) x0_1.length co21:Value).ownBlock) (.slice (some ad216) x0_1.length co21) x0_1 (ji45) (wrap64 ((wrap64 ((ji45)+(y200.length:Int)))+1)) _ _ y200 ((IntKind.u64.wrap (x13_2 - 1)) % 4294967296) true t221 w _ ?side1 ?side2 ?side3 ?side4 A43.out).mono ?_);(case side1=>repeat (first | (with_reducible first | exact HB.out | apply aAr | apply aAn | apply aAw) | exact HB.out));(case side2=>exact Kd.R_tight rfl HO_0.out);(case side3=>exact Kd.C_kept_own (HO_1.out) (fun k_ hk_ hs_=>(hk_.1) hs_));(case side4=>exact (Kd.R_reads' HO_1.out).2.1);rintro e w49 ⟨rfl,hy0,hb,hkp⟩;replace HO_0:=Q.a (Kd.R_reok rfl hy0 (fun k_ e_=>HO_0.out.1 k_ e_));replace HO_1:=Q.a (Kd.R_mono (ok':=fun k_=>some k_≠(.slice (some ad216) x0_1.length co21:Value).ownBlock∧some k_≠(.slice Ao24 x9_1.length co24:Value).ownBlock) (Kd.R_keptB (HO_1.out) hkp (fun k_ hk_ hs_=>(hk_.1) hs_)) (fun k_ hk_=>⟨hk_.1.1,hk_.1.2⟩));replace HO_9:=Q.a (Kd.R_mono (ok':=fun k_=>some k_≠(.slice (some ad216) x0_1.length co21:Value).ownBlock∧some k_≠(.slice (some ad206) y200.length co18:Value).ownBlock) (Kd.R_keptB (HO_9.out) hkp (fun k_ hk_ hs_=>(hk_.1) hs_)) (fun k_ hk_=>⟨hk_.1.1,hk_.1.2⟩));replace HB:=Q.a (hb);(try clear hb);(try clear hkp);(try clear hy0);have p48:0≤((ji45):Int):=of_decide_eq_true (by first | (with_reducible assumption) | assumption);have q48:((ji45):Int) < ((x9_1.length:Int):Int):=of_decide_eq_true (by first | (with_reducible assumption) | assumption);obtain ⟨go48,co48,eo48,gb48,gl48,cl48,HG48⟩:=Kd.R_form HO_9.out (by omega);(first | cases eo48 | (injection eo48 with ea_ en_ ec_;(first | subst ea_ | (injection ea_ with ea_;subst ea_));subst ec_;clear en_));have GB48:=Q.a gb48;have GG48:=Q.a HG48;clear gb48 gl48 HG48;obtain ⟨hx48_0,hf48_0⟩:=Kd.R_celln 0 HO_9.out ((ji45):Int) p48 q48;replace p48:=eq_true p48;replace q48:=eq_true q48;obtain ⟨hy50_,hz50_⟩:=Kd.R_celln 0 HO_9.out ((ji45):Int) Q.od Q.od;have HP50:=Kd.R_putg HO_9.out ((ji45):Int) ((IntKind.u64.wrap ((IntKind.u64.wrap (x13_2 - 1)) - 1)) % 4294967296)) | ((with_reducible refine aAp (t:=178) (p:=128) rfl ?_);(try (rw [aAy w49];generalize hq_:World.drewN w49 _=w49;have n0_:=Q.a (Kd.R_at hq_ HO_0.out);have n1_:=Q.a (Kd.R_at hq_ HO_1.out);have n2_:=Q.a (Kd.R_at hq_ HO_9.out);have n3_:=Q.a (aAZ hq_ HB.out);clear hq_ HO_0 HO_1 HO_9 HB;have HO_0:=n0_;have HO_1:=n1_;have HO_9:=n2_;have HB:=n3_;clear n0_ n1_ n2_ n3_;(try (obtain ⟨hy50_,hz50_⟩:=Kd.R_celln 0 HO_9.out ((ji45):Int) Q.od Q.od));(try (have HP50:=Kd.R_putg HO_9.out ((ji45):Int) ((IntKind.u64.wrap ((IntKind.u64.wrap (x13_2 - 1)) - 1)) % 4294967296)))));refine aAm (t:=178) (p:=128) (v:=?vo_w51) (w1:=(w49.setCell ⟨go48,((ji45):Int).toNat,none⟩ (.int .u32 ((IntKind.u64.wrap ((IntKind.u64.wrap (x13_2 - 1)) - 1)) % 4294967296)))) ?hg ?ho ?hn ?hr ?_;(case ho=>rfl);(case hg=>rfl);(case hn=>rfl);(case hr=>first | (go_simp;done) | (go_simp;rfl));intro w51 hw;have hg:w49.grownBy w51 (some go48):=(by rw [hw];exact HP50.2);have hp_:Kd.R (Kd.int .u32) 178 w51 w.heap.size (fun k_=>some k_≠(.slice (some ad216) x0_1.length co21:Value).ownBlock∧some k_≠(.slice (some ad206) y200.length co18:Value).ownBlock) (.slice (some ⟨go48,0,none⟩) x9_1.length co24) y222:=(by rw [hw,Ny222.out];exact HP50.1);clear HP50;replace HO_0:=Q.a (Kd.R_after (v:=(.slice (some ⟨go48,0,none⟩) x9_1.length co24)) (v1:=(.slice (some ⟨go48,0,none⟩) x9_1.length co24)) (ok:=(fun k_=>some k_≠(.slice (some ad206) y200.length co18:Value).ownBlock)) (Q.kr HO_0) hg (.inl rfl));replace HO_1:=Q.a (Kd.R_after (v:=(.slice (some ⟨go48,0,none⟩) x9_1.length co24)) (v1:=(.slice (some ⟨go48,0,none⟩) x9_1.length co24)) (ok:=(fun k_=>some k_≠(.slice (some ad216) x0_1.length co21:Value).ownBlock)) (Q.kr HO_1) hg (.inl rfl));replace HO_9:=Q.a (hp_);replace HB:=Q.a ((by rw [hw];exact aAq (HB.out) GB48.out:Below w.heap.size w w51));clear hg hw hp_));try go_wp2_with (first | (go_at_call 224;(with_reducible refine (nat_take_win.calls kj32 (fun k_=>some k_=(.slice (some ad216) x0_1.length co21:Value).ownBlock) (.slice (some ad216) x0_1.length co21) x0_1 (ji45) (wrap64 ((wrap64 ((ji45)+(y200.length:Int)))+1)) _ _ y200 ((IntKind.u64.wrap (x13_2 - 1)) % 4294967296) true t221 w _ ?side1 ?side2 ?side3 ?side4 A43.out).mono ?_);(case side1=>repeat (first | (with_reducible first | exact HB.out | apply aAr | apply aAn | apply aAw) | exact HB.out));(case side2=>exact Kd.R_tight rfl HO_0.out);(case side3=>exact Kd.C_kept_own (HO_1.out) (fun k_ hk_ hs_=>(hk_.1) hs_));(case side4=>exact (Kd.R_reads' HO_1.out).2.1);rintro e w49 ⟨rfl,hy0,hb,hkp⟩;replace HO_0:=Q.a (Kd.R_reok rfl hy0 (fun k_ e_=>HO_0.out.1 k_ e_));replace HO_1:=Q.a (Kd.R_mono (ok':=fun k_=>some k_≠(.slice (some ad216) x0_1.length co21:Value).ownBlock∧some k_≠(.slice Ao24 x9_1.length co24:Value).ownBlock) (Kd.R_keptB (HO_1.out) hkp (fun k_ hk_ hs_=>(hk_.1) hs_)) (fun k_ hk_=>⟨hk_.1.1,hk_.1.2⟩));replace HO_9:=Q.a (Kd.R_mono (ok':=fun k_=>some k_≠(.slice (some ad216) x0_1.length co21:Value).ownBlock∧some k_≠(.slice (some ad206) y200.length co18:Value).ownBlock) (Kd.R_keptB (HO_9.out) hkp (fun k_ hk_ hs_=>(hk_.1) hs_)) (fun k_ hk_=>⟨hk_.1.1,hk_.1.2⟩));replace HB:=Q.a (hb);(try clear hb);(try clear hkp);(try clear hy0);have p48:0≤((ji45):Int):=of_decide_eq_true (by first | (with_reducible assumption) | assumption);have q48:((ji45):Int) < ((x9_1.length:Int):Int):=of_decide_eq_true (by first | (with_reducible assumption) | assumption);obtain ⟨go48,co48,eo48,gb48,gl48,cl48,HG48⟩:=Kd.R_form HO_9.out (by omega);(first | cases eo48 | (injection eo48 with ea_ en_ ec_;(first | subst ea_ | (injection ea_ with ea_;subst ea_));subst ec_;clear en_));have GB48:=Q.a gb48;have GG48:=Q.a HG48;clear gb48 gl48 HG48;obtain ⟨hx48_0,hf48_0⟩:=Kd.R_celln 0 HO_9.out ((ji45):Int) p48 q48;replace p48:=eq_true p48;replace q48:=eq_true q48;obtain ⟨hy50_,hz50_⟩:=Kd.R_celln 0 HO_9.out ((ji45):Int) Q.od Q.od;have HP50:=Kd.R_putg HO_9.out ((ji45):Int) ((IntKind.u64.wrap ((IntKind.u64.wrap (x13_2 - 1)) - 1)) % 4294967296)) | ((with_reducible refine aAp (t:=178) (p:=128) rfl ?_);(try (rw [aAy w49];generalize hq_:World.drewN w49 _=w49;have n0_:=Q.a (Kd.R_at hq_ HO_0.out);have n1_:=Q.a (Kd.R_at hq_ HO_1.out);have n2_:=Q.a (Kd.R_at hq_ HO_9.out);have n3_:=Q.a (aAZ hq_ HB.out);clear hq_ HO_0 HO_1 HO_9 HB;have HO_0:=n0_;have HO_1:=n1_;have HO_9:=n2_;have HB:=n3_;clear n0_ n1_ n2_ n3_;(try (obtain ⟨hy50_,hz50_⟩:=Kd.R_celln 0 HO_9.out ((ji45):Int) Q.od Q.od));(try (have HP50:=Kd.R_putg HO_9.out ((ji45):Int) ((IntKind.u64.wrap ((IntKind.u64.wrap (x13_2 - 1)) - 1)) % 4294967296)))));refine aAm (t:=178) (p:=128) (v:=?vo_w51) (w1:=(w49.setCell ⟨go48,((ji45):Int).toNat,none⟩ (.int .u32 ((IntKind.u64.wrap ((IntKind.u64.wrap (x13_2 - 1)) - 1)) % 4294967296)))) ?hg ?ho ?hn ?hr ?_;(case ho=>rfl);(case hg=>rfl);(case hn=>rfl);(case hr=>first | (go_simp;done) | (go_simp;rfl));intro w51 hw;have hg:w49.grownBy w51 (some go48):=(by rw [hw];exact HP50.2);have hp_:Kd.R (Kd.int .u32) 178 w51 w.heap.size (fun k_=>some k_≠(.slice (some ad216) x0_1.length co21:Value).ownBlock∧some k_≠(.slice (some ad206) y200.length co18:Value).ownBlock) (.slice (some ⟨go48,0,none⟩) x9_1.length co24) y222:=(by rw [hw,Ny222.out];exact HP50.1);clear HP50;replace HO_0:=Q.a (Kd.R_after (v:=(.slice (some ⟨go48,0,none⟩) x9_1.length co24)) (v1:=(.slice (some ⟨go48,0,none⟩) x9_1.length co24)) (ok:=(fun k_=>some k_≠(.slice (some ad206) y200.length co18:Value).ownBlock)) (Q.kr HO_0) hg (.inl rfl));replace HO_1:=Q.a (Kd.R_after (v:=(.slice (some ⟨go48,0,none⟩) x9_1.length co24)) (v1:=(.slice (some ⟨go48,0,none⟩) x9_1.length co24)) (ok:=(fun k_=>some k_≠(.slice (some ad216) x0_1.length co21:Value).ownBlock)) (Q.kr HO_1) hg (.inl rfl));replace HO_9:=Q.a (hp_);replace HB:=Q.a ((by rw [hw];exact aAq (HB.out) GB48.out:Below w.heap.size w w51));clear hg hw hp_)))
                          (try simp only [← hl0_1,← hl9_1])
                          go_roundg kj32
                          case measure=>have:=HK1.out;have:=HK2.out;have:=HJ32.out;omega
                          case rel=>exact ⟨(t221),(y222),(wrap64 (x46_1+1)),Q.rs,H',⟨by have:=HK1.out;have:=HK2.out;have:=HJ32.out;omega⟩,⟨by (try simp only [hl0_1]);(try simp only [hl9_1]);(with_reducible repeat (first | apply Kd.R_alloc | apply Kd.R_drewN | apply Kd.R_drew));exact HO_0.out⟩,⟨by (try simp only [hl0_1]);(try simp only [hl9_1]);(with_reducible repeat (first | apply Kd.R_alloc | apply Kd.R_drewN | apply Kd.R_drew));exact HO_1.out⟩,⟨by (try simp only [hl0_1]);(try simp only [hl9_1]);(with_reducible repeat (first | apply Kd.R_alloc | apply Kd.R_drewN | apply Kd.R_drew));exact HO_9.out⟩,⟨Q.bw HB⟩⟩
                         ·rw [if_neg c47] at H
                          exact absurd H (by simp)
                        ·rw [if_neg c46] at H
                         exact absurd H (by simp)
                       ·replace c44:=Bool.eq_false_iff.mpr c44
                        subst c44
                        have H1:(if 0≤(wrap64 ((wrap64 ((x9_1.length:Int) - 1)) - x46_1)) then (if (wrap64 ((wrap64 ((x9_1.length:Int) - 1)) - x46_1)) < (x9_1.length:Int) then (nat_long.l0 kj32 t221 y200 t196 (y200.length:Int) (rd y200 (ji11)) (x9_1.set ((wrap64 ((wrap64 ((x9_1.length:Int) - 1)) - x46_1)):Int).toNat ((IntKind.u64.wrap (x13_2 - 1)) % 4294967296)) (y207.length:Int) (wrap64 (x46_1+1))) else (none)) else (none))=some (r1,r2):=by rw [if_neg (show ¬ (false=true) by decide)] at H;exact H
                        clear H
                        have H:=H1
                        clear H1
                        obtain ⟨ji52,hji52⟩:∃ j_:Int,(wrap64 ((wrap64 ((x9_1.length:Int) - 1)) - x46_1))=j_:=⟨_,rfl⟩
                        replace H:(if 0≤(ji52) then (if (ji52) < (x9_1.length:Int) then (nat_long.l0 kj32 t221 y200 t196 (y200.length:Int) (rd y200 (ji11)) (x9_1.set ((ji52):Int).toNat ((IntKind.u64.wrap (x13_2 - 1)) % 4294967296)) (y207.length:Int) (wrap64 (x46_1+1))) else (none)) else (none))=some (r1,r2):=by first | (rw [hji52] at H;exact H) | (simp only [hji52] at H ⊢;exact H)
                        (try rw [hji52] at A43)
                        have hji52w:(IntKind.i64.wrap ((wrap64 ((x9_1.length:Int) - 1)) - x46_1))=ji52:=(aAk _).trans hji52
                        (try (have hji52l:=hji52;simp only [hl0_1,hl9_1] at hji52l))
                        (try (have hji52wl:=hji52w;simp only [hl0_1,hl9_1] at hji52wl))
                        by_cases c53:0≤(ji52)
                        ·rw [if_pos c53] at H
                         have c53b0:decide (0≤(ji52))=true:=decide_eq_true c53
                         clear c53
                         by_cases c54:(ji52) < (x9_1.length:Int)
                         ·rw [if_pos c54] at H
                          have c54b0:decide ((ji52) < (x9_1.length:Int))=true:=decide_eq_true c54
                          (try (have c54b0l:=c54b0;simp only [hl0_1,hl9_1] at c54b0l))
                          clear c54
                          obtain ⟨y223,hy223⟩:∃ y_:List Int,y_=(x9_1.set ((ji52):Int).toNat ((IntKind.u64.wrap (x13_2 - 1)) % 4294967296)):=⟨_,rfl⟩
                          replace H:(nat_long.l0 kj32 t221 y200 t196 (y200.length:Int) (rd y200 (ji11)) y223 (y207.length:Int) (wrap64 (x46_1+1)))=some (r1,r2):=by first | (rw [hy223];with_reducible exact H) | (have H2_:=(Option.bind_some _ _).symm.trans H;rw [hy223];with_reducible exact H2_) | (have H2_:=(Option.bind_some _ _).symm.trans H;with_reducible exact H2_) | with_reducible exact H | (rw [hy223];exact H) | exact H
                          have Ny223:=Q.a hy223
                          clear hy223
                          have H':=Q.a H
                          clear H
                          have hwb_:=nat_take_win.bounds A43.out
                          have hwin_:=XW.run_win 176 178 Tryz.underlying176 aAQ (some ad216) x0_1.length co21 (ji52) (wrap64 ((wrap64 ((ji52)+(y200.length:Int)))+1)) hwb_.1 (Int.le_of_lt hwb_.2.1) (Int.le_trans hwb_.2.2 (Int.ofNat_le.2 (Kd.R_reads' HO_0.out).2.1))
                          clear hwb_
                          go_wp2_with (first | (go_at_call 224;(with_reducible refine (nat_take_win.calls kj32 (fun k_=>some k_=(.slice (some ad216) x0_1.length co21:Value).ownBlock) (.slice (some ad216) x0_1.length co21) x0_1 (ji52) (wrap64 ((wrap64 ((ji52)+(y200.length:Int)))+1)) _ _ y200 ((IntKind.u64.wrap (x13_2 - 1)) % 4294967296) false t221 w _ ?side1 ?side2 ?side3 ?side4 A43.out).mono ?_);(case side1=>repeat (first | (with_reducible first | exact HB.out | apply aAr | apply aAn | apply aAw) | exact HB.out));(case side2=>exact Kd.R_tight rfl HO_0.out);(case side3=>exact Kd.C_kept_own (HO_1.out) (fun k_ hk_ hs_=>(hk_.1) hs_));(case side4=>exact (Kd.R_reads' HO_1.out).2.1);rintro e w56 ⟨rfl,hy0,hb,hkp⟩;replace HO_0:=Q.a (Kd.R_reok rfl hy0 (fun k_ e_=>HO_0.out.1 k_ e_));replace HO_1:=Q.a (Kd.R_mono (ok':=fun k_=>some k_≠(.slice (some ad216) x0_1.length co21:Value).ownBlock∧some k_≠(.slice Ao24 x9_1.length co24:Value).ownBlock) (Kd.R_keptB (HO_1.out) hkp (fun k_ hk_ hs_=>(hk_.1) hs_)) (fun k_ hk_=>⟨hk_.1.1,hk_.1.2⟩));replace HO_9:=Q.a (Kd.R_mono (ok':=fun k_=>some k_≠(.slice (some ad216) x0_1.length co21:Value).ownBlock∧some k_≠(.slice (some ad206) y200.length co18:Value).ownBlock) (Kd.R_keptB (HO_9.out) hkp (fun k_ hk_ hs_=>(hk_.1) hs_)) (fun k_ hk_=>⟨hk_.1.1,hk_.1.2⟩));replace HB:=Q.a (hb);(try clear hb);(try clear hkp);(try clear hy0);have p55:0≤((ji52):Int):=of_decide_eq_true (by first | (with_reducible assumption) | assumption);have q55:((ji52):Int) < ((x9_1.length:Int):Int):=of_decide_eq_true (by first | (with_reducible assumption) | assumption);obtain ⟨go55,co55,eo55,gb55,gl55,cl55,HG55⟩:=Kd.R_form HO_9.out (by omega);(first | cases eo55 | (injection eo55 with ea_ en_ ec_;(first | subst ea_ | (injection ea_ with ea_;subst ea_));subst ec_;clear en_));have GB55:=Q.a gb55;have GG55:=Q.a HG55;clear gb55 gl55 HG55;obtain ⟨hx55_0,hf55_0⟩:=Kd.R_celln 0 HO_9.out ((ji52):Int) p55 q55;replace p55:=eq_true p55;replace q55:=eq_true q55;obtain ⟨hy57_,hz57_⟩:=Kd.R_celln 0 HO_9.out ((ji52):Int) Q.od Q.od;have HP57:=Kd.R_putg HO_9.out ((ji52):Int) ((IntKind.u64.wrap (x13_2 - 1)) % 4294967296)) | ((with_reducible refine aAp (t:=178) (p:=128) rfl ?_);(try (rw [aAy w56];generalize hq_:World.drewN w56 _=w56;have n0_:=Q.a (Kd.R_at hq_ HO_0.out);have n1_:=Q.a (Kd.R_at hq_ HO_1.out);have n2_:=Q.a (Kd.R_at hq_ HO_9.out);have n3_:=Q.a (aAZ hq_ HB.out);clear hq_ HO_0 HO_1 HO_9 HB;have HO_0:=n0_;have HO_1:=n1_;have HO_9:=n2_;have HB:=n3_;clear n0_ n1_ n2_ n3_;(try (obtain ⟨hy57_,hz57_⟩:=Kd.R_celln 0 HO_9.out ((ji52):Int) Q.od Q.od));(try (have HP57:=Kd.R_putg HO_9.out ((ji52):Int) ((IntKind.u64.wrap (x13_2 - 1)) % 4294967296)))));refine aAm (t:=178) (p:=128) (v:=?vo_w58) (w1:=(w56.setCell ⟨go55,((ji52):Int).toNat,none⟩ (.int .u32 ((IntKind.u64.wrap (x13_2 - 1)) % 4294967296)))) ?hg ?ho ?hn ?hr ?_;(case ho=>rfl);(case hg=>rfl);(case hn=>rfl);(case hr=>first | (go_simp;done) | (go_simp;rfl));intro w58 hw;have hg:w56.grownBy w58 (some go55):=(by rw [hw];exact HP57.2);have hp_:Kd.R (Kd.int .u32) 178 w58 w.heap.size (fun k_=>some k_≠(.slice (some ad216) x0_1.length co21:Value).ownBlock∧some k_≠(.slice (some ad206) y200.length co18:Value).ownBlock) (.slice (some ⟨go55,0,none⟩) x9_1.length co24) y223:=(by rw [hw,Ny223.out];exact HP57.1);clear HP57;replace HO_0:=Q.a (Kd.R_after (v:=(.slice (some ⟨go55,0,none⟩) x9_1.length co24)) (v1:=(.slice (some ⟨go55,0,none⟩) x9_1.length co24)) (ok:=(fun k_=>some k_≠(.slice (some ad206) y200.length co18:Value).ownBlock)) (Q.kr HO_0) hg (.inl rfl));replace HO_1:=Q.a (Kd.R_after (v:=(.slice (some ⟨go55,0,none⟩) x9_1.length co24)) (v1:=(.slice (some ⟨go55,0,none⟩) x9_1.length co24)) (ok:=(fun k_=>some k_≠(.slice (some ad216) x0_1.length co21:Value).ownBlock)) (Q.kr HO_1) hg (.inl rfl));replace HO_9:=Q.a (hp_);replace HB:=Q.a ((by rw [hw];exact aAq (HB.out) GB55.out:Below w.heap.size w w58));clear hg hw hp_))
                          repeat (go_quiet (first | (go_at_call 224;(with_reducible refine (nat_take_win.calls kj32 (fun k_=>some k_=(.slice (some ad216) x0_1.length co21:Value).ownBlock) (.slice (some ad216) x0_1.length co21) x0_1 (ji52) (wrap64 ((wrap64 ((ji52)+(y200.length:Int)))+1)) _ _ y200 ((IntKind.u64.wrap (x13_2 - 1)) % 4294967296) false t221 w _ ?side1 ?side2 ?side3 ?side4 A43.out).mono ?_);(case side1=>repeat (first | (with_reducible first | exact HB.out | apply aAr | apply aAn | apply aAw) | exact HB.out));(case side2=>exact Kd.R_tight rfl HO_0.out);(case side3=>exact Kd.C_kept_own (HO_1.out) (fun k_ hk_ hs_=>(hk_.1) hs_));(case side4=>exact (Kd.R_reads' HO_1.out).2.1);rintro e w56 ⟨rfl,hy0,hb,hkp⟩;replace HO_0:=Q.a (Kd.R_reok rfl hy0 (fun k_ e_=>HO_0.out.1 k_ e_));replace HO_1:=Q.a (Kd.R_mono (ok':=fun k_=>some k_≠(.slice (some ad216) x0_1.length co21:Value).ownBlock∧some k_≠(.slice Ao24 x9_1.length co24:Value).ownBlock) (Kd.R_keptB (HO_1.out) hkp (fun k_ hk_ hs_=>(hk_.1) hs_)) (fun k_ hk_=>⟨hk_.1.1,hk_.1.2⟩));replace HO_9:=Q.a (Kd.R_mono (ok':=fun k_=>some k_≠(.slice (some ad216) x0_1.length co21:Value).ownBlock∧some k_≠(.slice (some ad206) y200.length co18:Value).ownBlock) (Kd.R_keptB (HO_9.out) hkp (fun k_ hk_ hs_=>(hk_.1) hs_)) (fun k_ hk_=>⟨hk_.1.1,hk_.1.2⟩));replace HB:=Q.a (hb);(try clear hb);(try clear hkp);(try clear hy0);have p55:0≤((ji52):Int):=of_decide_eq_true (by first | (with_reducible assumption) | assumption);have q55:((ji52):Int) < ((x9_1.length:Int):Int):=of_decide_eq_true (by first | (with_reducible assumption) | assumption);obtain ⟨go55,co55,eo55,gb55,gl55,cl55,HG55⟩:=Kd.R_form HO_9.out (by omega);(first | cases eo55 | (injection eo55 with ea_ en_ ec_;(first | subst ea_ | (injection ea_ with ea_;subst ea_));subst ec_;clear en_));have GB55:=Q.a gb55;have GG55:=Q.a HG55;clear gb55 gl55 HG55;obtain ⟨hx55_0,hf55_0⟩:=Kd.R_celln 0 HO_9.out ((ji52):Int) p55 q55;replace p55:=eq_true p55;replace q55:=eq_true q55;obtain ⟨hy57_,hz57_⟩:=Kd.R_celln 0 HO_9.out ((ji52):Int) Q.od Q.od;have HP57:=Kd.R_putg HO_9.out ((ji52):Int) ((IntKind.u64.wrap (x13_2 - 1)) % 4294967296)) | ((with_reducible refine aAp (t:=178) (p:=128) rfl ?_);(try (rw [aAy w56];generalize hq_:World.drewN w56 _=w56;have n0_:=Q.a (Kd.R_at hq_ HO_0.out);have n1_:=Q.a (Kd.R_at hq_ HO_1.out);have n2_:=Q.a (Kd.R_at hq_ HO_9.out);have n3_:=Q.a (aAZ hq_ HB.out);clear hq_ HO_0 HO_1 HO_9 HB;have HO_0:=n0_;have HO_1:=n1_;have HO_9:=n2_;have HB:=n3_;clear n0_ n1_ n2_ n3_;(try (obtain ⟨hy57_,hz57_⟩:=Kd.R_celln 0 HO_9.out ((ji52):Int) Q.od Q.od));(try (have HP57:=Kd.R_putg HO_9.out ((ji52):Int) ((IntKind.u64.wrap (x13_2 - 1)) % 4294967296)))));refine aAm (t:=178) (p:=128) (v:=?vo_w58) (w1:=(w56.setCell ⟨go55,((ji52):Int).toNat,none⟩ (.int .u32 ((IntKind.u64.wrap (x13_2 - 1)) % 4294967296)))) ?hg ?ho ?hn ?hr ?_;(case ho=>rfl);(case hg=>rfl);(case hn=>rfl);(case hr=>first | (go_simp;done) | (go_simp;rfl));intro w58 hw;have hg:w56.grownBy w58 (some go55):=(by rw [hw];exact HP57.2);have hp_:Kd.R (Kd.int .u32) 178 w58 w.heap.size (fun k_=>some k_≠(.slice (some ad216) x0_1.length co21:Value).ownBlock∧some k_≠(.slice (some ad206) y200.length co18:Value).ownBlock) (.slice (some ⟨go55,0,none⟩) x9_1.length co24) y223:=(by rw [hw,Ny223.out];exact HP57.1);clear HP57;replace HO_0:=Q.a (Kd.R_after (v:=(.slice (some ⟨go55,0,none⟩) x9_1.length co24)) (v1:=(.slice (some ⟨go55,0,none⟩) x9_1.length co24)) (ok:=(fun k_=>some k_≠(.slice (some ad206) y200.length co18:Value).ownBlock)) (Q.kr HO_0) hg (.inl rfl));replace HO_1:=Q.a (Kd.R_after (v:=(.slice (some ⟨go55,0,none⟩) x9_1.length co24)) (v1:=(.slice (some ⟨go55,0,none⟩) x9_1.length co24)) (ok:=(fun k_=>some k_≠(.slice (some ad216) x0_1.length co21:Value).ownBlock)) (Q.kr HO_1) hg (.inl rfl));replace HO_9:=Q.a (hp_);replace HB:=Q.a ((by rw [hw];exact aAq (HB.out) GB55.out:Below w.heap.size w w58));clear hg hw hp_));try go_wp2_with (first | (go_at_call 224;(with_reducible refine (nat_take_win.calls kj32 (fun k_=>some k_=(.slice (some ad216) x0_1.length co21:Value).ownBlock) (.slice (some ad216) x0_1.length co21) x0_1 (ji52) (wrap64 ((wrap64 ((ji52)+(y200.length:Int)))+1)) _ _ y200 ((IntKind.u64.wrap (x13_2 - 1)) % 4294967296) false t221 w _ ?side1 ?side2 ?side3 ?side4 A43.out).mono ?_);(case side1=>repeat (first | (with_reducible first | exact HB.out | apply aAr | apply aAn | apply aAw) | exact HB.out));(case side2=>exact Kd.R_tight rfl HO_0.out);(case side3=>exact Kd.C_kept_own (HO_1.out) (fun k_ hk_ hs_=>(hk_.1) hs_));(case side4=>exact (Kd.R_reads' HO_1.out).2.1);rintro e w56 ⟨rfl,hy0,hb,hkp⟩;replace HO_0:=Q.a (Kd.R_reok rfl hy0 (fun k_ e_=>HO_0.out.1 k_ e_));replace HO_1:=Q.a (Kd.R_mono (ok':=fun k_=>some k_≠(.slice (some ad216) x0_1.length co21:Value).ownBlock∧some k_≠(.slice Ao24 x9_1.length co24:Value).ownBlock) (Kd.R_keptB (HO_1.out) hkp (fun k_ hk_ hs_=>(hk_.1) hs_)) (fun k_ hk_=>⟨hk_.1.1,hk_.1.2⟩));replace HO_9:=Q.a (Kd.R_mono (ok':=fun k_=>some k_≠(.slice (some ad216) x0_1.length co21:Value).ownBlock∧some k_≠(.slice (some ad206) y200.length co18:Value).ownBlock) (Kd.R_keptB (HO_9.out) hkp (fun k_ hk_ hs_=>(hk_.1) hs_)) (fun k_ hk_=>⟨hk_.1.1,hk_.1.2⟩));replace HB:=Q.a (hb);(try clear hb);(try clear hkp);(try clear hy0);have p55:0≤((ji52):Int):=of_decide_eq_true (by first | (with_reducible assumption) | assumption);have q55:((ji52):Int) < ((x9_1.length:Int):Int):=of_decide_eq_true (by first | (with_reducible assumption) | assumption);obtain ⟨go55,co55,eo55,gb55,gl55,cl55,HG55⟩:=Kd.R_form HO_9.out (by omega);(first | cases eo55 | (injection eo55 with ea_ en_ ec_;(first | subst ea_ | (injection ea_ with ea_;subst ea_));subst ec_;clear en_));have GB55:=Q.a gb55;have GG55:=Q.a HG55;clear gb55 gl55 HG55;obtain ⟨hx55_0,hf55_0⟩:=Kd.R_celln 0 HO_9.out ((ji52):Int) p55 q55;replace p55:=eq_true p55;replace q55:=eq_true q55;obtain ⟨hy57_,hz57_⟩:=Kd.R_celln 0 HO_9.out ((ji52):Int) Q.od Q.od;have HP57:=Kd.R_putg HO_9.out ((ji52):Int) ((IntKind.u64.wrap (x13_2 - 1)) % 4294967296)) | ((with_reducible refine aAp (t:=178) (p:=128) rfl ?_);(try (rw [aAy w56];generalize hq_:World.drewN w56 _=w56;have n0_:=Q.a (Kd.R_at hq_ HO_0.out);have n1_:=Q.a (Kd.R_at hq_ HO_1.out);have n2_:=Q.a (Kd.R_at hq_ HO_9.out);have n3_:=Q.a (aAZ hq_ HB.out);clear hq_ HO_0 HO_1 HO_9 HB;have HO_0:=n0_;have HO_1:=n1_;have HO_9:=n2_;have HB:=n3_;clear n0_ n1_ n2_ n3_;(try (obtain ⟨hy57_,hz57_⟩:=Kd.R_celln 0 HO_9.out ((ji52):Int) Q.od Q.od));(try (have HP57:=Kd.R_putg HO_9.out ((ji52):Int) ((IntKind.u64.wrap (x13_2 - 1)) % 4294967296)))));refine aAm (t:=178) (p:=128) (v:=?vo_w58) (w1:=(w56.setCell ⟨go55,((ji52):Int).toNat,none⟩ (.int .u32 ((IntKind.u64.wrap (x13_2 - 1)) % 4294967296)))) ?hg ?ho ?hn ?hr ?_;(case ho=>rfl);(case hg=>rfl);(case hn=>rfl);(case hr=>first | (go_simp;done) | (go_simp;rfl));intro w58 hw;have hg:w56.grownBy w58 (some go55):=(by rw [hw];exact HP57.2);have hp_:Kd.R (Kd.int .u32) 178 w58 w.heap.size (fun k_=>some k_≠(.slice (some ad216) x0_1.length co21:Value).ownBlock∧some k_≠(.slice (some ad206) y200.length co18:Value).ownBlock) (.slice (some ⟨go55,0,none⟩) x9_1.length co24) y223:=(by rw [hw,Ny223.out];exact HP57.1);clear HP57;replace HO_0:=Q.a (Kd.R_after (v:=(.slice (some ⟨go55,0,none⟩) x9_1.length co24)) (v1:=(.slice (some ⟨go55,0,none⟩) x9_1.length co24)) (ok:=(fun k_=>some k_≠(.slice (some ad206) y200.length co18:Value).ownBlock)) (Q.kr HO_0) hg (.inl rfl));replace HO_1:=Q.a (Kd.R_after (v:=(.slice (some ⟨go55,0,none⟩) x9_1.length co24)) (v1:=(.slice (some ⟨go55,0,none⟩) x9_1.length co24)) (ok:=(fun k_=>some k_≠(.slice (some ad216) x0_1.length co21:Value).ownBlock)) (Q.kr HO_1) hg (.inl rfl));replace HO_9:=Q.a (hp_);replace HB:=Q.a ((by rw [hw];exact aAq (HB.out) GB55.out:Below w.heap.size w w58));clear hg hw hp_)))
                          (try simp only [← hl0_1,← hl9_1])
                          go_roundg kj32
                          case measure=>have:=HK1.out;have:=HK2.out;have:=HJ32.out;omega
                          case rel=>exact ⟨(t221),(y223),(wrap64 (x46_1+1)),Q.rs,H',⟨by have:=HK1.out;have:=HK2.out;have:=HJ32.out;omega⟩,⟨by (try simp only [hl0_1]);(try simp only [hl9_1]);(with_reducible repeat (first | apply Kd.R_alloc | apply Kd.R_drewN | apply Kd.R_drew));exact HO_0.out⟩,⟨by (try simp only [hl0_1]);(try simp only [hl9_1]);(with_reducible repeat (first | apply Kd.R_alloc | apply Kd.R_drewN | apply Kd.R_drew));exact HO_1.out⟩,⟨by (try simp only [hl0_1]);(try simp only [hl9_1]);(with_reducible repeat (first | apply Kd.R_alloc | apply Kd.R_drewN | apply Kd.R_drew));exact HO_9.out⟩,⟨Q.bw HB⟩⟩
                         ·rw [if_neg c54] at H
                          exact absurd H (by simp)
                        ·rw [if_neg c53] at H
                         exact absurd H (by simp)
                      ·rw [if_neg c42] at H
                       have c42b0:decide (4294967295 < (IntKind.u64.wrap (x14_2+(IntKind.u64.wrap ((rd y200 (ji11)))))))=false:=decide_eq_false c42
                       clear c42
                       have H':=Q.a H
                       clear H
                       go_wp2
                       repeat (go_quiet (fail);try go_wp2)
                       go_roundg kj32
                       case measure=>have:=HK1.out;have:=HK2.out;have:=HJ32.out;omega
                       case rel=>exact ⟨(IntKind.u64.wrap (x13_2 - 1)),(IntKind.u64.wrap (x14_2+(IntKind.u64.wrap ((rd y200 (ji11)))))),Q.rs,(by first | rfl | (simp;done) | (simp only [← hji11]<;>(first | rfl | simp)) | (simp [*];done)),H',⟨by have:=HK1.out;have:=HK2.out;have:=HJ32.out;omega⟩,⟨by (try simp only [hl0_1]);(try simp only [hl9_1]);(with_reducible repeat (first | apply Kd.R_alloc | apply Kd.R_drewN | apply Kd.R_drew));exact HO_0.out⟩,⟨by (try simp only [hl0_1]);(try simp only [hl9_1]);(with_reducible repeat (first | apply Kd.R_alloc | apply Kd.R_drewN | apply Kd.R_drew));exact HO_1.out⟩,⟨by (try simp only [hl0_1]);(try simp only [hl9_1]);(with_reducible repeat (first | apply Kd.R_alloc | apply Kd.R_drewN | apply Kd.R_drew));exact HO_9.out⟩,⟨Q.bw HB⟩⟩
                     ·replace c41:=Bool.eq_false_iff.mpr c41
                      subst c41
                      have H1:((nat_take_win.f kj32 x0_1 (wrap64 ((wrap64 ((x9_1.length:Int) - 1)) - x46_1)) (wrap64 ((wrap64 ((wrap64 ((wrap64 ((x9_1.length:Int) - 1)) - x46_1))+(y200.length:Int)))+1)) y200 ((x13_2) % 4294967296)).bind fun bt224=>(if bt224.1=true then (if 0≤(wrap64 ((wrap64 ((x9_1.length:Int) - 1)) - x46_1)) then (if (wrap64 ((wrap64 ((x9_1.length:Int) - 1)) - x46_1)) < (x9_1.length:Int) then (nat_long.l0 kj32 bt224.2 y200 t196 (y200.length:Int) (rd y200 (ji11)) (x9_1.set ((wrap64 ((wrap64 ((x9_1.length:Int) - 1)) - x46_1)):Int).toNat ((IntKind.u64.wrap (x13_2 - 1)) % 4294967296)) (y207.length:Int) (wrap64 (x46_1+1))) else (none)) else (none)) else (if 0≤(wrap64 ((wrap64 ((x9_1.length:Int) - 1)) - x46_1)) then (if (wrap64 ((wrap64 ((x9_1.length:Int) - 1)) - x46_1)) < (x9_1.length:Int) then (nat_long.l0 kj32 bt224.2 y200 t196 (y200.length:Int) (rd y200 (ji11)) (x9_1.set ((wrap64 ((wrap64 ((x9_1.length:Int) - 1)) - x46_1)):Int).toNat ((x13_2) % 4294967296)) (y207.length:Int) (wrap64 (x46_1+1))) else (none)) else (none))))=some (r1,r2):=by rw [if_neg (show ¬ (false=true) by decide)] at H;exact H
                      clear H
                      have H:=H1
                      clear H1
                      replace H:=Option.bind_eq_some_iff.mp H
                      obtain ⟨⟨t224,t225⟩,A590,H⟩:=H
                      try dsimp only at H
                      have A59:=Q.a A590
                      clear A590
                      by_cases c60:t224=true
                      ·subst c60
                       have H1:(if 0≤(wrap64 ((wrap64 ((x9_1.length:Int) - 1)) - x46_1)) then (if (wrap64 ((wrap64 ((x9_1.length:Int) - 1)) - x46_1)) < (x9_1.length:Int) then (nat_long.l0 kj32 t225 y200 t196 (y200.length:Int) (rd y200 (ji11)) (x9_1.set ((wrap64 ((wrap64 ((x9_1.length:Int) - 1)) - x46_1)):Int).toNat ((IntKind.u64.wrap (x13_2 - 1)) % 4294967296)) (y207.length:Int) (wrap64 (x46_1+1))) else (none)) else (none))=some (r1,r2):=by rw [if_pos rfl] at H;exact H
                       clear H
                       have H:=H1
                       clear H1
                       obtain ⟨ji61,hji61⟩:∃ j_:Int,(wrap64 ((wrap64 ((x9_1.length:Int) - 1)) - x46_1))=j_:=⟨_,rfl⟩
                       replace H:(if 0≤(ji61) then (if (ji61) < (x9_1.length:Int) then (nat_long.l0 kj32 t225 y200 t196 (y200.length:Int) (rd y200 (ji11)) (x9_1.set ((ji61):Int).toNat ((IntKind.u64.wrap (x13_2 - 1)) % 4294967296)) (y207.length:Int) (wrap64 (x46_1+1))) else (none)) else (none))=some (r1,r2):=by first | (rw [hji61] at H;exact H) | (simp only [hji61] at H ⊢;exact H)
                       (try rw [hji61] at A59)
                       have hji61w:(IntKind.i64.wrap ((wrap64 ((x9_1.length:Int) - 1)) - x46_1))=ji61:=(aAk _).trans hji61
                       (try (have hji61l:=hji61;simp only [hl0_1,hl9_1] at hji61l))
                       (try (have hji61wl:=hji61w;simp only [hl0_1,hl9_1] at hji61wl))
                       by_cases c62:0≤(ji61)
                       ·rw [if_pos c62] at H
                        have c62b0:decide (0≤(ji61))=true:=decide_eq_true c62
                        clear c62
                        by_cases c63:(ji61) < (x9_1.length:Int)
                        ·rw [if_pos c63] at H
                         have c63b0:decide ((ji61) < (x9_1.length:Int))=true:=decide_eq_true c63
                         (try (have c63b0l:=c63b0;simp only [hl0_1,hl9_1] at c63b0l))
                         clear c63
                         obtain ⟨y226,hy226⟩:∃ y_:List Int,y_=(x9_1.set ((ji61):Int).toNat ((IntKind.u64.wrap (x13_2 - 1)) % 4294967296)):=⟨_,rfl⟩
                         replace H:(nat_long.l0 kj32 t225 y200 t196 (y200.length:Int) (rd y200 (ji11)) y226 (y207.length:Int) (wrap64 (x46_1+1)))=some (r1,r2):=by first | (rw [hy226];with_reducible exact H) | (have H2_:=(Option.bind_some _ _).symm.trans H;rw [hy226];with_reducible exact H2_) | (have H2_:=(Option.bind_some _ _).symm.trans H;with_reducible exact H2_) | with_reducible exact H | (rw [hy226];exact H) | exact H
                         have Ny226:=Q.a hy226
                         clear hy226
                         have H':=Q.a H
                         clear H
                         have hwb_:=nat_take_win.bounds A59.out
                         have hwin_:=XW.run_win 176 178 Tryz.underlying176 aAQ (some ad216) x0_1.length co21 (ji61) (wrap64 ((wrap64 ((ji61)+(y200.length:Int)))+1)) hwb_.1 (Int.le_of_lt hwb_.2.1) (Int.le_trans hwb_.2.2 (Int.ofNat_le.2 (Kd.R_reads' HO_0.out).2.1))
                         clear hwb_
                         go_wp2_with (first | (go_at_call 224;(with_reducible refine (nat_take_win.calls kj32 (fun k_=>some k_=(.slice (some ad216) x0_1.length co21:Value).ownBlock) (.slice (some ad216) x0_1.length co21) x0_1 (ji61) (wrap64 ((wrap64 ((ji61)+(y200.length:Int)))+1)) _ _ y200 ((x13_2) % 4294967296) true t225 w _ ?side1 ?side2 ?side3 ?side4 A59.out).mono ?_);(case side1=>repeat (first | (with_reducible first | exact HB.out | apply aAr | apply aAn | apply aAw) | exact HB.out));(case side2=>exact Kd.R_tight rfl HO_0.out);(case side3=>exact Kd.C_kept_own (HO_1.out) (fun k_ hk_ hs_=>(hk_.1) hs_));(case side4=>exact (Kd.R_reads' HO_1.out).2.1);rintro e w65 ⟨rfl,hy0,hb,hkp⟩;replace HO_0:=Q.a (Kd.R_reok rfl hy0 (fun k_ e_=>HO_0.out.1 k_ e_));replace HO_1:=Q.a (Kd.R_mono (ok':=fun k_=>some k_≠(.slice (some ad216) x0_1.length co21:Value).ownBlock∧some k_≠(.slice Ao24 x9_1.length co24:Value).ownBlock) (Kd.R_keptB (HO_1.out) hkp (fun k_ hk_ hs_=>(hk_.1) hs_)) (fun k_ hk_=>⟨hk_.1.1,hk_.1.2⟩));replace HO_9:=Q.a (Kd.R_mono (ok':=fun k_=>some k_≠(.slice (some ad216) x0_1.length co21:Value).ownBlock∧some k_≠(.slice (some ad206) y200.length co18:Value).ownBlock) (Kd.R_keptB (HO_9.out) hkp (fun k_ hk_ hs_=>(hk_.1) hs_)) (fun k_ hk_=>⟨hk_.1.1,hk_.1.2⟩));replace HB:=Q.a (hb);(try clear hb);(try clear hkp);(try clear hy0);have p64:0≤((ji61):Int):=of_decide_eq_true (by first | (with_reducible assumption) | assumption);have q64:((ji61):Int) < ((x9_1.length:Int):Int):=of_decide_eq_true (by first | (with_reducible assumption) | assumption);obtain ⟨go64,co64,eo64,gb64,gl64,cl64,HG64⟩:=Kd.R_form HO_9.out (by omega);(first | cases eo64 | (injection eo64 with ea_ en_ ec_;(first | subst ea_ | (injection ea_ with ea_;subst ea_));subst ec_;clear en_));have GB64:=Q.a gb64;have GG64:=Q.a HG64;clear gb64 gl64 HG64;obtain ⟨hx64_0,hf64_0⟩:=Kd.R_celln 0 HO_9.out ((ji61):Int) p64 q64;replace p64:=eq_true p64;replace q64:=eq_true q64;obtain ⟨hy66_,hz66_⟩:=Kd.R_celln 0 HO_9.out ((ji61):Int) Q.od Q.od;have HP66:=Kd.R_putg HO_9.out ((ji61):Int) ((IntKind.u64.wrap (x13_2 - 1)) % 4294967296)) | ((with_reducible refine aAp (t:=178) (p:=128) rfl ?_);(try (rw [aAy w65];generalize hq_:World.drewN w65 _=w65;have n0_:=Q.a (Kd.R_at hq_ HO_0.out);have n1_:=Q.a (Kd.R_at hq_ HO_1.out);have n2_:=Q.a (Kd.R_at hq_ HO_9.out);have n3_:=Q.a (aAZ hq_ HB.out);clear hq_ HO_0 HO_1 HO_9 HB;have HO_0:=n0_;have HO_1:=n1_;have HO_9:=n2_;have HB:=n3_;clear n0_ n1_ n2_ n3_;(try (obtain ⟨hy66_,hz66_⟩:=Kd.R_celln 0 HO_9.out ((ji61):Int) Q.od Q.od));(try (have HP66:=Kd.R_putg HO_9.out ((ji61):Int) ((IntKind.u64.wrap (x13_2 - 1)) % 4294967296)))));refine aAm (t:=178) (p:=128) (v:=?vo_w67) (w1:=(w65.setCell ⟨go64,((ji61):Int).toNat,none⟩ (.int .u32 ((IntKind.u64.wrap (x13_2 - 1)) % 4294967296)))) ?hg ?ho ?hn ?hr ?_;(case ho=>rfl);(case hg=>rfl);(case hn=>rfl);(case hr=>first | (go_simp;done) | (go_simp;rfl));intro w67 hw;have hg:w65.grownBy w67 (some go64):=(by rw [hw];exact HP66.2);have hp_:Kd.R (Kd.int .u32) 178 w67 w.heap.size (fun k_=>some k_≠(.slice (some ad216) x0_1.length co21:Value).ownBlock∧some k_≠(.slice (some ad206) y200.length co18:Value).ownBlock) (.slice (some ⟨go64,0,none⟩) x9_1.length co24) y226:=(by rw [hw,Ny226.out];exact HP66.1);clear HP66;replace HO_0:=Q.a (Kd.R_after (v:=(.slice (some ⟨go64,0,none⟩) x9_1.length co24)) (v1:=(.slice (some ⟨go64,0,none⟩) x9_1.length co24)) (ok:=(fun k_=>some k_≠(.slice (some ad206) y200.length co18:Value).ownBlock)) (Q.kr HO_0) hg (.inl rfl));replace HO_1:=Q.a (Kd.R_after (v:=(.slice (some ⟨go64,0,none⟩) x9_1.length co24)) (v1:=(.slice (some ⟨go64,0,none⟩) x9_1.length co24)) (ok:=(fun k_=>some k_≠(.slice (some ad216) x0_1.length co21:Value).ownBlock)) (Q.kr HO_1) hg (.inl rfl));replace HO_9:=Q.a (hp_);replace HB:=Q.a ((by rw [hw];exact aAq (HB.out) GB64.out:Below w.heap.size w w67));clear hg hw hp_))
                         repeat (go_quiet (first | (go_at_call 224;(with_reducible refine (nat_take_win.calls kj32 (fun k_=>some k_=(.slice (some ad216) x0_1.length co21:Value).ownBlock) (.slice (some ad216) x0_1.length co21) x0_1 (ji61) (wrap64 ((wrap64 ((ji61)+(y200.length:Int)))+1)) _ _ y200 ((x13_2) % 4294967296) true t225 w _ ?side1 ?side2 ?side3 ?side4 A59.out).mono ?_);(case side1=>repeat (first | (with_reducible first | exact HB.out | apply aAr | apply aAn | apply aAw) | exact HB.out));(case side2=>exact Kd.R_tight rfl HO_0.out);(case side3=>exact Kd.C_kept_own (HO_1.out) (fun k_ hk_ hs_=>(hk_.1) hs_));(case side4=>exact (Kd.R_reads' HO_1.out).2.1);rintro e w65 ⟨rfl,hy0,hb,hkp⟩;replace HO_0:=Q.a (Kd.R_reok rfl hy0 (fun k_ e_=>HO_0.out.1 k_ e_));replace HO_1:=Q.a (Kd.R_mono (ok':=fun k_=>some k_≠(.slice (some ad216) x0_1.length co21:Value).ownBlock∧some k_≠(.slice Ao24 x9_1.length co24:Value).ownBlock) (Kd.R_keptB (HO_1.out) hkp (fun k_ hk_ hs_=>(hk_.1) hs_)) (fun k_ hk_=>⟨hk_.1.1,hk_.1.2⟩));replace HO_9:=Q.a (Kd.R_mono (ok':=fun k_=>some k_≠(.slice (some ad216) x0_1.length co21:Value).ownBlock∧some k_≠(.slice (some ad206) y200.length co18:Value).ownBlock) (Kd.R_keptB (HO_9.out) hkp (fun k_ hk_ hs_=>(hk_.1) hs_)) (fun k_ hk_=>⟨hk_.1.1,hk_.1.2⟩));replace HB:=Q.a (hb);(try clear hb);(try clear hkp);(try clear hy0);have p64:0≤((ji61):Int):=of_decide_eq_true (by first | (with_reducible assumption) | assumption);have q64:((ji61):Int) < ((x9_1.length:Int):Int):=of_decide_eq_true (by first | (with_reducible assumption) | assumption);obtain ⟨go64,co64,eo64,gb64,gl64,cl64,HG64⟩:=Kd.R_form HO_9.out (by omega);(first | cases eo64 | (injection eo64 with ea_ en_ ec_;(first | subst ea_ | (injection ea_ with ea_;subst ea_));subst ec_;clear en_));have GB64:=Q.a gb64;have GG64:=Q.a HG64;clear gb64 gl64 HG64;obtain ⟨hx64_0,hf64_0⟩:=Kd.R_celln 0 HO_9.out ((ji61):Int) p64 q64;replace p64:=eq_true p64;replace q64:=eq_true q64;obtain ⟨hy66_,hz66_⟩:=Kd.R_celln 0 HO_9.out ((ji61):Int) Q.od Q.od;have HP66:=Kd.R_putg HO_9.out ((ji61):Int) ((IntKind.u64.wrap (x13_2 - 1)) % 4294967296)) | ((with_reducible refine aAp (t:=178) (p:=128) rfl ?_);(try (rw [aAy w65];generalize hq_:World.drewN w65 _=w65;have n0_:=Q.a (Kd.R_at hq_ HO_0.out);have n1_:=Q.a (Kd.R_at hq_ HO_1.out);have n2_:=Q.a (Kd.R_at hq_ HO_9.out);have n3_:=Q.a (aAZ hq_ HB.out);clear hq_ HO_0 HO_1 HO_9 HB;have HO_0:=n0_;have HO_1:=n1_;have HO_9:=n2_;have HB:=n3_;clear n0_ n1_ n2_ n3_;(try (obtain ⟨hy66_,hz66_⟩:=Kd.R_celln 0 HO_9.out ((ji61):Int) Q.od Q.od));(try (have HP66:=Kd.R_putg HO_9.out ((ji61):Int) ((IntKind.u64.wrap (x13_2 - 1)) % 4294967296)))));refine aAm (t:=178) (p:=128) (v:=?vo_w67) (w1:=(w65.setCell ⟨go64,((ji61):Int).toNat,none⟩ (.int .u32 ((IntKind.u64.wrap (x13_2 - 1)) % 4294967296)))) ?hg ?ho ?hn ?hr ?_;(case ho=>rfl);(case hg=>rfl);(case hn=>rfl);(case hr=>first | (go_simp;done) | (go_simp;rfl));intro w67 hw;have hg:w65.grownBy w67 (some go64):=(by rw [hw];exact HP66.2);have hp_:Kd.R (Kd.int .u32) 178 w67 w.heap.size (fun k_=>some k_≠(.slice (some ad216) x0_1.length co21:Value).ownBlock∧some k_≠(.slice (some ad206) y200.length co18:Value).ownBlock) (.slice (some ⟨go64,0,none⟩) x9_1.length co24) y226:=(by rw [hw,Ny226.out];exact HP66.1);clear HP66;replace HO_0:=Q.a (Kd.R_after (v:=(.slice (some ⟨go64,0,none⟩) x9_1.length co24)) (v1:=(.slice (some ⟨go64,0,none⟩) x9_1.length co24)) (ok:=(fun k_=>some k_≠(.slice (some ad206) y200.length co18:Value).ownBlock)) (Q.kr HO_0) hg (.inl rfl));replace HO_1:=Q.a (Kd.R_after (v:=(.slice (some ⟨go64,0,none⟩) x9_1.length co24)) (v1:=(.slice (some ⟨go64,0,none⟩) x9_1.length co24)) (ok:=(fun k_=>some k_≠(.slice (some ad216) x0_1.length co21:Value).ownBlock)) (Q.kr HO_1) hg (.inl rfl));replace HO_9:=Q.a (hp_);replace HB:=Q.a ((by rw [hw];exact aAq (HB.out) GB64.out:Below w.heap.size w w67));clear hg hw hp_));try go_wp2_with (first | (go_at_call 224;(with_reducible refine (nat_take_win.calls kj32 (fun k_=>some k_=(.slice (some ad216) x0_1.length co21:Value).ownBlock) (.slice (some ad216) x0_1.length co21) x0_1 (ji61) (wrap64 ((wrap64 ((ji61)+(y200.length:Int)))+1)) _ _ y200 ((x13_2) % 4294967296) true t225 w _ ?side1 ?side2 ?side3 ?side4 A59.out).mono ?_);(case side1=>repeat (first | (with_reducible first | exact HB.out | apply aAr | apply aAn | apply aAw) | exact HB.out));(case side2=>exact Kd.R_tight rfl HO_0.out);(case side3=>exact Kd.C_kept_own (HO_1.out) (fun k_ hk_ hs_=>(hk_.1) hs_));(case side4=>exact (Kd.R_reads' HO_1.out).2.1);rintro e w65 ⟨rfl,hy0,hb,hkp⟩;replace HO_0:=Q.a (Kd.R_reok rfl hy0 (fun k_ e_=>HO_0.out.1 k_ e_));replace HO_1:=Q.a (Kd.R_mono (ok':=fun k_=>some k_≠(.slice (some ad216) x0_1.length co21:Value).ownBlock∧some k_≠(.slice Ao24 x9_1.length co24:Value).ownBlock) (Kd.R_keptB (HO_1.out) hkp (fun k_ hk_ hs_=>(hk_.1) hs_)) (fun k_ hk_=>⟨hk_.1.1,hk_.1.2⟩));replace HO_9:=Q.a (Kd.R_mono (ok':=fun k_=>some k_≠(.slice (some ad216) x0_1.length co21:Value).ownBlock∧some k_≠(.slice (some ad206) y200.length co18:Value).ownBlock) (Kd.R_keptB (HO_9.out) hkp (fun k_ hk_ hs_=>(hk_.1) hs_)) (fun k_ hk_=>⟨hk_.1.1,hk_.1.2⟩));replace HB:=Q.a (hb);(try clear hb);(try clear hkp);(try clear hy0);have p64:0≤((ji61):Int):=of_decide_eq_true (by first | (with_reducible assumption) | assumption);have q64:((ji61):Int) < ((x9_1.length:Int):Int):=of_decide_eq_true (by first | (with_reducible assumption) | assumption);obtain ⟨go64,co64,eo64,gb64,gl64,cl64,HG64⟩:=Kd.R_form HO_9.out (by omega);(first | cases eo64 | (injection eo64 with ea_ en_ ec_;(first | subst ea_ | (injection ea_ with ea_;subst ea_));subst ec_;clear en_));have GB64:=Q.a gb64;have GG64:=Q.a HG64;clear gb64 gl64 HG64;obtain ⟨hx64_0,hf64_0⟩:=Kd.R_celln 0 HO_9.out ((ji61):Int) p64 q64;replace p64:=eq_true p64;replace q64:=eq_true q64;obtain ⟨hy66_,hz66_⟩:=Kd.R_celln 0 HO_9.out ((ji61):Int) Q.od Q.od;have HP66:=Kd.R_putg HO_9.out ((ji61):Int) ((IntKind.u64.wrap (x13_2 - 1)) % 4294967296)) | ((with_reducible refine aAp (t:=178) (p:=128) rfl ?_);(try (rw [aAy w65];generalize hq_:World.drewN w65 _=w65;have n0_:=Q.a (Kd.R_at hq_ HO_0.out);have n1_:=Q.a (Kd.R_at hq_ HO_1.out);have n2_:=Q.a (Kd.R_at hq_ HO_9.out);have n3_:=Q.a (aAZ hq_ HB.out);clear hq_ HO_0 HO_1 HO_9 HB;have HO_0:=n0_;have HO_1:=n1_;have HO_9:=n2_;have HB:=n3_;clear n0_ n1_ n2_ n3_;(try (obtain ⟨hy66_,hz66_⟩:=Kd.R_celln 0 HO_9.out ((ji61):Int) Q.od Q.od));(try (have HP66:=Kd.R_putg HO_9.out ((ji61):Int) ((IntKind.u64.wrap (x13_2 - 1)) % 4294967296)))));refine aAm (t:=178) (p:=128) (v:=?vo_w67) (w1:=(w65.setCell ⟨go64,((ji61):Int).toNat,none⟩ (.int .u32 ((IntKind.u64.wrap (x13_2 - 1)) % 4294967296)))) ?hg ?ho ?hn ?hr ?_;(case ho=>rfl);(case hg=>rfl);(case hn=>rfl);(case hr=>first | (go_simp;done) | (go_simp;rfl));intro w67 hw;have hg:w65.grownBy w67 (some go64):=(by rw [hw];exact HP66.2);have hp_:Kd.R (Kd.int .u32) 178 w67 w.heap.size (fun k_=>some k_≠(.slice (some ad216) x0_1.length co21:Value).ownBlock∧some k_≠(.slice (some ad206) y200.length co18:Value).ownBlock) (.slice (some ⟨go64,0,none⟩) x9_1.length co24) y226:=(by rw [hw,Ny226.out];exact HP66.1);clear HP66;replace HO_0:=Q.a (Kd.R_after (v:=(.slice (some ⟨go64,0,none⟩) x9_1.length co24)) (v1:=(.slice (some ⟨go64,0,none⟩) x9_1.length co24)) (ok:=(fun k_=>some k_≠(.slice (some ad206) y200.length co18:Value).ownBlock)) (Q.kr HO_0) hg (.inl rfl));replace HO_1:=Q.a (Kd.R_after (v:=(.slice (some ⟨go64,0,none⟩) x9_1.length co24)) (v1:=(.slice (some ⟨go64,0,none⟩) x9_1.length co24)) (ok:=(fun k_=>some k_≠(.slice (some ad216) x0_1.length co21:Value).ownBlock)) (Q.kr HO_1) hg (.inl rfl));replace HO_9:=Q.a (hp_);replace HB:=Q.a ((by rw [hw];exact aAq (HB.out) GB64.out:Below w.heap.size w w67));clear hg hw hp_)))
                         (try simp only [← hl0_1,← hl9_1])
                         go_roundg kj32
                         case measure=>have:=HK1.out;have:=HK2.out;have:=HJ32.out;omega
                         case rel=>exact ⟨(t225),(y226),(wrap64 (x46_1+1)),Q.rs,H',⟨by have:=HK1.out;have:=HK2.out;have:=HJ32.out;omega⟩,⟨by (try simp only [hl0_1]);(try simp only [hl9_1]);(with_reducible repeat (first | apply Kd.R_alloc | apply Kd.R_drewN | apply Kd.R_drew));exact HO_0.out⟩,⟨by (try simp only [hl0_1]);(try simp only [hl9_1]);(with_reducible repeat (first | apply Kd.R_alloc | apply Kd.R_drewN | apply Kd.R_drew));exact HO_1.out⟩,⟨by (try simp only [hl0_1]);(try simp only [hl9_1]);(with_reducible repeat (first | apply Kd.R_alloc | apply Kd.R_drewN | apply Kd.R_drew));exact HO_9.out⟩,⟨Q.bw HB⟩⟩
                        ·rw [if_neg c63] at H
                         exact absurd H (by simp)
                       ·rw [if_neg c62] at H
                        exact absurd H (by simp)
                      ·replace c60:=Bool.eq_false_iff.mpr c60
                       subst c60
                       have H1:(if 0≤(wrap64 ((wrap64 ((x9_1.length:Int) - 1)) - x46_1)) then (if (wrap64 ((wrap64 ((x9_1.length:Int) - 1)) - x46_1)) < (x9_1.length:Int) then (nat_long.l0 kj32 t225 y200 t196 (y200.length:Int) (rd y200 (ji11)) (x9_1.set ((wrap64 ((wrap64 ((x9_1.length:Int) - 1)) - x46_1)):Int).toNat ((x13_2) % 4294967296)) (y207.length:Int) (wrap64 (x46_1+1))) else (none)) else (none))=some (r1,r2):=by rw [if_neg (show ¬ (false=true) by decide)] at H;exact H
                       clear H
                       have H:=H1
                       clear H1
                       obtain ⟨ji68,hji68⟩:∃ j_:Int,(wrap64 ((wrap64 ((x9_1.length:Int) - 1)) - x46_1))=j_:=⟨_,rfl⟩
                       replace H:(if 0≤(ji68) then (if (ji68) < (x9_1.length:Int) then (nat_long.l0 kj32 t225 y200 t196 (y200.length:Int) (rd y200 (ji11)) (x9_1.set ((ji68):Int).toNat ((x13_2) % 4294967296)) (y207.length:Int) (wrap64 (x46_1+1))) else (none)) else (none))=some (r1,r2):=by first | (rw [hji68] at H;exact H) | (simp only [hji68] at H ⊢;exact H)
                       (try rw [hji68] at A59)
                       have hji68w:(IntKind.i64.wrap ((wrap64 ((x9_1.length:Int) - 1)) - x46_1))=ji68:=(aAk _).trans hji68
                       (try (have hji68l:=hji68;simp only [hl0_1,hl9_1] at hji68l))
                       (try (have hji68wl:=hji68w;simp only [hl0_1,hl9_1] at hji68wl))
                       by_cases c69:0≤(ji68)
                       ·rw [if_pos c69] at H
                        have c69b0:decide (0≤(ji68))=true:=decide_eq_true c69
                        clear c69
                        by_cases c70:(ji68) < (x9_1.length:Int)
                        ·rw [if_pos c70] at H
                         have c70b0:decide ((ji68) < (x9_1.length:Int))=true:=decide_eq_true c70
                         (try (have c70b0l:=c70b0;simp only [hl0_1,hl9_1] at c70b0l))
                         clear c70
                         obtain ⟨y227,hy227⟩:∃ y_:List Int,y_=(x9_1.set ((ji68):Int).toNat ((x13_2) % 4294967296)):=⟨_,rfl⟩
                         replace H:(nat_long.l0 kj32 t225 y200 t196 (y200.length:Int) (rd y200 (ji11)) y227 (y207.length:Int) (wrap64 (x46_1+1)))=some (r1,r2):=by first | (rw [hy227];with_reducible exact H) | (have H2_:=(Option.bind_some _ _).symm.trans H;rw [hy227];with_reducible exact H2_) | (have H2_:=(Option.bind_some _ _).symm.trans H;with_reducible exact H2_) | with_reducible exact H | (rw [hy227];exact H) | exact H
                         have Ny227:=Q.a hy227
                         clear hy227
                         have H':=Q.a H
                         clear H
                         have hwb_:=nat_take_win.bounds A59.out
                         have hwin_:=XW.run_win 176 178 Tryz.underlying176 aAQ (some ad216) x0_1.length co21 (ji68) (wrap64 ((wrap64 ((ji68)+(y200.length:Int)))+1)) hwb_.1 (Int.le_of_lt hwb_.2.1) (Int.le_trans hwb_.2.2 (Int.ofNat_le.2 (Kd.R_reads' HO_0.out).2.1))
                         clear hwb_
                         go_wp2_with (first | (go_at_call 224;(with_reducible refine (nat_take_win.calls kj32 (fun k_=>some k_=(.slice (some ad216) x0_1.length co21:Value).ownBlock) (.slice (some ad216) x0_1.length co21) x0_1 (ji68) (wrap64 ((wrap64 ((ji68)+(y200.length:Int)))+1)) _ _ y200 ((x13_2) % 4294967296) false t225 w _ ?side1 ?side2 ?side3 ?side4 A59.out).mono ?_);(case side1=>repeat (first | (with_reducible first | exact HB.out | apply aAr | apply aAn | apply aAw) | exact HB.out));(case side2=>exact Kd.R_tight rfl HO_0.out);(case side3=>exact Kd.C_kept_own (HO_1.out) (fun k_ hk_ hs_=>(hk_.1) hs_));(case side4=>exact (Kd.R_reads' HO_1.out).2.1);rintro e w72 ⟨rfl,hy0,hb,hkp⟩;replace HO_0:=Q.a (Kd.R_reok rfl hy0 (fun k_ e_=>HO_0.out.1 k_ e_));replace HO_1:=Q.a (Kd.R_mono (ok':=fun k_=>some k_≠(.slice (some ad216) x0_1.length co21:Value).ownBlock∧some k_≠(.slice Ao24 x9_1.length co24:Value).ownBlock) (Kd.R_keptB (HO_1.out) hkp (fun k_ hk_ hs_=>(hk_.1) hs_)) (fun k_ hk_=>⟨hk_.1.1,hk_.1.2⟩));replace HO_9:=Q.a (Kd.R_mono (ok':=fun k_=>some k_≠(.slice (some ad216) x0_1.length co21:Value).ownBlock∧some k_≠(.slice (some ad206) y200.length co18:Value).ownBlock) (Kd.R_keptB (HO_9.out) hkp (fun k_ hk_ hs_=>(hk_.1) hs_)) (fun k_ hk_=>⟨hk_.1.1,hk_.1.2⟩));replace HB:=Q.a (hb);(try clear hb);(try clear hkp);(try clear hy0);have p71:0≤((ji68):Int):=of_decide_eq_true (by first | (with_reducible assumption) | assumption);have q71:((ji68):Int) < ((x9_1.length:Int):Int):=of_decide_eq_true (by first | (with_reducible assumption) | assumption);obtain ⟨go71,co71,eo71,gb71,gl71,cl71,HG71⟩:=Kd.R_form HO_9.out (by omega);(first | cases eo71 | (injection eo71 with ea_ en_ ec_;(first | subst ea_ | (injection ea_ with ea_;subst ea_));subst ec_;clear en_));have GB71:=Q.a gb71;have GG71:=Q.a HG71;clear gb71 gl71 HG71;obtain ⟨hx71_0,hf71_0⟩:=Kd.R_celln 0 HO_9.out ((ji68):Int) p71 q71;replace p71:=eq_true p71;replace q71:=eq_true q71;obtain ⟨hy73_,hz73_⟩:=Kd.R_celln 0 HO_9.out ((ji68):Int) Q.od Q.od;have HP73:=Kd.R_putg HO_9.out ((ji68):Int) ((x13_2) % 4294967296)) | ((with_reducible refine aAp (t:=178) (p:=128) rfl ?_);(try (rw [aAy w72];generalize hq_:World.drewN w72 _=w72;have n0_:=Q.a (Kd.R_at hq_ HO_0.out);have n1_:=Q.a (Kd.R_at hq_ HO_1.out);have n2_:=Q.a (Kd.R_at hq_ HO_9.out);have n3_:=Q.a (aAZ hq_ HB.out);clear hq_ HO_0 HO_1 HO_9 HB;have HO_0:=n0_;have HO_1:=n1_;have HO_9:=n2_;have HB:=n3_;clear n0_ n1_ n2_ n3_;(try (obtain ⟨hy73_,hz73_⟩:=Kd.R_celln 0 HO_9.out ((ji68):Int) Q.od Q.od));(try (have HP73:=Kd.R_putg HO_9.out ((ji68):Int) ((x13_2) % 4294967296)))));refine aAm (t:=178) (p:=128) (v:=?vo_w74) (w1:=(w72.setCell ⟨go71,((ji68):Int).toNat,none⟩ (.int .u32 ((x13_2) % 4294967296)))) ?hg ?ho ?hn ?hr ?_;(case ho=>rfl);(case hg=>rfl);(case hn=>rfl);(case hr=>first | (go_simp;done) | (go_simp;rfl));intro w74 hw;have hg:w72.grownBy w74 (some go71):=(by rw [hw];exact HP73.2);have hp_:Kd.R (Kd.int .u32) 178 w74 w.heap.size (fun k_=>some k_≠(.slice (some ad216) x0_1.length co21:Value).ownBlock∧some k_≠(.slice (some ad206) y200.length co18:Value).ownBlock) (.slice (some ⟨go71,0,none⟩) x9_1.length co24) y227:=(by rw [hw,Ny227.out];exact HP73.1);clear HP73;replace HO_0:=Q.a (Kd.R_after (v:=(.slice (some ⟨go71,0,none⟩) x9_1.length co24)) (v1:=(.slice (some ⟨go71,0,none⟩) x9_1.length co24)) (ok:=(fun k_=>some k_≠(.slice (some ad206) y200.length co18:Value).ownBlock)) (Q.kr HO_0) hg (.inl rfl));replace HO_1:=Q.a (Kd.R_after (v:=(.slice (some ⟨go71,0,none⟩) x9_1.length co24)) (v1:=(.slice (some ⟨go71,0,none⟩) x9_1.length co24)) (ok:=(fun k_=>some k_≠(.slice (some ad216) x0_1.length co21:Value).ownBlock)) (Q.kr HO_1) hg (.inl rfl));replace HO_9:=Q.a (hp_);replace HB:=Q.a ((by rw [hw];exact aAq (HB.out) GB71.out:Below w.heap.size w w74));clear hg hw hp_))
                         repeat (go_quiet (first | (go_at_call 224;(with_reducible refine (nat_take_win.calls kj32 (fun k_=>some k_=(.slice (some ad216) x0_1.length co21:Value).ownBlock) (.slice (some ad216) x0_1.length co21) x0_1 (ji68) (wrap64 ((wrap64 ((ji68)+(y200.length:Int)))+1)) _ _ y200 ((x13_2) % 4294967296) false t225 w _ ?side1 ?side2 ?side3 ?side4 A59.out).mono ?_);(case side1=>repeat (first | (with_reducible first | exact HB.out | apply aAr | apply aAn | apply aAw) | exact HB.out));(case side2=>exact Kd.R_tight rfl HO_0.out);(case side3=>exact Kd.C_kept_own (HO_1.out) (fun k_ hk_ hs_=>(hk_.1) hs_));(case side4=>exact (Kd.R_reads' HO_1.out).2.1);rintro e w72 ⟨rfl,hy0,hb,hkp⟩;replace HO_0:=Q.a (Kd.R_reok rfl hy0 (fun k_ e_=>HO_0.out.1 k_ e_));replace HO_1:=Q.a (Kd.R_mono (ok':=fun k_=>some k_≠(.slice (some ad216) x0_1.length co21:Value).ownBlock∧some k_≠(.slice Ao24 x9_1.length co24:Value).ownBlock) (Kd.R_keptB (HO_1.out) hkp (fun k_ hk_ hs_=>(hk_.1) hs_)) (fun k_ hk_=>⟨hk_.1.1,hk_.1.2⟩));replace HO_9:=Q.a (Kd.R_mono (ok':=fun k_=>some k_≠(.slice (some ad216) x0_1.length co21:Value).ownBlock∧some k_≠(.slice (some ad206) y200.length co18:Value).ownBlock) (Kd.R_keptB (HO_9.out) hkp (fun k_ hk_ hs_=>(hk_.1) hs_)) (fun k_ hk_=>⟨hk_.1.1,hk_.1.2⟩));replace HB:=Q.a (hb);(try clear hb);(try clear hkp);(try clear hy0);have p71:0≤((ji68):Int):=of_decide_eq_true (by first | (with_reducible assumption) | assumption);have q71:((ji68):Int) < ((x9_1.length:Int):Int):=of_decide_eq_true (by first | (with_reducible assumption) | assumption);obtain ⟨go71,co71,eo71,gb71,gl71,cl71,HG71⟩:=Kd.R_form HO_9.out (by omega);(first | cases eo71 | (injection eo71 with ea_ en_ ec_;(first | subst ea_ | (injection ea_ with ea_;subst ea_));subst ec_;clear en_));have GB71:=Q.a gb71;have GG71:=Q.a HG71;clear gb71 gl71 HG71;obtain ⟨hx71_0,hf71_0⟩:=Kd.R_celln 0 HO_9.out ((ji68):Int) p71 q71;replace p71:=eq_true p71;replace q71:=eq_true q71;obtain ⟨hy73_,hz73_⟩:=Kd.R_celln 0 HO_9.out ((ji68):Int) Q.od Q.od;have HP73:=Kd.R_putg HO_9.out ((ji68):Int) ((x13_2) % 4294967296)) | ((with_reducible refine aAp (t:=178) (p:=128) rfl ?_);(try (rw [aAy w72];generalize hq_:World.drewN w72 _=w72;have n0_:=Q.a (Kd.R_at hq_ HO_0.out);have n1_:=Q.a (Kd.R_at hq_ HO_1.out);have n2_:=Q.a (Kd.R_at hq_ HO_9.out);have n3_:=Q.a (aAZ hq_ HB.out);clear hq_ HO_0 HO_1 HO_9 HB;have HO_0:=n0_;have HO_1:=n1_;have HO_9:=n2_;have HB:=n3_;clear n0_ n1_ n2_ n3_;(try (obtain ⟨hy73_,hz73_⟩:=Kd.R_celln 0 HO_9.out ((ji68):Int) Q.od Q.od));(try (have HP73:=Kd.R_putg HO_9.out ((ji68):Int) ((x13_2) % 4294967296)))));refine aAm (t:=178) (p:=128) (v:=?vo_w74) (w1:=(w72.setCell ⟨go71,((ji68):Int).toNat,none⟩ (.int .u32 ((x13_2) % 4294967296)))) ?hg ?ho ?hn ?hr ?_;(case ho=>rfl);(case hg=>rfl);(case hn=>rfl);(case hr=>first | (go_simp;done) | (go_simp;rfl));intro w74 hw;have hg:w72.grownBy w74 (some go71):=(by rw [hw];exact HP73.2);have hp_:Kd.R (Kd.int .u32) 178 w74 w.heap.size (fun k_=>some k_≠(.slice (some ad216) x0_1.length co21:Value).ownBlock∧some k_≠(.slice (some ad206) y200.length co18:Value).ownBlock) (.slice (some ⟨go71,0,none⟩) x9_1.length co24) y227:=(by rw [hw,Ny227.out];exact HP73.1);clear HP73;replace HO_0:=Q.a (Kd.R_after (v:=(.slice (some ⟨go71,0,none⟩) x9_1.length co24)) (v1:=(.slice (some ⟨go71,0,none⟩) x9_1.length co24)) (ok:=(fun k_=>some k_≠(.slice (some ad206) y200.length co18:Value).ownBlock)) (Q.kr HO_0) hg (.inl rfl));replace HO_1:=Q.a (Kd.R_after (v:=(.slice (some ⟨go71,0,none⟩) x9_1.length co24)) (v1:=(.slice (some ⟨go71,0,none⟩) x9_1.length co24)) (ok:=(fun k_=>some k_≠(.slice (some ad216) x0_1.length co21:Value).ownBlock)) (Q.kr HO_1) hg (.inl rfl));replace HO_9:=Q.a (hp_);replace HB:=Q.a ((by rw [hw];exact aAq (HB.out) GB71.out:Below w.heap.size w w74));clear hg hw hp_));try go_wp2_with (first | (go_at_call 224;(with_reducible refine (nat_take_win.calls kj32 (fun k_=>some k_=(.slice (some ad216) x0_1.length co21:Value).ownBlock) (.slice (some ad216) x0_1.length co21) x0_1 (ji68) (wrap64 ((wrap64 ((ji68)+(y200.length:Int)))+1)) _ _ y200 ((x13_2) % 4294967296) false t225 w _ ?side1 ?side2 ?side3 ?side4 A59.out).mono ?_);(case side1=>repeat (first | (with_reducible first | exact HB.out | apply aAr | apply aAn | apply aAw) | exact HB.out));(case side2=>exact Kd.R_tight rfl HO_0.out);(case side3=>exact Kd.C_kept_own (HO_1.out) (fun k_ hk_ hs_=>(hk_.1) hs_));(case side4=>exact (Kd.R_reads' HO_1.out).2.1);rintro e w72 ⟨rfl,hy0,hb,hkp⟩;replace HO_0:=Q.a (Kd.R_reok rfl hy0 (fun k_ e_=>HO_0.out.1 k_ e_));replace HO_1:=Q.a (Kd.R_mono (ok':=fun k_=>some k_≠(.slice (some ad216) x0_1.length co21:Value).ownBlock∧some k_≠(.slice Ao24 x9_1.length co24:Value).ownBlock) (Kd.R_keptB (HO_1.out) hkp (fun k_ hk_ hs_=>(hk_.1) hs_)) (fun k_ hk_=>⟨hk_.1.1,hk_.1.2⟩));replace HO_9:=Q.a (Kd.R_mono (ok':=fun k_=>some k_≠(.slice (some ad216) x0_1.length co21:Value).ownBlock∧some k_≠(.slice (some ad206) y200.length co18:Value).ownBlock) (Kd.R_keptB (HO_9.out) hkp (fun k_ hk_ hs_=>(hk_.1) hs_)) (fun k_ hk_=>⟨hk_.1.1,hk_.1.2⟩));replace HB:=Q.a (hb);(try clear hb);(try clear hkp);(try clear hy0);have p71:0≤((ji68):Int):=of_decide_eq_true (by first | (with_reducible assumption) | assumption);have q71:((ji68):Int) < ((x9_1.length:Int):Int):=of_decide_eq_true (by first | (with_reducible assumption) | assumption);obtain ⟨go71,co71,eo71,gb71,gl71,cl71,HG71⟩:=Kd.R_form HO_9.out (by omega);(first | cases eo71 | (injection eo71 with ea_ en_ ec_;(first | subst ea_ | (injection ea_ with ea_;subst ea_));subst ec_;clear en_));have GB71:=Q.a gb71;have GG71:=Q.a HG71;clear gb71 gl71 HG71;obtain ⟨hx71_0,hf71_0⟩:=Kd.R_celln 0 HO_9.out ((ji68):Int) p71 q71;replace p71:=eq_true p71;replace q71:=eq_true q71;obtain ⟨hy73_,hz73_⟩:=Kd.R_celln 0 HO_9.out ((ji68):Int) Q.od Q.od;have HP73:=Kd.R_putg HO_9.out ((ji68):Int) ((x13_2) % 4294967296)) | ((with_reducible refine aAp (t:=178) (p:=128) rfl ?_);(try (rw [aAy w72];generalize hq_:World.drewN w72 _=w72;have n0_:=Q.a (Kd.R_at hq_ HO_0.out);have n1_:=Q.a (Kd.R_at hq_ HO_1.out);have n2_:=Q.a (Kd.R_at hq_ HO_9.out);have n3_:=Q.a (aAZ hq_ HB.out);clear hq_ HO_0 HO_1 HO_9 HB;have HO_0:=n0_;have HO_1:=n1_;have HO_9:=n2_;have HB:=n3_;clear n0_ n1_ n2_ n3_;(try (obtain ⟨hy73_,hz73_⟩:=Kd.R_celln 0 HO_9.out ((ji68):Int) Q.od Q.od));(try (have HP73:=Kd.R_putg HO_9.out ((ji68):Int) ((x13_2) % 4294967296)))));refine aAm (t:=178) (p:=128) (v:=?vo_w74) (w1:=(w72.setCell ⟨go71,((ji68):Int).toNat,none⟩ (.int .u32 ((x13_2) % 4294967296)))) ?hg ?ho ?hn ?hr ?_;(case ho=>rfl);(case hg=>rfl);(case hn=>rfl);(case hr=>first | (go_simp;done) | (go_simp;rfl));intro w74 hw;have hg:w72.grownBy w74 (some go71):=(by rw [hw];exact HP73.2);have hp_:Kd.R (Kd.int .u32) 178 w74 w.heap.size (fun k_=>some k_≠(.slice (some ad216) x0_1.length co21:Value).ownBlock∧some k_≠(.slice (some ad206) y200.length co18:Value).ownBlock) (.slice (some ⟨go71,0,none⟩) x9_1.length co24) y227:=(by rw [hw,Ny227.out];exact HP73.1);clear HP73;replace HO_0:=Q.a (Kd.R_after (v:=(.slice (some ⟨go71,0,none⟩) x9_1.length co24)) (v1:=(.slice (some ⟨go71,0,none⟩) x9_1.length co24)) (ok:=(fun k_=>some k_≠(.slice (some ad206) y200.length co18:Value).ownBlock)) (Q.kr HO_0) hg (.inl rfl));replace HO_1:=Q.a (Kd.R_after (v:=(.slice (some ⟨go71,0,none⟩) x9_1.length co24)) (v1:=(.slice (some ⟨go71,0,none⟩) x9_1.length co24)) (ok:=(fun k_=>some k_≠(.slice (some ad216) x0_1.length co21:Value).ownBlock)) (Q.kr HO_1) hg (.inl rfl));replace HO_9:=Q.a (hp_);replace HB:=Q.a ((by rw [hw];exact aAq (HB.out) GB71.out:Below w.heap.size w w74));clear hg hw hp_)))
                         (try simp only [← hl0_1,← hl9_1])
                         go_roundg kj32
                         case measure=>have:=HK1.out;have:=HK2.out;have:=HJ32.out;omega
                         case rel=>exact ⟨(t225),(y227),(wrap64 (x46_1+1)),Q.rs,H',⟨by have:=HK1.out;have:=HK2.out;have:=HJ32.out;omega⟩,⟨by (try simp only [hl0_1]);(try simp only [hl9_1]);(with_reducible repeat (first | apply Kd.R_alloc | apply Kd.R_drewN | apply Kd.R_drew));exact HO_0.out⟩,⟨by (try simp only [hl0_1]);(try simp only [hl9_1]);(with_reducible repeat (first | apply Kd.R_alloc | apply Kd.R_drewN | apply Kd.R_drew));exact HO_1.out⟩,⟨by (try simp only [hl0_1]);(try simp only [hl9_1]);(with_reducible repeat (first | apply Kd.R_alloc | apply Kd.R_drewN | apply Kd.R_drew));exact HO_9.out⟩,⟨Q.bw HB⟩⟩
                        ·rw [if_neg c70] at H
                         exact absurd H (by simp)
                       ·rw [if_neg c69] at H
                        exact absurd H (by simp)
               ·rw [if_neg c31] at H
                exact absurd H (by simp)
              ·rw [if_neg c30] at H
               exact absurd H (by simp)
             ·rw [if_neg c28] at H
              exact absurd H (by simp)
            ·rw [if_neg c27] at H
             exact absurd H (by simp)
           ·rw [if_neg c25] at H
            have c25b0:decide (x46_1 < (y207.length:Int))=false:=decide_eq_false c25
            (try (have c25b0l:=c25b0;simp only [hl0_1,hl9_1] at c25b0l))
            clear c25
            by_cases c75:0≤(y200.length:Int)
            ·rw [if_pos c75] at H
             have c75b0:=eq_true c75
             have c75b1:decide (0≤(y200.length:Int))=true:=decide_eq_true c75
             clear c75
             by_cases c76:(y200.length:Int)≤(x0_1.length:Int)
             ·rw [if_pos c76] at H
              have c76b0:=eq_true c76
              have c76b1:decide ((y200.length:Int)≤(x0_1.length:Int))=true:=decide_eq_true c76
              clear c76
              obtain ⟨y210,hy210⟩:∃ y_:List Int,y_=(x0_1.take ((y200.length:Int):Int).toNat):=⟨_,rfl⟩
              replace H:((nat_unshift.f k1 y210 t196).bind fun t213=>(some (x9_1,t213)))=some (r1,r2):=by first | (rw [hy210];with_reducible exact H) | (have H2_:=(Option.bind_some _ _).symm.trans H;rw [hy210];with_reducible exact H2_) | (have H2_:=(Option.bind_some _ _).symm.trans H;with_reducible exact H2_) | with_reducible exact H | (rw [hy210];exact H) | exact H
              have Ny210:=Q.a hy210
              clear hy210
              replace H:=Option.bind_eq_some_iff.mp H
              obtain ⟨t213,A770,H⟩:=H
              try dsimp only at H
              have A77:=Q.a A770
              clear A770
              simp only [Option.some.injEq,Prod.mk.injEq] at H
              obtain ⟨rfl,rfl⟩:=H
              have q78:((y200.length:Int):Int)≤((x0_1.length:Int):Int):=of_decide_eq_true (by first | (with_reducible assumption) | assumption)
              obtain ⟨i078,hi078,_,hsz78,_⟩:=info_parts aAQ
              have hcut78:=aFi (P:=Tryz.prog) 176 178 .i64 Tryz.underlying176 hi078 Ao21 x0_1.length co21 (y200.length:Int) Q.od q78 (Kd.R_reads' HO_0.out).2.1
              have hr78:=Kd.R_take (m:=((y200.length:Int):Int).toNat) HO_0.out (by omega)
              have hy78:y210.length=((y200.length:Int):Int).toNat:=(by rw [Ny210.out,List.length_take];omega)
              rw [← Ny210.out] at hr78
              rw [← hy78] at hr78 hcut78
              clear hy78 hi078 hsz78 HO_0
              have HO212:=Q.a hr78
              clear hr78
              replace q78:=eq_true q78
              go_wp2_with (first | (go_at_call 225;(with_reducible refine (nat_unshift.calls k1 _ _ y210 t196 t213 _ ?side1 ?side2 A77.out).mono ?_);(case side1=>repeat (first | exact (Kd.R_reads' HO212.out).2.2 | (with_reducible refine Kd.C_alloc ?_ _) | (with_reducible refine Kd.C_drewN ?_ _) | (with_reducible refine Kd.C_drew ?_)));(case side2=>exact (Kd.R_reads' HO212.out).2.1);rintro e w79 ⟨v214,rfl,ho0,hb⟩;replace HO215:=Q.a (Kd.R_lower (Kd.R_new' (Kd.R_new' (Kd.R_new' ho0 (Kd.R_lt (Q.kr HO212))) (Kd.R_lt (Q.kr HO_1))) (Kd.R_lt (Q.kr HO_9))) (aAh (Q.bw HB)));replace HO212:=Q.a (Kd.R_elder' (Q.kr HO212) (Kd.R_base ho0) hb);replace HO_1:=Q.a (Kd.R_elder' (Q.kr HO_1) (Kd.R_base ho0) hb);replace HO_9:=Q.a (Kd.R_elder' (Q.kr HO_9) (Kd.R_base ho0) hb);replace HB:=Q.a (aAb (Q.bw HB) hb);(try clear hb);(try clear ho0)))
              repeat (go_quiet (first | (go_at_call 225;(with_reducible refine (nat_unshift.calls k1 _ _ y210 t196 t213 _ ?side1 ?side2 A77.out).mono ?_);(case side1=>repeat (first | exact (Kd.R_reads' HO212.out).2.2 | (with_reducible refine Kd.C_alloc ?_ _) | (with_reducible refine Kd.C_drewN ?_ _) | (with_reducible refine Kd.C_drew ?_)));(case side2=>exact (Kd.R_reads' HO212.out).2.1);rintro e w79 ⟨v214,rfl,ho0,hb⟩;replace HO215:=Q.a (Kd.R_lower (Kd.R_new' (Kd.R_new' (Kd.R_new' ho0 (Kd.R_lt (Q.kr HO212))) (Kd.R_lt (Q.kr HO_1))) (Kd.R_lt (Q.kr HO_9))) (aAh (Q.bw HB)));replace HO212:=Q.a (Kd.R_elder' (Q.kr HO212) (Kd.R_base ho0) hb);replace HO_1:=Q.a (Kd.R_elder' (Q.kr HO_1) (Kd.R_base ho0) hb);replace HO_9:=Q.a (Kd.R_elder' (Q.kr HO_9) (Kd.R_base ho0) hb);replace HB:=Q.a (aAb (Q.bw HB) hb);(try clear hb);(try clear ho0)));try go_wp2_with (first | (go_at_call 225;(with_reducible refine (nat_unshift.calls k1 _ _ y210 t196 t213 _ ?side1 ?side2 A77.out).mono ?_);(case side1=>repeat (first | exact (Kd.R_reads' HO212.out).2.2 | (with_reducible refine Kd.C_alloc ?_ _) | (with_reducible refine Kd.C_drewN ?_ _) | (with_reducible refine Kd.C_drew ?_)));(case side2=>exact (Kd.R_reads' HO212.out).2.1);rintro e w79 ⟨v214,rfl,ho0,hb⟩;replace HO215:=Q.a (Kd.R_lower (Kd.R_new' (Kd.R_new' (Kd.R_new' ho0 (Kd.R_lt (Q.kr HO212))) (Kd.R_lt (Q.kr HO_1))) (Kd.R_lt (Q.kr HO_9))) (aAh (Q.bw HB)));replace HO212:=Q.a (Kd.R_elder' (Q.kr HO212) (Kd.R_base ho0) hb);replace HO_1:=Q.a (Kd.R_elder' (Q.kr HO_1) (Kd.R_base ho0) hb);replace HO_9:=Q.a (Kd.R_elder' (Q.kr HO_9) (Kd.R_base ho0) hb);replace HB:=Q.a (aAb (Q.bw HB) hb);(try clear hb);(try clear ho0))))
              go_ret2
              exact ⟨_,_,by first | rfl | (simp [aAu,aAv]<;>rfl) | (simp only [← hji3,← hji11,← hji14];first | rfl | (simp [aAu,aAv]<;>rfl)) | (simp [*,aAu,aAv]<;>rfl),by (with_reducible repeat (first | apply Kd.R_alloc | apply Kd.R_drewN | apply Kd.R_drew));exact Kd.R_mono HO_9.out (fun _ hk=>hk.2),by (with_reducible repeat (first | apply Kd.R_alloc | apply Kd.R_drewN | apply Kd.R_drew));exact Kd.R_mono HO215.out (fun _ hk=>hk.2),Q.bw HB⟩
             ·rw [if_neg c76] at H
              exact absurd H (by simp)
            ·rw [if_neg c75] at H
             exact absurd H (by simp)
        ·rw [if_neg c16] at H
         exact absurd H (by simp)
       ·rw [if_neg c15] at H
        exact absurd H (by simp)
      ·rw [if_neg c13] at H
       exact absurd H (by simp)
     ·rw [if_neg c12] at H
      exact absurd H (by simp)
    ·rw [if_neg c9] at H
     exact absurd H (by simp)
   ·rw [if_neg c8] at H
    exact absurd H (by simp)
  ·rw [if_neg c5] at H
   exact absurd H (by simp)
 ·rw [if_neg c4] at H
  exact absurd H (by simp)
end Go.Proofs.YtkkjlpfomofiaaaGreatDoor.P
