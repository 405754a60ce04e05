import Derived.Test.YtkkjlpfomofiaaaGreatDoorPx0
import Derived.Test.YtkkjlpfomofiaaaGreatDoorXQ
namespace Go.Proofs.YtkkjlpfomofiaaaGreatDoor.P
open Go.RowKit Go.Proofs.YtkkjlpfomofiaaaGreatDoorW.PrintWords Go.Proofs.YtkkjlpfomofiaaaGreatDoorW.PrintLast Go.Proofs.YtkkjlpfomofiaaaGreatDoorW.PrintMore
attribute [local go_sem] aBK aBL aCg aCh aB0 aB1 aBM aBN
attribute [local go_sem] XW.cell_twice
set_option linter.unusedVariables false
set_option linter.unusedSimpArgs false
def strings_trimRightByte.l0:Nat→ByteArray→Int→Option (ByteArray)
 | 0,_,_=>none
 | k+1,x0,x1=>if (x0.size:Int) > 0 then (if 0≤(wrap64 ((x0.size:Int) - 1)) then (if (wrap64 ((x0.size:Int) - 1)) < (x0.size:Int) then (if (bt x0 (wrap64 ((x0.size:Int) - 1)))=x1 then (if (wrap64 ((x0.size:Int) - 1))≤(x0.size:Int) then (strings_trimRightByte.l0 k (x0.extract 0 ((wrap64 ((x0.size:Int) - 1)):Int).toNat) x1) else (none)) else (some x0)) else (none)) else (none)) else (some x0)
def strings_trimRightByte.f (k:Nat) (a0:ByteArray) (a1:Int):Option (ByteArray):=strings_trimRightByte.l0 k a0 a1
theorem strings_trimRightByte.mono_l:∀ k,(∀ y0 y1,LeO (strings_trimRightByte.l0 k y0 y1) (strings_trimRightByte.l0 (k+1) y0 y1))
 | 0=>fun _ _ r h=>by simp [strings_trimRightByte.l0] at h
 | k+1=>by
  have ih0:=strings_trimRightByte.mono_l k
  ·intro y0 y1
   unfold strings_trimRightByte.l0
   repeat' first
   | (with_reducible exact ih0 _ _)
   | (with_reducible exact LeO.refl _)
   | (with_reducible exact LeO.none _)
   | (with_reducible refine LeO.ite ?_ ?_)
   | (with_reducible refine LeO.bind ?_ (fun _=>?_))
   | exact ih0 _ _
   | exact LeO.none _
   | refine LeO.ite ?_ ?_
   | refine LeO.bind ?_ (fun _=>?_)
theorem strings_trimRightByte.mono:∀ a0 a1 k,LeO (strings_trimRightByte.f k a0 a1) (strings_trimRightByte.f (k+1) a0 a1):=by
 intro a0 a1 k
 have ih0:=strings_trimRightByte.mono_l k
 unfold strings_trimRightByte.f
 repeat' first
   | (with_reducible exact ih0 _ _)
   | (with_reducible exact LeO.refl _)
   | (with_reducible exact LeO.none _)
   | (with_reducible refine LeO.ite ?_ ?_)
   | (with_reducible refine LeO.bind ?_ (fun _=>?_))
   | exact ih0 _ _
   | exact LeO.none _
   | refine LeO.ite ?_ ?_
   | refine LeO.bind ?_ (fun _=>?_)
set_option maxHeartbeats 8000000 in
set_option maxRecDepth 100000 in
theorem strings_trimRightByte.calls (k:Nat) (a0:ByteArray) (a1:Int) (r:ByteArray) (w:World) (h:strings_trimRightByte.f k a0 a1=some r) :
  Calls Tryz.prog 172 #[.string a0,.int .u8 a1] w fun e w'=>e=.returned (.string r)∧Drawn0 w w':=by
 have H:(strings_trimRightByte.l0 k a0 a1)=some r:=h
 clear h
 have H':=Q.a H
 clear H
 go_enter Tryz.func172,Tryz.ntmps172
 go_wp2
 go_loopg [0] k (fun kq v0 w'=>∃ (x0_1:ByteArray),v0=.string x0_1∧Aside0 (strings_trimRightByte.l0 kq x0_1 a1=some r)∧Aside0 (kq≤k)∧Drawn0 w w')
 case atStart=>exact ⟨(a0),Q.rs,H',⟨Nat.le_refl _⟩,by repeat (first | exact Drawn0.refl _ | apply Drawn0.step)⟩
 case round =>
  clear H'
  try clear c1
  try clear p2
  obtain ⟨x0_1,rfl,HA,HK1,⟨m1,rfl⟩⟩:=hrel
  cases gk with
  | zero=>exact absurd HA.out (by simp [strings_trimRightByte.l0])
  | succ k1 =>
   have H:=HA.out
   clear HA
   simp only [strings_trimRightByte.l0] at H
   by_cases c3:(x0_1.size:Int) > 0
   ·rw [if_pos c3] at H
    have c3b0:decide (0 < (x0_1.size:Int))=true:=decide_eq_true c3
    have c3b1:decide (0 < x0_1.size)=true:=decide_eq_true (by omega)
    clear c3
    obtain ⟨ji4,hji4⟩:∃ j_:Int,(wrap64 ((x0_1.size:Int) - 1))=j_:=⟨_,rfl⟩
    replace H:(if 0≤(ji4) then (if (ji4) < (x0_1.size:Int) then (if (bt x0_1 (ji4))=a1 then (if (ji4)≤(x0_1.size:Int) then (strings_trimRightByte.l0 k1 (x0_1.extract 0 ((ji4):Int).toNat) a1) else (none)) else (some x0_1)) else (none)) else (none))=some r:=by first | (rw [hji4] at H;exact H) | (simp only [hji4] at H ⊢;exact H)
    have hji4w:(IntKind.i64.wrap ((x0_1.size:Int) - 1))=ji4:=(aAk _).trans hji4
    by_cases c5:0≤(ji4)
    ·rw [if_pos c5] at H
     have c5b0:decide (0≤(ji4))=true:=decide_eq_true c5
     clear c5
     by_cases c6:(ji4) < (x0_1.size:Int)
     ·rw [if_pos c6] at H
      have c6b0:decide ((ji4) < (x0_1.size:Int))=true:=decide_eq_true c6
      clear c6
      by_cases c8:(bt x0_1 (ji4))=a1
      ·rw [if_pos c8] at H
       have c8b0:((bt x0_1 (ji4)) == a1)=true:=beq_iff_eq.mpr c8
       have c8b1:((bt x0_1 (ji4)) != a1)=false:=bne_eq_false_iff_eq.mpr c8
       clear c8
       have c9b0:=eq_true (of_decide_eq_true (by first | (with_reducible assumption) | assumption):0≤(ji4))
       by_cases c10:(ji4)≤(x0_1.size:Int)
       ·rw [if_pos c10] at H
        have c10b0:=eq_true c10
        have c10b1:decide ((ji4)≤(x0_1.size:Int))=true:=decide_eq_true c10
        clear c10
        have H':=Q.a H
        clear H
        have p7:0≤((ji4):Int):=of_decide_eq_true (by first | (with_reducible assumption) | assumption)
        have q7:(ji4) < (x0_1.size:Int):=of_decide_eq_true (by first | (with_reducible assumption) | assumption)
        have hx7:=aBq x0_1 (ji4)
        replace p7:=eq_true p7
        replace q7:=eq_true q7
        go_wp2
        go_roundg k1
        case measure=>have:=HK1.out;omega
        case rel=>exact ⟨(x0_1.extract 0 ((ji4):Int).toNat),(by first | rfl | (simp;done) | (simp only [← hji4]<;>(first | rfl | simp)) | (simp [*];done)),H',⟨by have:=HK1.out;omega⟩,by repeat (first | exact Drawn0.refl _ | apply Drawn0.step)⟩
       ·rw [if_neg c10] at H
        exact absurd H (by simp)
      ·rw [if_neg c8] at H
       have c8b0:((bt x0_1 (ji4)) == a1)=false:=beq_eq_false_iff_ne.mpr c8
       have c8b1:((bt x0_1 (ji4)) != a1)=true:=bne_iff_ne.mpr c8
       obtain rfl:=Option.some.inj H
       have p7:0≤((ji4):Int):=of_decide_eq_true (by first | (with_reducible assumption) | assumption)
       have q7:(ji4) < (x0_1.size:Int):=of_decide_eq_true (by first | (with_reducible assumption) | assumption)
       have hx7:=aBq x0_1 (ji4)
       replace p7:=eq_true p7
       replace q7:=eq_true q7
       go_wp2
       go_ret
       exact ⟨by first | rfl | (simp;done) | (simp only [← hji4]<;>(first | rfl | simp)) | (simp [*];done),by repeat (first | exact Drawn0.refl _ | apply Drawn0.step)⟩
     ·rw [if_neg c6] at H
      exact absurd H (by simp)
    ·rw [if_neg c5] at H
     exact absurd H (by simp)
   ·rw [if_neg c3] at H
    have c3b0:decide (0 < (x0_1.size:Int))=false:=decide_eq_false c3
    have c3b1:decide (0 < x0_1.size)=false:=decide_eq_false (by omega)
    clear c3
    obtain rfl:=Option.some.inj H
    go_wp2
    go_ret
    exact ⟨by first | rfl | (simp;done) | (simp [*];done),by repeat (first | exact Drawn0.refl _ | apply Drawn0.step)⟩
mutual
def strings_TrimRight.j0:Nat→ByteArray→ByteArray→Bool→Option (ByteArray)
 | 0,_,_,_=>none
 | k+1,x0,x1,x12=>if x12=true then (some x0) else (if (x1.size:Int)=1 then (if 0 < (x1.size:Int) then (strings_TrimRight.j1 k x0 x1 (decide ((bt x1 0) < 128))) else (none)) else (strings_TrimRight.j1 k x0 x1 false))
def strings_TrimRight.j1:Nat→ByteArray→ByteArray→Bool→Option (ByteArray)
 | 0,_,_,_=>none
 | k+1,x0,x1,x21=>if x21=true then (if 0 < (x1.size:Int) then ((strings_trimRightByte.f k x0 (bt x1 0)).bind fun t101=>(some t101)) else (none)) else (none)
end
def strings_TrimRight.f (k:Nat) (a0:ByteArray) (a1:ByteArray):Option (ByteArray):=if a0.toList=([]:List UInt8) then (strings_TrimRight.j0 k a0 a1 true) else (strings_TrimRight.j0 k a0 a1 (a1.toList == ([]:List UInt8)))
theorem strings_TrimRight.mono_l:∀ k,(∀ y0 y1 y2,LeO (strings_TrimRight.j0 k y0 y1 y2) (strings_TrimRight.j0 (k+1) y0 y1 y2))∧(∀ y0 y1 y2,LeO (strings_TrimRight.j1 k y0 y1 y2) (strings_TrimRight.j1 (k+1) y0 y1 y2))
 | 0=>⟨fun _ _ _ r h=>by simp [strings_TrimRight.j0] at h,fun _ _ _ r h=>by simp [strings_TrimRight.j1] at h⟩
 | k+1=>by
  obtain ⟨ih0,ih1⟩:=strings_TrimRight.mono_l k
  refine ⟨?_,?_⟩
  ·intro y0 y1 y2
   unfold strings_TrimRight.j0
   repeat' first
   | (with_reducible exact ih0 _ _ _)
   | (with_reducible exact ih1 _ _ _)
   | (with_reducible exact strings_trimRightByte.mono _ _ _)
   | (with_reducible exact LeO.refl _)
   | (with_reducible exact LeO.none _)
   | (with_reducible refine LeO.ite ?_ ?_)
   | (with_reducible refine LeO.bind ?_ (fun _=>?_))
   | exact ih0 _ _ _
   | exact ih1 _ _ _
   | exact strings_trimRightByte.mono _ _ _
   | exact LeO.none _
   | refine LeO.ite ?_ ?_
   | refine LeO.bind ?_ (fun _=>?_)
  ·intro y0 y1 y2
   unfold strings_TrimRight.j1
   repeat' first
   | (with_reducible exact ih0 _ _ _)
   | (with_reducible exact ih1 _ _ _)
   | (with_reducible exact strings_trimRightByte.mono _ _ _)
   | (with_reducible exact LeO.refl _)
   | (with_reducible exact LeO.none _)
   | (with_reducible refine LeO.ite ?_ ?_)
   | (with_reducible refine LeO.bind ?_ (fun _=>?_))
   | exact ih0 _ _ _
   | exact ih1 _ _ _
   | exact strings_trimRightByte.mono _ _ _
   | exact LeO.none _
   | refine LeO.ite ?_ ?_
   | refine LeO.bind ?_ (fun _=>?_)
theorem strings_TrimRight.mono:∀ a0 a1 k,LeO (strings_TrimRight.f k a0 a1) (strings_TrimRight.f (k+1) a0 a1):=by
 intro a0 a1 k
 obtain ⟨ih0,ih1⟩:=strings_TrimRight.mono_l k
 unfold strings_TrimRight.f
 repeat' first
   | (with_reducible exact ih0 _ _ _)
   | (with_reducible exact ih1 _ _ _)
   | (with_reducible exact strings_trimRightByte.mono _ _ _)
   | (with_reducible exact LeO.refl _)
   | (with_reducible exact LeO.none _)
   | (with_reducible refine LeO.ite ?_ ?_)
   | (with_reducible refine LeO.bind ?_ (fun _=>?_))
   | exact ih0 _ _ _
   | exact ih1 _ _ _
   | exact strings_trimRightByte.mono _ _ _
   | exact LeO.none _
   | refine LeO.ite ?_ ?_
   | refine LeO.bind ?_ (fun _=>?_)
set_option maxHeartbeats 8000000 in
set_option maxRecDepth 100000 in
theorem strings_TrimRight.calls (k:Nat) (a0:ByteArray) (a1:ByteArray) (r:ByteArray) (w:World) (h:strings_TrimRight.f k a0 a1=some r) :
  Calls Tryz.prog 204 #[.string a0,.string a1] w fun e w'=>e=.returned (.string r)∧Below w.heap.size w w':=by
 have HB:=Q.a (Below.refl w.heap.size w)
 have H:(if a0.toList=([]:List UInt8) then (strings_TrimRight.j0 k a0 a1 true) else (strings_TrimRight.j0 k a0 a1 (a1.toList == ([]:List UInt8))))=some r:=h
 clear h
 have HC3:=Q.a H
 clear H
 go_enter Tryz.func204,Tryz.ntmps204
 go_upto_region 1 with (fail)
 go_cut [12] (fun v12 wc=>∃ (kq:Nat) (x12_2:Bool),v12=.bool x12_2∧Aside0 (strings_TrimRight.j0 kq a0 a1 x12_2=some r)∧Aside0 (kq≤k)∧Aside0 (Below w.heap.size w wc))
 case first =>
  have H:=HC3.out
  clear HC3
  by_cases c4:a0.toList=([]:List UInt8)
  ·rw [if_pos c4] at H
   have c4b0:(a0.toList == ([]:List UInt8))=true:=beq_iff_eq.mpr c4
   have c4b1:(a0.toList != ([]:List UInt8))=false:=bne_eq_false_iff_eq.mpr c4
   clear c4
   (first | rw [c4b0] | (simp only [aAk,aA0];rw [c4b0]) | skip)
   have H':=Q.a H
   clear H
   go_wp2
   go_meet
   case rel=>exact ⟨_,(true),Q.rs,H',⟨by first | omega | exact Nat.le_refl _⟩,⟨Q.bw HB⟩⟩
  ·rw [if_neg c4] at H
   have c4b0:(a0.toList == ([]:List UInt8))=false:=beq_eq_false_iff_ne.mpr c4
   have c4b1:(a0.toList != ([]:List UInt8))=true:=bne_iff_ne.mpr c4
   (first | rw [c4b0] | (simp only [aAk,aA0];rw [c4b0]) | skip)
   have H':=Q.a H
   clear H
   go_wp2
   go_meet
   case rel=>exact ⟨_,((a1.toList == ([]:List UInt8))),Q.rs,H',⟨by first | omega | exact Nat.le_refl _⟩,⟨Q.bw HB⟩⟩
 case rest =>
  clear HC3
  try clear c2
  try clear p2
  try clear c4
  try clear c4b0
  try clear c4b1
  obtain ⟨kq,x12_2,rfl,HA,HJ2,HB⟩:=hcut
  cases kq with
  | zero=>exact absurd HA.out (by simp [strings_TrimRight.j0])
  | succ kj2 =>
   have H:=HA.out
   clear HA
   simp only [strings_TrimRight.j0] at H
   by_cases c5:x12_2=true
   ·subst c5
    rw [if_pos rfl] at H
    obtain rfl:=Option.some.inj H
    go_wp2
    go_ret
    exact ⟨Q.en,Q.bw HB⟩
   ·replace c5:=Bool.eq_false_iff.mpr c5
    subst c5
    rw [if_neg (show ¬ (false=true) by decide)] at H
    have HC6:=Q.a H
    clear H
    go_upto_region 3 with (fail)
    go_cut [21] (fun v21 wc=>∃ (kq:Nat) (x21_5:Bool),v21=.bool x21_5∧Aside0 (strings_TrimRight.j1 kq a0 a1 x21_5=some r)∧Aside0 (kq≤kj2)∧Aside0 (Below w.heap.size w wc))
    case first =>
     have H:=HC6.out
     clear HC6
     by_cases c7:(a1.size:Int)=1
     ·rw [if_pos c7] at H
      have c7b0:((a1.size:Int) == 1)=true:=beq_iff_eq.mpr c7
      have c7b1:((a1.size:Int) != 1)=false:=bne_eq_false_iff_eq.mpr c7
      clear c7
      (first | rw [c7b0] | (simp only [aAk,aA0];rw [c7b0]) | skip)
      by_cases c8:0 < (a1.size:Int)
      ·rw [if_pos c8] at H
       have c8b0:decide (0 < (a1.size:Int))=true:=decide_eq_true c8
       have c8b1:decide (0 < a1.size)=true:=decide_eq_true (by omega)
       clear c8
       have H':=Q.a H
       clear H
       have p9:0≤(0:Int):=(by omega)
       have q9:0 < a1.size:=(by have:(0:Int) < (a1.size:Int):=of_decide_eq_true (by first | (with_reducible assumption) | assumption);omega)
       have hx9:∀ h:0 < a1.size,((a1[0]'h).toNat:Int)=bt a1 0:=aBq a1 0
       clear p9
       have qi9:(0 < (a1.size:Int))=True:=eq_true Q.od
       replace q9:=eq_true q9
       go_wp2
       go_meet
       case rel=>exact ⟨_,(decide ((bt a1 0) < 128)),Q.rs,H',⟨by have:=HJ2.out;first | omega | exact Nat.le_refl _⟩,⟨Q.bw HB⟩⟩
      ·rw [if_neg c8] at H
       exact absurd H (by simp)
     ·rw [if_neg c7] at H
      have c7b0:((a1.size:Int) == 1)=false:=beq_eq_false_iff_ne.mpr c7
      have c7b1:((a1.size:Int) != 1)=true:=bne_iff_ne.mpr c7
      (first | rw [c7b0] | (simp only [aAk,aA0];rw [c7b0]) | skip)
      have H':=Q.a H
      clear H
      go_wp2
      go_meet
      case rel=>exact ⟨_,(false),Q.rs,H',⟨by have:=HJ2.out;first | omega | exact Nat.le_refl _⟩,⟨Q.bw HB⟩⟩
    case rest =>
     clear HC6
     try clear c2
     try clear p2
     try clear c4
     try clear c4b0
     try clear c4b1
     try clear c5
     try clear c7
     try clear c7b0
     try clear c7b1
     try clear c8
     try clear c8b0
     try clear c8b1
     try clear p9
     try clear q9
     try clear hx9
     try clear qi9
     try clear p2
     try clear p9
     try clear q9
     obtain ⟨kq,x21_5,rfl,HA,HJ5,HB⟩:=hcut
     cases kq with
     | zero=>exact absurd HA.out (by simp [strings_TrimRight.j1])
     | succ kj5 =>
      have H:=HA.out
      clear HA
      simp only [strings_TrimRight.j1] at H
      by_cases c10:x21_5=true
      ·subst c10
       rw [if_pos rfl] at H
       by_cases c11:0 < (a1.size:Int)
       ·rw [if_pos c11] at H
        have c11b0:decide (0 < (a1.size:Int))=true:=decide_eq_true c11
        have c11b1:decide (0 < a1.size)=true:=decide_eq_true (by omega)
        clear c11
        replace H:=Option.bind_eq_some_iff.mp H
        obtain ⟨t101,A130,H⟩:=H
        try dsimp only at H
        have A13:=Q.a A130
        clear A130
        obtain rfl:=Option.some.inj H
        have p12:0≤(0:Int):=(by omega)
        have q12:0 < a1.size:=(by have:(0:Int) < (a1.size:Int):=of_decide_eq_true (by first | (with_reducible assumption) | assumption);omega)
        have hx12:∀ h:0 < a1.size,((a1[0]'h).toNat:Int)=bt a1 0:=aBq a1 0
        clear p12
        have qi12:(0 < (a1.size:Int))=True:=eq_true Q.od
        replace q12:=eq_true q12
        go_wp2_with (first | ((with_reducible refine aAe (f:=172) rfl ?_);refine Q.gl 25 Tryz.func172 #[.string a0,.int .u8 (bt a1 0)] rfl rfl rfl rfl ?_;(with_reducible refine (strings_trimRightByte.calls kj5 a0 (bt a1 0) t101 _ A13.out).mono ?_);rintro e w' ⟨rfl,⟨nd,rfl⟩⟩;refine ⟨_,rfl,?_⟩))
        go_ret
        exact ⟨Q.en,Q.bw HB⟩
       ·rw [if_neg c11] at H
        exact absurd H (by simp)
      ·replace c10:=Bool.eq_false_iff.mpr c10
       subst c10
       rw [if_neg (show ¬ (false=true) by decide)] at H
       exact absurd H (by simp)
def nat_Normalize.f (k:Nat) (a0:ByteArray):Option (ByteArray):=(strings_TrimRight.f k a0 (⟨#[0]⟩:ByteArray)).bind fun t102=>(some t102)
theorem nat_Normalize.mono:∀ a0 k,LeO (nat_Normalize.f k a0) (nat_Normalize.f (k+1) a0):=by
 intro a0 k
 unfold nat_Normalize.f
 repeat' first
   | (with_reducible exact strings_TrimRight.mono _ _ _)
   | (with_reducible exact LeO.refl _)
   | (with_reducible exact LeO.none _)
   | (with_reducible refine LeO.ite ?_ ?_)
   | (with_reducible refine LeO.bind ?_ (fun _=>?_))
   | exact strings_TrimRight.mono _ _ _
   | exact LeO.none _
   | refine LeO.ite ?_ ?_
   | refine LeO.bind ?_ (fun _=>?_)
set_option maxHeartbeats 8000000 in
set_option maxRecDepth 100000 in
theorem nat_Normalize.calls (k:Nat) (a0:ByteArray) (r:ByteArray) (w:World) (h:nat_Normalize.f k a0=some r) :
  Calls Tryz.prog 162 #[.string a0] w fun e w'=>e=.returned (.string r)∧Below w.heap.size w w':=by
 have HB:=Q.a (Below.refl w.heap.size w)
 have H:((strings_TrimRight.f k a0 (⟨#[0]⟩:ByteArray)).bind fun t102=>(some t102))=some r:=h
 clear h
 replace H:=Option.bind_eq_some_iff.mp H
 obtain ⟨t102,A20,H⟩:=H
 try dsimp only at H
 have A2:=Q.a A20
 clear A20
 obtain rfl:=Option.some.inj H
 go_enter Tryz.func162,Tryz.ntmps162
 go_wp2_with (first | ((with_reducible refine aAe (f:=204) rfl ?_);refine Q.gl 4 Tryz.func204 #[.string a0,.string (⟨#[0]⟩:ByteArray)] rfl rfl rfl rfl ?_;(with_reducible refine (strings_TrimRight.calls k a0 (⟨#[0]⟩:ByteArray) t102 _ A2.out).mono ?_);rintro e w3 ⟨rfl,hb⟩;refine ⟨_,rfl,?_⟩;replace HB:=Q.a (aAb (Q.bw HB) hb);(try clear hb)))
 go_ret
 exact ⟨Q.en,Q.bw HB⟩
def nat_Cmp.l0:Nat→ByteArray→ByteArray→Int→Int→Option (Int)
 | 0,_,_,_,_=>none
 | k+1,x0,x1,x22,x23=>if x23 < x22 then (if 0≤(wrap64 ((wrap64 ((x0.size:Int) - 1)) - x23)) then (if (wrap64 ((wrap64 ((x0.size:Int) - 1)) - x23)) < (x0.size:Int) then (if (wrap64 ((wrap64 ((x0.size:Int) - 1)) - x23)) < (x1.size:Int) then (if (bt x0 (wrap64 ((wrap64 ((x0.size:Int) - 1)) - x23)))=(bt x1 (wrap64 ((wrap64 ((x0.size:Int) - 1)) - x23))) then (nat_Cmp.l0 k x0 x1 x22 (wrap64 (x23+1))) else (if (bt x0 (wrap64 ((wrap64 ((x0.size:Int) - 1)) - x23))) < (bt x1 (wrap64 ((wrap64 ((x0.size:Int) - 1)) - x23))) then (some (-1)) else (some 1))) else (none)) else (none)) else (none)) else (some 0)
def nat_Cmp.f (k:Nat) (a0:ByteArray) (a1:ByteArray):Option (Int):=(nat_Normalize.f k a0).bind fun t103=>((nat_Normalize.f k a1).bind fun t104=>(if (t103.size:Int)=(t104.size:Int) then (nat_Cmp.l0 k t103 t104 (t103.size:Int) 0) else (if (t103.size:Int) < (t104.size:Int) then (some (-1)) else (some 1))))
theorem nat_Cmp.mono_l:∀ k,(∀ y0 y1 y2 y3,LeO (nat_Cmp.l0 k y0 y1 y2 y3) (nat_Cmp.l0 (k+1) y0 y1 y2 y3))
 | 0=>fun _ _ _ _ r h=>by simp [nat_Cmp.l0] at h
 | k+1=>by
  have ih0:=nat_Cmp.mono_l k
  ·intro y0 y1 y2 y3
   unfold nat_Cmp.l0
   repeat' first
   | (with_reducible exact ih0 _ _ _ _)
   | (with_reducible exact nat_Normalize.mono _ _)
   | (with_reducible exact LeO.refl _)
   | (with_reducible exact LeO.none _)
   | (with_reducible refine LeO.ite ?_ ?_)
   | (with_reducible refine LeO.bind ?_ (fun _=>?_))
   | exact ih0 _ _ _ _
   | exact nat_Normalize.mono _ _
   | exact LeO.none _
   | refine LeO.ite ?_ ?_
   | refine LeO.bind ?_ (fun _=>?_)
theorem nat_Cmp.mono:∀ a0 a1 k,LeO (nat_Cmp.f k a0 a1) (nat_Cmp.f (k+1) a0 a1):=by
 intro a0 a1 k
 have ih0:=nat_Cmp.mono_l k
 unfold nat_Cmp.f
 repeat' first
   | (with_reducible exact ih0 _ _ _ _)
   | (with_reducible exact nat_Normalize.mono _ _)
   | (with_reducible exact LeO.refl _)
   | (with_reducible exact LeO.none _)
   | (with_reducible refine LeO.ite ?_ ?_)
   | (with_reducible refine LeO.bind ?_ (fun _=>?_))
   | exact ih0 _ _ _ _
   | exact nat_Normalize.mono _ _
   | exact LeO.none _
   | refine LeO.ite ?_ ?_
   | refine LeO.bind ?_ (fun _=>?_)
set_option maxHeartbeats 8000000 in
set_option maxRecDepth 100000 in
theorem nat_Cmp.calls (k:Nat) (a0:ByteArray) (a1:ByteArray) (r:Int) (w:World) (h:nat_Cmp.f k a0 a1=some r) :
  Calls Tryz.prog 187 #[.string a0,.string a1] w fun e w'=>e=.returned (.int .i64 r)∧Below w.heap.size w w':=by
 have HB:=Q.a (Below.refl w.heap.size w)
 have H:((nat_Normalize.f k a0).bind fun t103=>((nat_Normalize.f k a1).bind fun t104=>(if (t103.size:Int)=(t104.size:Int) then (nat_Cmp.l0 k t103 t104 (t103.size:Int) 0) else (if (t103.size:Int) < (t104.size:Int) then (some (-1)) else (some 1)))))=some r:=h
 clear h
 replace H:=Option.bind_eq_some_iff.mp H
 obtain ⟨t103,A30,H⟩:=H
 try dsimp only at H
 have A3:=Q.a A30
 clear A30
 replace H:=Option.bind_eq_some_iff.mp H
 obtain ⟨t104,A40,H⟩:=H
 try dsimp only at H
 have A4:=Q.a A40
 clear A40
 by_cases c5:(t103.size:Int)=(t104.size:Int)
 ·rw [if_pos c5] at H
  have c5b0:((t103.size:Int) == (t104.size:Int))=true:=beq_iff_eq.mpr c5
  have c5b1:((t103.size:Int) != (t104.size:Int))=false:=bne_eq_false_iff_eq.mpr c5
  have c5b2:(t103.size == t104.size)=true:=by first | simpa using c5 | (simp at c5 ⊢;omega)
  clear c5
  have H':=Q.a H
  clear H
  go_enter Tryz.func187,Tryz.ntmps187
  go_wp2_with (first | (go_at_call 162;(with_reducible refine (nat_Normalize.calls k a0 t103 _ A3.out).mono ?_);rintro e w6 ⟨rfl,hb⟩;replace HB:=Q.a (aAb (Q.bw HB) hb);(try clear hb)) | (go_at_call 162;(with_reducible refine (nat_Normalize.calls k a1 t104 _ A4.out).mono ?_);rintro e w7 ⟨rfl,hb⟩;replace HB:=Q.a (aAb (Q.bw HB) hb);(try clear hb)))
  repeat (go_quiet (first | (go_at_call 162;(with_reducible refine (nat_Normalize.calls k a0 t103 _ A3.out).mono ?_);rintro e w6 ⟨rfl,hb⟩;replace HB:=Q.a (aAb (Q.bw HB) hb);(try clear hb)) | (go_at_call 162;(with_reducible refine (nat_Normalize.calls k a1 t104 _ A4.out).mono ?_);rintro e w7 ⟨rfl,hb⟩;replace HB:=Q.a (aAb (Q.bw HB) hb);(try clear hb)));try go_wp2_with (first | (go_at_call 162;(with_reducible refine (nat_Normalize.calls k a0 t103 _ A3.out).mono ?_);rintro e w6 ⟨rfl,hb⟩;replace HB:=Q.a (aAb (Q.bw HB) hb);(try clear hb)) | (go_at_call 162;(with_reducible refine (nat_Normalize.calls k a1 t104 _ A4.out).mono ?_);rintro e w7 ⟨rfl,hb⟩;replace HB:=Q.a (aAb (Q.bw HB) hb);(try clear hb))))
  go_loopg [23] k (fun kq v23 w'=>∃ (x23_1:Int),v23=.int .i64 x23_1∧Aside0 (nat_Cmp.l0 kq t103 t104 (t103.size:Int) x23_1=some r)∧Aside0 (kq≤k)∧Aside0 (Below w.heap.size w w'))
  case atStart=>exact ⟨(0),Q.rs,H',⟨Nat.le_refl _⟩,⟨Q.bw HB⟩⟩
  case round =>
   clear H'
   try clear c1
   try clear p2
   try clear c5
   try clear c5b0
   try clear c5b1
   try clear c5b2
   obtain ⟨x23_1,rfl,HA,HK1,HB⟩:=hrel
   cases gk with
   | zero=>exact absurd HA.out (by simp [nat_Cmp.l0])
   | succ k1 =>
    have H:=HA.out
    clear HA
    simp only [nat_Cmp.l0] at H
    by_cases c8:x23_1 < (t103.size:Int)
    ·rw [if_pos c8] at H
     have c8b0:decide (x23_1 < (t103.size:Int))=true:=decide_eq_true c8
     clear c8
     obtain ⟨ji9,hji9⟩:∃ j_:Int,(wrap64 ((wrap64 ((t103.size:Int) - 1)) - x23_1))=j_:=⟨_,rfl⟩
     replace H:(if 0≤(ji9) then (if (ji9) < (t103.size:Int) then (if (ji9) < (t104.size:Int) then (if (bt t103 (ji9))=(bt t104 (ji9)) then (nat_Cmp.l0 k1 t103 t104 (t103.size:Int) (wrap64 (x23_1+1))) else (if (bt t103 (ji9)) < (bt t104 (ji9)) then (some (-1)) else (some 1))) else (none)) else (none)) else (none))=some r:=by first | (rw [hji9] at H;exact H) | (simp only [hji9] at H ⊢;exact H)
     have hji9w:(IntKind.i64.wrap ((wrap64 ((t103.size:Int) - 1)) - x23_1))=ji9:=(aAk _).trans hji9
     by_cases c10:0≤(ji9)
     ·rw [if_pos c10] at H
      have c10b0:decide (0≤(ji9))=true:=decide_eq_true c10
      clear c10
      by_cases c11:(ji9) < (t103.size:Int)
      ·rw [if_pos c11] at H
       have c11b0:decide ((ji9) < (t103.size:Int))=true:=decide_eq_true c11
       clear c11
       by_cases c13:(ji9) < (t104.size:Int)
       ·rw [if_pos c13] at H
        have c13b0:decide ((ji9) < (t104.size:Int))=true:=decide_eq_true c13
        clear c13
        by_cases c15:(bt t103 (ji9))=(bt t104 (ji9))
        ·rw [if_pos c15] at H
         have c15b0:((bt t103 (ji9)) == (bt t104 (ji9)))=true:=beq_iff_eq.mpr c15
         have c15b1:((bt t103 (ji9)) != (bt t104 (ji9)))=false:=bne_eq_false_iff_eq.mpr c15
         clear c15
         have H':=Q.a H
         clear H
         have p12:0≤((ji9):Int):=of_decide_eq_true (by first | (with_reducible assumption) | assumption)
         have q12:(ji9) < (t103.size:Int):=of_decide_eq_true (by first | (with_reducible assumption) | assumption)
         have hx12:=aBq t103 (ji9)
         replace p12:=eq_true p12
         replace q12:=eq_true q12
         have p14:0≤((ji9):Int):=of_decide_eq_true (by first | (with_reducible assumption) | assumption)
         have q14:(ji9) < (t104.size:Int):=of_decide_eq_true (by first | (with_reducible assumption) | assumption)
         have hx14:=aBq t104 (ji9)
         replace p14:=eq_true p14
         replace q14:=eq_true q14
         go_wp2
         repeat (go_quiet (fail);try go_wp2)
         go_roundg k1
         case measure=>have:=HK1.out;omega
         case rel=>exact ⟨(wrap64 (x23_1+1)),Q.rs,H',⟨by have:=HK1.out;omega⟩,⟨Q.bw HB⟩⟩
        ·rw [if_neg c15] at H
         have c15b0:((bt t103 (ji9)) == (bt t104 (ji9)))=false:=beq_eq_false_iff_ne.mpr c15
         have c15b1:((bt t103 (ji9)) != (bt t104 (ji9)))=true:=bne_iff_ne.mpr c15
         by_cases c18:(bt t103 (ji9)) < (bt t104 (ji9))
         ·rw [if_pos c18] at H
          have c18b0:decide ((bt t103 (ji9)) < (bt t104 (ji9)))=true:=decide_eq_true c18
          clear c18
          obtain rfl:=Option.some.inj H
          have p12:0≤((ji9):Int):=of_decide_eq_true (by first | (with_reducible assumption) | assumption)
          have q12:(ji9) < (t103.size:Int):=of_decide_eq_true (by first | (with_reducible assumption) | assumption)
          have hx12:=aBq t103 (ji9)
          replace p12:=eq_true p12
          replace q12:=eq_true q12
          have p14:0≤((ji9):Int):=of_decide_eq_true (by first | (with_reducible assumption) | assumption)
          have q14:(ji9) < (t104.size:Int):=of_decide_eq_true (by first | (with_reducible assumption) | assumption)
          have hx14:=aBq t104 (ji9)
          replace p14:=eq_true p14
          replace q14:=eq_true q14
          have p16:0≤((ji9):Int):=of_decide_eq_true (by first | (with_reducible assumption) | assumption)
          have q16:(ji9) < (t103.size:Int):=of_decide_eq_true (by first | (with_reducible assumption) | assumption)
          have hx16:=aBq t103 (ji9)
          replace p16:=eq_true p16
          replace q16:=eq_true q16
          have p17:0≤((ji9):Int):=of_decide_eq_true (by first | (with_reducible assumption) | assumption)
          have q17:(ji9) < (t104.size:Int):=of_decide_eq_true (by first | (with_reducible assumption) | assumption)
          have hx17:=aBq t104 (ji9)
          replace p17:=eq_true p17
          replace q17:=eq_true q17
          go_wp2
          repeat (go_quiet (fail);try go_wp2)
          go_ret
          exact ⟨by first | rfl | (simp [aAu,aAv]<;>rfl) | (simp only [← hji9];first | rfl | (simp [aAu,aAv]<;>rfl)) | (simp [*,aAu,aAv]<;>rfl),Q.bw HB⟩
         ·rw [if_neg c18] at H
          have c18b0:decide ((bt t103 (ji9)) < (bt t104 (ji9)))=false:=decide_eq_false c18
          clear c18
          obtain rfl:=Option.some.inj H
          have p12:0≤((ji9):Int):=of_decide_eq_true (by first | (with_reducible assumption) | assumption)
          have q12:(ji9) < (t103.size:Int):=of_decide_eq_true (by first | (with_reducible assumption) | assumption)
          have hx12:=aBq t103 (ji9)
          replace p12:=eq_true p12
          replace q12:=eq_true q12
          have p14:0≤((ji9):Int):=of_decide_eq_true (by first | (with_reducible assumption) | assumption)
          have q14:(ji9) < (t104.size:Int):=of_decide_eq_true (by first | (with_reducible assumption) | assumption)
          have hx14:=aBq t104 (ji9)
          replace p14:=eq_true p14
          replace q14:=eq_true q14
          have p16:0≤((ji9):Int):=of_decide_eq_true (by first | (with_reducible assumption) | assumption)
          have q16:(ji9) < (t103.size:Int):=of_decide_eq_true (by first | (with_reducible assumption) | assumption)
          have hx16:=aBq t103 (ji9)
          replace p16:=eq_true p16
          replace q16:=eq_true q16
          have p17:0≤((ji9):Int):=of_decide_eq_true (by first | (with_reducible assumption) | assumption)
          have q17:(ji9) < (t104.size:Int):=of_decide_eq_true (by first | (with_reducible assumption) | assumption)
          have hx17:=aBq t104 (ji9)
          replace p17:=eq_true p17
          replace q17:=eq_true q17
          go_wp2
          repeat (go_quiet (fail);try go_wp2)
          go_ret
          exact ⟨by first | rfl | (simp [aAu,aAv]<;>rfl) | (simp only [← hji9];first | rfl | (simp [aAu,aAv]<;>rfl)) | (simp [*,aAu,aAv]<;>rfl),Q.bw HB⟩
       ·rw [if_neg c13] at H
        exact absurd H (by simp)
      ·rw [if_neg c11] at H
       exact absurd H (by simp)
     ·rw [if_neg c10] at H
      exact absurd H (by simp)
    ·rw [if_neg c8] at H
     have c8b0:decide (x23_1 < (t103.size:Int))=false:=decide_eq_false c8
     clear c8
     obtain rfl:=Option.some.inj H
     go_wp2
     repeat (go_quiet (fail);try go_wp2)
     go_ret
     exact ⟨Q.en,Q.bw HB⟩
 ·rw [if_neg c5] at H
  have c5b0:((t103.size:Int) == (t104.size:Int))=false:=beq_eq_false_iff_ne.mpr c5
  have c5b1:((t103.size:Int) != (t104.size:Int))=true:=bne_iff_ne.mpr c5
  have c5b2:(t103.size == t104.size)=false:=by first | simpa using c5 | (simp at c5 ⊢;omega)
  by_cases c19:(t103.size:Int) < (t104.size:Int)
  ·rw [if_pos c19] at H
   have c19b0:decide ((t103.size:Int) < (t104.size:Int))=true:=decide_eq_true c19
   have c19b1:decide (t103.size < t104.size)=true:=decide_eq_true (Int.ofNat_lt.mp c19)
   clear c19
   obtain rfl:=Option.some.inj H
   go_enter Tryz.func187,Tryz.ntmps187
   go_wp2_with (first | (go_at_call 162;(with_reducible refine (nat_Normalize.calls k a0 t103 _ A3.out).mono ?_);rintro e w20 ⟨rfl,hb⟩;replace HB:=Q.a (aAb (Q.bw HB) hb);(try clear hb)) | (go_at_call 162;(with_reducible refine (nat_Normalize.calls k a1 t104 _ A4.out).mono ?_);rintro e w21 ⟨rfl,hb⟩;replace HB:=Q.a (aAb (Q.bw HB) hb);(try clear hb)))
   repeat (go_quiet (first | (go_at_call 162;(with_reducible refine (nat_Normalize.calls k a0 t103 _ A3.out).mono ?_);rintro e w20 ⟨rfl,hb⟩;replace HB:=Q.a (aAb (Q.bw HB) hb);(try clear hb)) | (go_at_call 162;(with_reducible refine (nat_Normalize.calls k a1 t104 _ A4.out).mono ?_);rintro e w21 ⟨rfl,hb⟩;replace HB:=Q.a (aAb (Q.bw HB) hb);(try clear hb)));try go_wp2_with (first | (go_at_call 162;(with_reducible refine (nat_Normalize.calls k a0 t103 _ A3.out).mono ?_);rintro e w20 ⟨rfl,hb⟩;replace HB:=Q.a (aAb (Q.bw HB) hb);(try clear hb)) | (go_at_call 162;(with_reducible refine (nat_Normalize.calls k a1 t104 _ A4.out).mono ?_);rintro e w21 ⟨rfl,hb⟩;replace HB:=Q.a (aAb (Q.bw HB) hb);(try clear hb))))
   go_ret
   exact ⟨Q.en,Q.bw HB⟩
  ·rw [if_neg c19] at H
   have c19b0:decide ((t103.size:Int) < (t104.size:Int))=false:=decide_eq_false c19
   have c19b1:decide (t103.size < t104.size)=false:=decide_eq_false (fun h=>c19 (Int.ofNat_lt.mpr h))
   clear c19
   obtain rfl:=Option.some.inj H
   go_enter Tryz.func187,Tryz.ntmps187
   go_wp2_with (first | (go_at_call 162;(with_reducible refine (nat_Normalize.calls k a0 t103 _ A3.out).mono ?_);rintro e w22 ⟨rfl,hb⟩;replace HB:=Q.a (aAb (Q.bw HB) hb);(try clear hb)) | (go_at_call 162;(with_reducible refine (nat_Normalize.calls k a1 t104 _ A4.out).mono ?_);rintro e w23 ⟨rfl,hb⟩;replace HB:=Q.a (aAb (Q.bw HB) hb);(try clear hb)))
   repeat (go_quiet (first | (go_at_call 162;(with_reducible refine (nat_Normalize.calls k a0 t103 _ A3.out).mono ?_);rintro e w22 ⟨rfl,hb⟩;replace HB:=Q.a (aAb (Q.bw HB) hb);(try clear hb)) | (go_at_call 162;(with_reducible refine (nat_Normalize.calls k a1 t104 _ A4.out).mono ?_);rintro e w23 ⟨rfl,hb⟩;replace HB:=Q.a (aAb (Q.bw HB) hb);(try clear hb)));try go_wp2_with (first | (go_at_call 162;(with_reducible refine (nat_Normalize.calls k a0 t103 _ A3.out).mono ?_);rintro e w22 ⟨rfl,hb⟩;replace HB:=Q.a (aAb (Q.bw HB) hb);(try clear hb)) | (go_at_call 162;(with_reducible refine (nat_Normalize.calls k a1 t104 _ A4.out).mono ?_);rintro e w23 ⟨rfl,hb⟩;replace HB:=Q.a (aAb (Q.bw HB) hb);(try clear hb))))
   go_ret
   exact ⟨Q.en,Q.bw HB⟩
def nat_limbs.l0:Nat→ByteArray→List Int→Int→Int→Option (List Int)
 | 0,_,_,_,_=>none
 | k+1,x0,x3,x14,x15=>if x15 < x14 then (if 0≤(wrap64 (Int.tdiv x15 4)) then (if (wrap64 (Int.tdiv x15 4)) < (x3.length:Int) then (if 0≤x15 then (if x15 < (x0.size:Int) then (if 0≤(wrap64 (8*(Int.tmod x15 4))) then (nat_limbs.l0 k x0 (x3.set ((wrap64 (Int.tdiv x15 4)):Int).toNat (Go.bits .or .u32 (rd x3 (wrap64 (Int.tdiv x15 4))) (shl .u32 ((bt x0 x15) % 4294967296) (wrap64 (8*(Int.tmod x15 4)))))) x14 (wrap64 (x15+1))) else (none)) else (none)) else (none)) else (none)) else (none)) else (some x3)
def nat_limbs.f (k:Nat) (a0:ByteArray):Option (List Int):=(nat_Normalize.f k a0).bind fun t105=>(if 0≤(wrap64 (Int.tdiv (wrap64 ((wrap64 ((t105.size:Int)+4)) - 1)) 4)) then (if (wrap64 (Int.tdiv (wrap64 ((wrap64 ((t105.size:Int)+4)) - 1)) 4):Int).toNat≤70368744177664 then (nat_limbs.l0 k t105 (List.replicate (wrap64 (Int.tdiv (wrap64 ((wrap64 ((t105.size:Int)+4)) - 1)) 4):Int).toNat 0) (t105.size:Int) 0) else (none)) else (none))
theorem nat_limbs.mono_l:∀ k,(∀ y0 y1 y2 y3,LeO (nat_limbs.l0 k y0 y1 y2 y3) (nat_limbs.l0 (k+1) y0 y1 y2 y3))
 | 0=>fun _ _ _ _ r h=>by simp [nat_limbs.l0] at h
 | k+1=>by
  have ih0:=nat_limbs.mono_l k
  ·intro y0 y1 y2 y3
   unfold nat_limbs.l0
   repeat' first
   | (with_reducible exact ih0 _ _ _ _)
   | (with_reducible exact nat_Normalize.mono _ _)
   | (with_reducible exact LeO.refl _)
   | (with_reducible exact LeO.none _)
   | (with_reducible refine LeO.ite ?_ ?_)
   | (with_reducible refine LeO.bind ?_ (fun _=>?_))
   | exact ih0 _ _ _ _
   | exact nat_Normalize.mono _ _
   | exact LeO.none _
   | refine LeO.ite ?_ ?_
   | refine LeO.bind ?_ (fun _=>?_)
theorem nat_limbs.mono:∀ a0 k,LeO (nat_limbs.f k a0) (nat_limbs.f (k+1) a0):=by
 intro a0 k
 have ih0:=nat_limbs.mono_l k
 unfold nat_limbs.f
 repeat' first
   | (with_reducible exact ih0 _ _ _ _)
   | (with_reducible exact nat_Normalize.mono _ _)
   | (with_reducible exact LeO.refl _)
   | (with_reducible exact LeO.none _)
   | (with_reducible refine LeO.ite ?_ ?_)
   | (with_reducible refine LeO.bind ?_ (fun _=>?_))
   | exact ih0 _ _ _ _
   | exact nat_Normalize.mono _ _
   | exact LeO.none _
   | refine LeO.ite ?_ ?_
   | refine LeO.bind ?_ (fun _=>?_)
def nat_limbs.T6:Bool × List (List Nat × List Nat):=(true,[([],[]),([],[]),([1],[1]),([0,2],[0,2]),([3],[3]),([],[]),([],[]),([5,6],[5,6]),([7],[7]),([],[]),([9],[9]),([10],[10]),([8,11],[8,11]),([4,12],[4,12]),([0,2,0,1,2,3,4,5,6,7,8,9,10,11,12,13],[0,2]),([14,13,0,1,2,3,4,5,6,7,8,9,10,11,12,13],[13,14])])
def nat_limbs.B6:List Nat:=[0,0,2,7,15,0,0,96,224,0,512,1536,4064,8191,16383,32767]
theorem nat_limbs.tab6:aBl .any (opsOf Tryz.f164 6)=nat_limbs.T6:=by kernel_rfl
theorem nat_limbs.bits6:aDm nat_limbs.T6.2 nat_limbs.B6=true:=by kernel_rfl
set_option maxHeartbeats 8000000 in
set_option maxRecDepth 100000 in
theorem nat_limbs.calls (k:Nat) (a0:ByteArray) (r:List Int) (w:World) (h:nat_limbs.f k a0=some r) :
  Calls Tryz.prog 164 #[.string a0] w fun e w'=>∃ v0_:Value,e=.returned (v0_)∧Kd.R (Kd.int .u32) 178 w' w.heap.size (fun _=>True) v0_ r∧Below w.heap.size w w':=by
 have HB:=Q.a (Below.refl w.heap.size w)
 have H:((nat_Normalize.f k a0).bind fun t105=>(if 0≤(wrap64 (Int.tdiv (wrap64 ((wrap64 ((t105.size:Int)+4)) - 1)) 4)) then (if (wrap64 (Int.tdiv (wrap64 ((wrap64 ((t105.size:Int)+4)) - 1)) 4):Int).toNat≤70368744177664 then (nat_limbs.l0 k t105 (List.replicate (wrap64 (Int.tdiv (wrap64 ((wrap64 ((t105.size:Int)+4)) - 1)) 4):Int).toNat 0) (t105.size:Int) 0) else (none)) else (none)))=some r:=h
 clear h
 replace H:=Option.bind_eq_some_iff.mp H
 obtain ⟨t105,A20,H⟩:=H
 try dsimp only at H
 have A2:=Q.a A20
 clear A20
 obtain ⟨ji3,hji3⟩:∃ j_:Int,(wrap64 (Int.tdiv (wrap64 ((wrap64 ((t105.size:Int)+4)) - 1)) 4))=j_:=⟨_,rfl⟩
 replace H:(if 0≤(ji3) then (if (ji3:Int).toNat≤70368744177664 then (nat_limbs.l0 k t105 (List.replicate (ji3:Int).toNat 0) (t105.size:Int) 0) else (none)) else (none))=some r:=by first | (rw [hji3] at H;exact H) | (simp only [hji3] at H ⊢;exact H)
 (try rw [hji3] at A2)
 have hji3w:(IntKind.i64.wrap (Int.tdiv (wrap64 ((wrap64 ((t105.size:Int)+4)) - 1)) 4))=ji3:=(aAk _).trans hji3
 by_cases c4:0≤(ji3)
 ·rw [if_pos c4] at H
  have c4b0:=eq_true c4
  have c4b1:decide (0≤(ji3))=true:=decide_eq_true c4
  clear c4
  by_cases c5:(ji3:Int).toNat≤70368744177664
  ·rw [if_pos c5] at H
   have c5b0:=eq_true c5
   have c5b1:decide ((ji3:Int).toNat≤70368744177664)=true:=decide_eq_true c5
   clear c5
   obtain ⟨y106,hy106⟩:∃ y_:List Int,y_=(List.replicate (ji3:Int).toNat 0):=⟨_,rfl⟩
   replace H:(nat_limbs.l0 k t105 y106 (t105.size:Int) 0)=some r:=by first | (rw [hy106];with_reducible exact H) | (have H2_:=(Option.bind_some _ _).symm.trans H;rw [hy106];with_reducible exact H2_) | (have H2_:=(Option.bind_some _ _).symm.trans H;with_reducible exact H2_) | with_reducible exact H | (rw [hy106];exact H) | exact H
   have Ny106:=Q.a hy106
   clear hy106
   have H':=Q.a H
   clear H
   go_enter Tryz.func164,Tryz.ntmps164
   go_wp2_with (first | ((with_reducible refine aAe (f:=162) rfl ?_);refine Q.gl 6 Tryz.func162 #[.string a0] rfl rfl rfl rfl ?_;(with_reducible refine (nat_Normalize.calls k a0 t105 _ A2.out).mono ?_);rintro e w6 ⟨rfl,hb⟩;refine ⟨_,rfl,?_⟩;replace HB:=Q.a (aAb (Q.bw HB) hb);(try clear hb)) | ((with_reducible refine aB5 (N:=12) rfl ?_);refine Kd.R_make (Kd.int .u32) _ 178 rfl (N:=12) rfl 176 _ _ rfl ji3 rfl rfl Tryz.underlying176 (.int .u32 0) 4 aAQ rfl (by decide) (by omega) 0 (ok:=fun _=>True) (okp:=fun _=>True) rfl (fun _ hk=>hk) trivial Q.od (Nat.le_trans (Nat.mul_le_mul_right _ (of_decide_eq_true (by first | (with_reducible assumption) | assumption):ji3.toNat≤70368744177664)) (by omega)) (Below.refl _ _) (Nat.le_refl _) ?_;intro v107 w7 ho8 hb hg_ hnew_;clear hg_ hnew_;(first | rw [← Ny106.out] at ho8 | (simp only [Int.reduceToNat] at ho8;rw [← Ny106.out] at ho8));replace HO108:=Q.a (Kd.R_lower ho8 (aAh (Q.bw HB)));replace HB:=Q.a (aAb (Q.bw HB) hb);clear hb ho8))
   go_loopg [15] k (fun kq v15 w'=>∃ (x3_1:List Int) (x15_1:Int),v15=.int .i64 x15_1∧Aside0 (nat_limbs.l0 kq t105 x3_1 (t105.size:Int) x15_1=some r)∧Aside0 (kq≤k)∧Aside0 (Kd.R (Kd.int .u32) 178 w' w.heap.size (fun _=>True) v107 x3_1)∧Aside0 (Below w.heap.size w w'))
   case atStart=>exact ⟨(y106),(0),Q.rs,H',⟨Nat.le_refl _⟩,⟨Q.kr HO108⟩,⟨Q.bw HB⟩⟩
   case round =>
    clear H'
    try clear c1
    try clear p2
    try clear c4
    try clear c4b0
    try clear c4b1
    try clear c5
    try clear c5b0
    try clear c5b1
    try clear p6
    obtain ⟨x3_1,x15_1,rfl,HA,HK1,HO_3,HB⟩:=hrel
    cases gk with
    | zero=>exact absurd HA.out (by simp [nat_limbs.l0])
    | succ k1 =>
     have H:=HA.out
     clear HA
     simp only [nat_limbs.l0] at H
     by_cases c9:x15_1 < (t105.size:Int)
     ·rw [if_pos c9] at H
      have c9b0:decide (x15_1 < (t105.size:Int))=true:=decide_eq_true c9
      clear c9
      obtain ⟨ji10,hji10⟩:∃ j_:Int,(wrap64 (Int.tdiv x15_1 4))=j_:=⟨_,rfl⟩
      replace H:(if 0≤(ji10) then (if (ji10) < (x3_1.length:Int) then (if 0≤x15_1 then (if x15_1 < (t105.size:Int) then (if 0≤(wrap64 (8*(Int.tmod x15_1 4))) then (nat_limbs.l0 k1 t105 (x3_1.set ((ji10):Int).toNat (Go.bits .or .u32 (rd x3_1 (ji10)) (shl .u32 ((bt t105 x15_1) % 4294967296) (wrap64 (8*(Int.tmod x15_1 4)))))) (t105.size:Int) (wrap64 (x15_1+1))) else (none)) else (none)) else (none)) else (none)) else (none))=some r:=by first | (rw [hji10] at H;exact H) | (simp only [hji10] at H ⊢;exact H)
      have hji10w:(IntKind.i64.wrap (Int.tdiv x15_1 4))=ji10:=(aAk _).trans hji10
      by_cases c11:0≤(ji10)
      ·rw [if_pos c11] at H
       have c11b0:decide (0≤(ji10))=true:=decide_eq_true c11
       clear c11
       by_cases c12:(ji10) < (x3_1.length:Int)
       ·rw [if_pos c12] at H
        have c12b0:decide ((ji10) < (x3_1.length:Int))=true:=decide_eq_true c12
        clear c12
        by_cases c13:0≤x15_1
        ·rw [if_pos c13] at H
         have c13b0:decide (0≤x15_1)=true:=decide_eq_true c13
         clear c13
         by_cases c14:x15_1 < (t105.size:Int)
         ·rw [if_pos c14] at H
          have c14b0:decide (x15_1 < (t105.size:Int))=true:=decide_eq_true c14
          clear c14
          obtain ⟨ji16,hji16⟩:∃ j_:Int,(wrap64 (8*(Int.tmod x15_1 4)))=j_:=⟨_,rfl⟩
          replace H:(if 0≤(ji16) then (nat_limbs.l0 k1 t105 (x3_1.set ((ji10):Int).toNat (Go.bits .or .u32 (rd x3_1 (ji10)) (shl .u32 ((bt t105 x15_1) % 4294967296) (ji16)))) (t105.size:Int) (wrap64 (x15_1+1))) else (none))=some r:=by first | (rw [hji16] at H;exact H) | (simp only [hji16] at H ⊢;exact H)
          have hji16w:(IntKind.i64.wrap (8*(Int.tmod x15_1 4)))=ji16:=(aAk _).trans hji16
          by_cases c17:0≤(ji16)
          ·rw [if_pos c17] at H
           have c17b0:=eq_true c17
           have c17b1:decide (0≤(ji16))=true:=decide_eq_true c17
           clear c17
           obtain ⟨ji18,hji18⟩:∃ j_:Int,(shl .u32 ((bt t105 x15_1) % 4294967296) (ji16))=j_:=⟨_,rfl⟩
           replace H:(nat_limbs.l0 k1 t105 (x3_1.set ((ji10):Int).toNat (Go.bits .or .u32 (rd x3_1 (ji10)) (ji18))) (t105.size:Int) (wrap64 (x15_1+1)))=some r:=by first | (rw [hji18] at H;exact H) | (simp only [hji18] at H ⊢;exact H)
           have hji18_:(IntKind.u32.wrap (((bt t105 x15_1) % 4294967296)*2 ^ min (ji16).toNat 32))=ji18:=hji18
           have hji18z:(ji16)≤32→(IntKind.u32.wrap (((bt t105 x15_1) % 4294967296)*2 ^ (ji16).toNat))=ji18:=aFk hji18
           have hji18y:((((bt t105 x15_1) % 4294967296)*2 ^ min (ji16).toNat 32) % 4294967296)=ji18:=(IntKind.wrap_u32 _).symm.trans hji18_
           have hji18x:(ji16)≤32→((((bt t105 x15_1) % 4294967296)*2 ^ (ji16).toNat) % 4294967296)=ji18:=fun h_=>(IntKind.wrap_u32 _).symm.trans (hji18z h_)
           obtain ⟨y110,hy110⟩:∃ y_:List Int,y_=(x3_1.set ((ji10):Int).toNat (Go.bits .or .u32 (rd x3_1 (ji10)) (ji18))):=⟨_,rfl⟩
           replace H:(nat_limbs.l0 k1 t105 y110 (t105.size:Int) (wrap64 (x15_1+1)))=some r:=by first | (rw [hy110];with_reducible exact H) | (have H2_:=(Option.bind_some _ _).symm.trans H;rw [hy110];with_reducible exact H2_) | (have H2_:=(Option.bind_some _ _).symm.trans H;with_reducible exact H2_) | with_reducible exact H | (rw [hy110];exact H) | exact H
           have Ny110:=Q.a hy110
           clear hy110
           have H':=Q.a H
           clear H
           try go_wp2
           replace HO_3:=Q.a (Kd.R_drew HO_3.out)
           replace HB:=Q.a (aAw HB.out)
           obtain ⟨Ao21,co21,eo21⟩:=Kd.R_slice HO_3.out
           (first | subst eo21 | (injection eo21 with f1_ f2_ f3_;have f4_:=f1_.symm;have f5_:=f3_.symm;clear f1_ f2_ f3_;subst f4_;subst f5_))
           have p109:0≤((ji10):Int):=of_decide_eq_true (by first | (with_reducible assumption) | assumption)
           have q109:(ji10) < (x3_1.length:Int):=of_decide_eq_true (by first | (with_reducible assumption) | assumption)
           obtain ⟨ad109,e109,hx109_0⟩:=Kd.at_int (Kd.R_reads' HO_3.out).2.2 (ji10) p109 q109
           cases e109
           replace p109:=eq_true p109
           replace q109:=eq_true q109
           have p15:0≤(x15_1:Int):=of_decide_eq_true (by first | (with_reducible assumption) | assumption)
           have q15:x15_1 < (t105.size:Int):=of_decide_eq_true (by first | (with_reducible assumption) | assumption)
           have hx15:=aBq t105 x15_1
           replace p15:=eq_true p15
           replace q15:=eq_true q15
           have p19:0≤((ji10):Int):=of_decide_eq_true (by first | (with_reducible assumption) | assumption)
           have q19:((ji10):Int) < ((x3_1.length:Int):Int):=of_decide_eq_true (by first | (with_reducible assumption) | assumption)
           obtain ⟨go19,co19,eo19,gb19,gl19,cl19,HG19⟩:=Kd.R_form HO_3.out (by omega)
           (first | cases eo19 | (injection eo19 with ea_ en_ ec_;(first | subst ea_ | (injection ea_ with ea_;subst ea_));subst ec_;clear en_))
           have GB19:=Q.a gb19
           have GG19:=Q.a HG19
           clear gb19 gl19 HG19
           (first | simp only [add_plain] at hx109_0 | skip)
           obtain ⟨hx19_0,hf19_0⟩:=Kd.R_celln 0 HO_3.out ((ji10):Int) p19 q19
           replace p19:=eq_true p19
           replace q19:=eq_true q19
           have HP22:=Kd.R_putn HO_3.out ((ji10):Int) (Go.bits .or .u32 (rd x3_1 (ji10)) (ji18))
           rw [← Ny110.out] at HP22
           have HQ22:=Q.a HP22
           clear HP22
           refine aM9 (n:=16) (S:=fun w'=>w'.cell? ⟨go19,((ji10)).toNat,none⟩=some (.int .u32 (rd x3_1 (ji10)))) (ds:=[15]) #[false,false,false,false,false,false,false,false,false,false,false,false,false,false,false,false] (by kernel_rfl) rfl rfl (hx109_0) (fun hHeld=>?_);refine aIm nat_limbs.tab6 nat_limbs.bits6 (fun HT_ HW_=>?_)
           generalize wr.drew=w20 at HO_3 HB GG19 HQ22 hf19_0 hx109_0 hx19_0 hHeld ⊢
           refine aAW (i:=0) (N:=some 18) (v:=?_) (a':=?_) #[true,false,false,false,false,false,false,false,false,false,false,false,false,false,false,false] rfl rfl (aAD HT_.out (by kernel_rfl)) (fun _ _ _ h=>h) (Or.inl ⟨by rfl,?_⟩) ?_ ?_
           rotate_left
           ·intro w'
            go_simp
            with_reducible rfl
           rotate_left
           ·simp only [Act.put,List.setIfInBounds_toArray,List.set_cons_zero,List.set_cons_succ,aAk,aA0]
            rfl
           refine aAW (i:=1) (N:=some 19) (v:=?_) (a':=?_) #[true,true,false,false,false,false,false,false,false,false,false,false,false,false,false,false] rfl rfl (aAD HT_.out (by kernel_rfl)) (fun _ _ _ h=>h) (Or.inl ⟨by rfl,?_⟩) ?_ ?_
           rotate_left
           ·intro w'
            go_simp
            with_reducible rfl
           rotate_left
           ·simp only [Act.put,List.setIfInBounds_toArray,List.set_cons_zero,List.set_cons_succ,aAk,aA0]
            rfl
           refine aAW (i:=2) (N:=some 20) (v:=?_) (a':=?_) #[true,true,true,false,false,false,false,false,false,false,false,false,false,false,false,false] rfl rfl (aAD HT_.out (by kernel_rfl)) (fun _ _ _ h=>h) (Or.inl ⟨by rfl,?_⟩) ?_ ?_
           rotate_left
           ·intro w'
            go_simp
            with_reducible rfl
           rotate_left
           ·simp only [Act.put,List.setIfInBounds_toArray,List.set_cons_zero,List.set_cons_succ,aAk,aA0]
            rfl
           refine aAW (i:=3) (N:=some 21) (v:=?_) (a':=?_) #[true,true,true,true,false,false,false,false,false,false,false,false,false,false,false,false] rfl rfl (aAD HT_.out (by kernel_rfl)) (fun _ _ _ h=>h) (Or.inl ⟨by rfl,?_⟩) ?_ ?_
           rotate_left
           ·intro w'
            go_simp
            with_reducible rfl
           rotate_left
           ·simp only [Act.put,List.setIfInBounds_toArray,List.set_cons_zero,List.set_cons_succ,aAk,aA0]
            rfl
           refine aAW (i:=5) (N:=some 23) (v:=?_) (a':=?_) #[true,true,true,true,false,true,false,false,false,false,false,false,false,false,false,false] rfl rfl (aAD HT_.out (by kernel_rfl)) (fun _ _ _ h=>h) (Or.inl ⟨by rfl,?_⟩) ?_ ?_
           rotate_left
           ·intro w'
            go_simp
            with_reducible rfl
           rotate_left
           ·simp only [Act.put,List.setIfInBounds_toArray,List.set_cons_zero,List.set_cons_succ,aAk,aA0]
            rfl
           refine aAW (i:=6) (N:=some 24) (v:=?_) (a':=?_) #[true,true,true,true,false,true,true,false,false,false,false,false,false,false,false,false] rfl rfl (aAD HT_.out (by kernel_rfl)) (fun _ _ _ h=>h) (Or.inl ⟨by rfl,?_⟩) ?_ ?_
           rotate_left
           ·intro w'
            go_simp
            with_reducible rfl
           rotate_left
           ·simp only [Act.put,List.setIfInBounds_toArray,List.set_cons_zero,List.set_cons_succ,aAk,aA0]
            rfl
           refine aAW (i:=9) (N:=some 27) (v:=?_) (a':=?_) #[true,true,true,true,false,true,true,false,false,true,false,false,false,false,false,false] rfl rfl (aAD HT_.out (by kernel_rfl)) (fun _ _ _ h=>h) (Or.inl ⟨by rfl,?_⟩) ?_ ?_
           rotate_left
           ·intro w'
            go_simp
            with_reducible rfl
           rotate_left
           ·simp only [Act.put,List.setIfInBounds_toArray,List.set_cons_zero,List.set_cons_succ,aAk,aA0]
            rfl
           refine aAW (i:=10) (N:=some 28) (v:=?_) (a':=?_) #[true,true,true,true,false,true,true,false,false,true,true,false,false,false,false,false] rfl rfl (aAD HT_.out (by kernel_rfl)) (fun _ _ _ h=>h) (Or.inl ⟨by rfl,?_⟩) ?_ ?_
           rotate_left
           ·intro w'
            go_simp
            with_reducible rfl
           rotate_left
           ·simp only [Act.put,List.setIfInBounds_toArray,List.set_cons_zero,List.set_cons_succ,aAk,aA0]
            rfl
           refine aAW (i:=11) (N:=some 29) (v:=?_) (a':=?_) #[true,true,true,true,false,true,true,false,false,true,true,true,false,false,false,false] rfl rfl (aAD HT_.out (by kernel_rfl)) (fun _ _ _ h=>h) (Or.inl ⟨by rfl,?_⟩) ?_ ?_
           rotate_left
           ·intro w'
            go_simp
            with_reducible rfl
           rotate_left
           ·simp only [Act.put,List.setIfInBounds_toArray,List.set_cons_zero,List.set_cons_succ,aAk,aA0]
            rfl
           refine take_ (i:=4) (N:=some 22) (v:=?_) (a':=?_) #[true,true,true,true,true,true,true,false,false,true,true,true,false,false,false,false] rfl rfl (aGo HT_.out HW_.out (by kernel_rfl)) (fun _ _ _ h=>h) (Or.inl ⟨by rfl,?_⟩) hHeld ?_ ?_
           rotate_left
           ·intro w' s0
            go_simp
            with_reducible rfl
           rotate_left
           ·simp only [Act.put,List.setIfInBounds_toArray,List.set_cons_zero,List.set_cons_succ,aAk,aA0]
            rfl
           refine take_ (i:=7) (N:=some 25) (v:=?_) (a':=?_) #[true,true,true,true,true,true,true,true,false,true,true,true,false,false,false,false] rfl rfl (aGo HT_.out HW_.out (by kernel_rfl)) (fun _ _ _ h=>h) (Or.inl ⟨by rfl,?_⟩) hHeld ?_ ?_
           rotate_left
           ·intro w' s0
            go_simp
            with_reducible rfl
           rotate_left
           ·simp only [Act.put,List.setIfInBounds_toArray,List.set_cons_zero,List.set_cons_succ,aAk,aA0]
            rfl
           refine aAW (i:=8) (N:=some 26) (v:=?_) (a':=?_) #[true,true,true,true,true,true,true,true,true,true,true,true,false,false,false,false] rfl rfl (aAD HT_.out (by kernel_rfl)) (fun _ _ _ h=>h) (Or.inl ⟨by rfl,?_⟩) ?_ ?_
           rotate_left
           ·intro w'
            go_simp
            with_reducible rfl
           rotate_left
           ·simp only [Act.put,List.setIfInBounds_toArray,List.set_cons_zero,List.set_cons_succ,aAk,aA0]
            rfl
           refine aAW (i:=12) (N:=some 30) (v:=?_) (a':=?_) #[true,true,true,true,true,true,true,true,true,true,true,true,true,false,false,false] rfl rfl (aAD HT_.out (by kernel_rfl)) (fun _ _ _ h=>h) (Or.inl ⟨by rfl,?_⟩) ?_ ?_
           rotate_left
           ·intro w'
            go_simp
            with_reducible rfl
           rotate_left
           ·simp only [Act.put,List.setIfInBounds_toArray,List.set_cons_zero,List.set_cons_succ,aAk,aA0]
            rfl
           refine aAW (i:=13) (N:=some 31) (v:=?_) (a':=?_) #[true,true,true,true,true,true,true,true,true,true,true,true,true,true,false,false] rfl rfl (aAD HT_.out (by kernel_rfl)) (fun _ _ _ h=>h) (Or.inl ⟨by rfl,?_⟩) ?_ ?_
           rotate_left
           ·intro w'
            go_simp
            with_reducible rfl
           rotate_left
           ·simp only [Act.put,List.setIfInBounds_toArray,List.set_cons_zero,List.set_cons_succ,aAk,aA0]
            rfl
           refine aAW (i:=14) (N:=some 32) (v:=?_) (a':=?_) #[true,true,true,true,true,true,true,true,true,true,true,true,true,true,true,false] rfl rfl (aAD HT_.out (by kernel_rfl)) (fun _ _ _ h=>h) (Or.inl ⟨by rfl,?_⟩) ?_ ?_
           rotate_left
           ·intro w'
            go_simp
            with_reducible rfl
           rotate_left
           ·simp only [Act.put,List.setIfInBounds_toArray,List.set_cons_zero,List.set_cons_succ,aAk,aA0]
            rfl
           refine aQz (i:=15) (N:=none) #[true,true,true,true,true,true,true,true,true,true,true,true,true,true,true,true] rfl rfl (aJA HT_.out (by kernel_rfl)) (by decide) (fun K hK=>?_)
           refine aQ1 (w1:=?_) (by rfl) rfl ?_ ?_
           rotate_left
           ·go_simp
            rfl
           refine hK.out _ _ ?_
           clear hK K
           refine aOs (aKG HT_.out (by kernel_rfl)) ?_
           try go_wp2
           go_roundg k1
           case measure=>have:=HK1.out;omega
           case rel=>exact ⟨(y110),(wrap64 (x15_1+1)),Q.rs,H',⟨by have:=HK1.out;omega⟩,⟨by (with_reducible repeat (first | apply Kd.R_alloc | apply Kd.R_drewN | apply Kd.R_drew));first | exact HQ22.out | (have z_:=HQ22.out;simp only [← hji18y] at z_;exact z_)⟩,⟨Q.bw1 HB GB19⟩⟩
          ·rw [if_neg c17] at H
           exact absurd H (by simp)
         ·rw [if_neg c14] at H
          exact absurd H (by simp)
        ·rw [if_neg c13] at H
         exact absurd H (by simp)
       ·rw [if_neg c12] at H
        exact absurd H (by simp)
      ·rw [if_neg c11] at H
       exact absurd H (by simp)
     ·rw [if_neg c9] at H
      have c9b0:decide (x15_1 < (t105.size:Int))=false:=decide_eq_false c9
      clear c9
      obtain rfl:=Option.some.inj H
      go_wp2
      go_ret
      exact ⟨_,by first | rfl | (simp [aAu,aAv]<;>rfl) | (simp only [← hji3];first | rfl | (simp [aAu,aAv]<;>rfl)) | (simp [*,aAu,aAv]<;>rfl),Q.kr HO_3,Q.bw HB⟩
  ·rw [if_neg c5] at H
   exact absurd H (by simp)
 ·rw [if_neg c4] at H
  exact absurd H (by simp)
mutual
def nat_mag.l0:Nat→List Int→List Int→Int→Int→Option (ByteArray)
 | 0,_,_,_,_=>none
 | k+1,x3,x11,x12,x13=>if x13 < x12 then (if 0≤x13 then (if x13 < (x11.length:Int) then (nat_mag.l1 k x3 (rd x11 x13) x11 x12 x13 0) else (none)) else (none)) else ((nat_Normalize.f k (strOfNums x3)).bind fun t114=>(some t114))
def nat_mag.l1:Nat→List Int→Int→List Int→Int→Int→Int→Option (ByteArray)
 | 0,_,_,_,_,_,_=>none
 | k+1,x3,x5,x11,x12,x13,x17=>if x17 < 4 then (if 0≤(wrap64 (8*x17)) then (if x3.length < 140737488355328 then (nat_mag.l1 k (x3++[(shr .u32 x5 (wrap64 (8*x17))) % 256]) x5 x11 x12 x13 (wrap64 (x17+1))) else (none)) else (none)) else (nat_mag.l0 k x3 x11 x12 (wrap64 (x13+1)))
end
def nat_mag.f (k:Nat) (l0:List Int):Option (ByteArray):=if 0≤(wrap64 (4*(l0.length:Int))) then (if (wrap64 (4*(l0.length:Int)):Int).toNat≤281474976710656 then (nat_mag.l0 k (([]:List Int)) l0 (l0.length:Int) 0) else (none)) else (none)
theorem nat_mag.mono_l:∀ k,(∀ y0 y1 y2 y3,LeO (nat_mag.l0 k y0 y1 y2 y3) (nat_mag.l0 (k+1) y0 y1 y2 y3))∧(∀ y0 y1 y2 y3 y4 y5,LeO (nat_mag.l1 k y0 y1 y2 y3 y4 y5) (nat_mag.l1 (k+1) y0 y1 y2 y3 y4 y5))
 | 0=>⟨fun _ _ _ _ r h=>by simp [nat_mag.l0] at h,fun _ _ _ _ _ _ r h=>by simp [nat_mag.l1] at h⟩
 | k+1=>by
  obtain ⟨ih0,ih1⟩:=nat_mag.mono_l k
  refine ⟨?_,?_⟩
  ·intro y0 y1 y2 y3
   unfold nat_mag.l0
   repeat' first
   | (with_reducible exact ih0 _ _ _ _)
   | (with_reducible exact ih1 _ _ _ _ _ _)
   | (with_reducible exact nat_Normalize.mono _ _)
   | (with_reducible exact LeO.refl _)
   | (with_reducible exact LeO.none _)
   | (with_reducible refine LeO.ite ?_ ?_)
   | (with_reducible refine LeO.bind ?_ (fun _=>?_))
   | exact ih0 _ _ _ _
   | exact ih1 _ _ _ _ _ _
   | exact nat_Normalize.mono _ _
   | exact LeO.none _
   | refine LeO.ite ?_ ?_
   | refine LeO.bind ?_ (fun _=>?_)
  ·intro y0 y1 y2 y3 y4 y5
   unfold nat_mag.l1
   repeat' first
   | (with_reducible exact ih0 _ _ _ _)
   | (with_reducible exact ih1 _ _ _ _ _ _)
   | (with_reducible exact nat_Normalize.mono _ _)
   | (with_reducible exact LeO.refl _)
   | (with_reducible exact LeO.none _)
   | (with_reducible refine LeO.ite ?_ ?_)
   | (with_reducible refine LeO.bind ?_ (fun _=>?_))
   | exact ih0 _ _ _ _
   | exact ih1 _ _ _ _ _ _
   | exact nat_Normalize.mono _ _
   | exact LeO.none _
   | refine LeO.ite ?_ ?_
   | refine LeO.bind ?_ (fun _=>?_)
theorem nat_mag.mono:∀ a0 k,LeO (nat_mag.f k a0) (nat_mag.f (k+1) a0):=by
 intro a0 k
 obtain ⟨ih0,ih1⟩:=nat_mag.mono_l k
 unfold nat_mag.f
 repeat' first
   | (with_reducible exact ih0 _ _ _ _)
   | (with_reducible exact ih1 _ _ _ _ _ _)
   | (with_reducible exact nat_Normalize.mono _ _)
   | (with_reducible exact LeO.refl _)
   | (with_reducible exact LeO.none _)
   | (with_reducible refine LeO.ite ?_ ?_)
   | (with_reducible refine LeO.bind ?_ (fun _=>?_))
   | exact ih0 _ _ _ _
   | exact ih1 _ _ _ _ _ _
   | exact nat_Normalize.mono _ _
   | exact LeO.none _
   | refine LeO.ite ?_ ?_
   | refine LeO.bind ?_ (fun _=>?_)
set_option maxHeartbeats 8000000 in
set_option maxRecDepth 100000 in
theorem nat_mag.calls (k:Nat) (A0:Option Addr) (c0:Nat) (l0:List Int) (r:ByteArray) (w:World) (hr0:Kd.C (Kd.int .u32) w A0 l0.length l0) (hc0:l0.length≤c0) (h:nat_mag.f k l0=some r) :
  Calls Tryz.prog 188 #[.slice A0 l0.length c0] w fun e w'=>e=.returned (.string r)∧Below w.heap.size w w':=by
 have HR0:=Q.a hr0
 have HC0:=Q.a hc0
 clear hr0 hc0
 have HB:=Q.a (Below.refl w.heap.size w)
 have H:(if 0≤(wrap64 (4*(l0.length:Int))) then (if (wrap64 (4*(l0.length:Int)):Int).toNat≤281474976710656 then (nat_mag.l0 k (([]:List Int)) l0 (l0.length:Int) 0) else (none)) else (none))=some r:=h
 clear h
 obtain ⟨ji2,hji2⟩:∃ j_:Int,(wrap64 (4*(l0.length:Int)))=j_:=⟨_,rfl⟩
 replace H:(if 0≤(ji2) then (if (ji2:Int).toNat≤281474976710656 then (nat_mag.l0 k (([]:List Int)) l0 (l0.length:Int) 0) else (none)) else (none))=some r:=by first | (rw [hji2] at H;exact H) | (simp only [hji2] at H ⊢;exact H)
 have hji2w:(IntKind.i64.wrap (4*(l0.length:Int)))=ji2:=(aAk _).trans hji2
 by_cases c3:0≤(ji2)
 ·rw [if_pos c3] at H
  have c3b0:=eq_true c3
  have c3b1:decide (0≤(ji2))=true:=decide_eq_true c3
  clear c3
  by_cases c4:(ji2:Int).toNat≤281474976710656
  ·rw [if_pos c4] at H
   have c4b0:=eq_true c4
   have c4b1:decide ((ji2:Int).toNat≤281474976710656)=true:=decide_eq_true c4
   clear c4
   obtain ⟨y111,hy111⟩:∃ y_:List Int,y_=(([]:List Int)):=⟨_,rfl⟩
   replace H:(nat_mag.l0 k y111 l0 (l0.length:Int) 0)=some r:=by first | (rw [hy111];with_reducible exact H) | (have H2_:=(Option.bind_some _ _).symm.trans H;rw [hy111];with_reducible exact H2_) | (have H2_:=(Option.bind_some _ _).symm.trans H;with_reducible exact H2_) | with_reducible exact H | (rw [hy111];exact H) | exact H
   have Ny111:=Q.a hy111
   clear hy111
   have H':=Q.a H
   clear H
   go_enter Tryz.func188,Tryz.ntmps188
   go_wp2_with (first | ((with_reducible refine aB5 (N:=10) rfl ?_);refine XW.R_makecap (Kd.int .u8) _ 5 rfl (N:=10) rfl 47 _ _ rfl ji2 rfl rfl Tryz.underlying47 (.int .u8 0) 1 aO5 (by omega) (ok:=fun _=>True) trivial Q.od (Nat.le_trans (Nat.mul_le_mul_right _ (of_decide_eq_true (by first | (with_reducible assumption) | assumption):ji2.toNat≤281474976710656)) (by omega)) (Below.refl _ _) (Nat.le_refl _) ?_;intro v112 w5 ho6 hb hg_ hnew_;clear hg_ hnew_;(first | rw [← Ny111.out] at ho6 | (simp only [Int.reduceToNat] at ho6;rw [← Ny111.out] at ho6));replace HO113:=Q.a (Kd.R_lower ho6 (aAh (Q.bw HB)));replace HB:=Q.a (aAb (Q.bw HB) hb);clear hb ho6))
   go_loopg [3,13] k (fun kq v3 v13 w'=>∃ (x3_1:List Int) (x13_1:Int),v13=.int .i64 x13_1∧Aside0 (nat_mag.l0 kq x3_1 l0 (l0.length:Int) x13_1=some r)∧Aside0 (kq≤k)∧Aside0 (Kd.R (Kd.int .u8) 5 w' w.heap.size (fun _=>True) v3 x3_1)∧Aside0 (Below w.heap.size w w'))
   case atStart=>exact ⟨(y111),(0),Q.rs,H',⟨Nat.le_refl _⟩,⟨Q.kr HO113⟩,⟨Q.bw HB⟩⟩
   case round =>
    clear H'
    try clear c1
    try clear p2
    try clear c3
    try clear c3b0
    try clear c3b1
    try clear c4
    try clear c4b0
    try clear c4b1
    try clear p6
    obtain ⟨x3_1,x13_1,rfl,HA,HK1,HO_3,HB⟩:=hrel
    cases gk with
    | zero=>exact absurd HA.out (by simp [nat_mag.l0])
    | succ k1 =>
     have H:=HA.out
     clear HA
     simp only [nat_mag.l0] at H
     by_cases c7:x13_1 < (l0.length:Int)
     ·rw [if_pos c7] at H
      have c7b0:decide (x13_1 < (l0.length:Int))=true:=decide_eq_true c7
      clear c7
      by_cases c8:0≤x13_1
      ·rw [if_pos c8] at H
       have c8b0:decide (0≤x13_1)=true:=decide_eq_true c8
       clear c8
       by_cases c9:x13_1 < (l0.length:Int)
       ·rw [if_pos c9] at H
        have c9b0:decide (x13_1 < (l0.length:Int))=true:=decide_eq_true c9
        clear c9
        have H':=Q.a H
        clear H
        have p115:0≤(x13_1:Int):=of_decide_eq_true (by first | (with_reducible assumption) | assumption)
        have q115:x13_1 < (l0.length:Int):=of_decide_eq_true (by first | (with_reducible assumption) | assumption)
        obtain ⟨ad115,e115,hx115_0⟩:=Kd.at_int HR0.out x13_1 p115 q115
        cases e115
        replace hx115_0:=(HB.out.cell (World.block_lt_of_cell? w _ hx115_0)).trans hx115_0
        replace p115:=eq_true p115
        replace q115:=eq_true q115
        go_wp2
        go_loopg [3,17] k1 (fun kq v3 v17 w'=>∃ (x3_2:List Int) (x17_2:Int),v17=.int .i64 x17_2∧Aside0 (nat_mag.l1 kq x3_2 (rd l0 x13_1) l0 (l0.length:Int) x13_1 x17_2=some r)∧Aside0 (kq≤k1)∧Aside0 (Kd.R (Kd.int .u8) 5 w' w.heap.size (fun _=>True) v3 x3_2)∧Aside0 (Below w.heap.size w w'))
        case atStart=>exact ⟨(x3_1),(0),Q.rs,H',⟨Nat.le_refl _⟩,⟨Q.kr HO_3⟩,⟨Q.bw HB⟩⟩
        case round =>
         clear H'
         try clear c1
         try clear p1
         try clear q1
         try clear hx1
         try clear p2
         try clear c3
         try clear c3b0
         try clear c3b1
         try clear c4
         try clear c4b0
         try clear c4b1
         try clear p6
         try clear c7
         try clear c7b0
         try clear c8
         try clear c8b0
         try clear c9
         try clear c9b0
         try clear hx115_0
         try clear p115
         try clear p2
         try clear p6
         try clear q115
         obtain ⟨x3_2,x17_2,rfl,HA,HK2,HO_3,HB⟩:=hrel
         cases gk with
         | zero=>exact absurd HA.out (by simp [nat_mag.l1])
         | succ k2 =>
          have H:=HA.out
          clear HA
          simp only [nat_mag.l1] at H
          by_cases c10:x17_2 < 4
          ·rw [if_pos c10] at H
           have c10b0:decide (x17_2 < 4)=true:=decide_eq_true c10
           clear c10
           obtain ⟨ji11,hji11⟩:∃ j_:Int,(wrap64 (8*x17_2))=j_:=⟨_,rfl⟩
           replace H:(if 0≤(ji11) then (if x3_2.length < 140737488355328 then (nat_mag.l1 k2 (x3_2++[(shr .u32 (rd l0 x13_1) (ji11)) % 256]) (rd l0 x13_1) l0 (l0.length:Int) x13_1 (wrap64 (x17_2+1))) else (none)) else (none))=some r:=by first | (rw [hji11] at H;exact H) | (simp only [hji11] at H ⊢;exact H)
           have hji11w:(IntKind.i64.wrap (8*x17_2))=ji11:=(aAk _).trans hji11
           by_cases c12:0≤(ji11)
           ·rw [if_pos c12] at H
            have c12b0:=eq_true c12
            have c12b1:decide (0≤(ji11))=true:=decide_eq_true c12
            clear c12
            obtain ⟨ji13,hji13⟩:∃ j_:Int,(shr .u32 (rd l0 x13_1) (ji11))=j_:=⟨_,rfl⟩
            replace H:(if x3_2.length < 140737488355328 then (nat_mag.l1 k2 (x3_2++[(ji13) % 256]) (rd l0 x13_1) l0 (l0.length:Int) x13_1 (wrap64 (x17_2+1))) else (none))=some r:=by first | (rw [hji13] at H;exact H) | (simp only [hji13] at H ⊢;exact H)
            have hji13_:((rd l0 x13_1) / 2 ^ min (ji11).toNat 32)=ji13:=hji13
            have hji13z:(ji11)≤32→((rd l0 x13_1) / 2 ^ (ji11).toNat)=ji13:=aFl hji13
            by_cases c14:x3_2.length < 140737488355328
            ·rw [if_pos c14] at H
             have LMc14:=Q.a c14
             clear c14
             obtain ⟨y116,hy116⟩:∃ y_:List Int,y_=(x3_2++[(ji13) % 256]):=⟨_,rfl⟩
             replace H:(nat_mag.l1 k2 y116 (rd l0 x13_1) l0 (l0.length:Int) x13_1 (wrap64 (x17_2+1)))=some r:=by first | (rw [hy116];with_reducible exact H) | (have H2_:=(Option.bind_some _ _).symm.trans H;rw [hy116];with_reducible exact H2_) | (have H2_:=(Option.bind_some _ _).symm.trans H;with_reducible exact H2_) | with_reducible exact H | (rw [hy116];exact H) | exact H
             have Ny116:=Q.a hy116
             clear hy116
             have H':=Q.a H
             clear H
             go_wp2_with (first | ((with_reducible refine aJB (b:=.append) (xs:=#[.tmp 20,.tmp 26]) rfl ?_);at_builtin;refine Kd.R_append (Kd.int .u8) (w0:=w) w.heap.size rfl (.tmp 20) (.tmp 26) 47 5 (.int .u8 0) 1 rfl Tryz.underlying47 aO5 rfl (by decide) (by omega) u3 x3_2 ((ji13) % 256) [.int .u8 ((ji13) % 256)] (fun _=>True) (fun _=>False) rfl rfl ?aP (fun _ hk=>hk.elim) ?aF ?aO ?aB ?aS ?aL ?_;(case aP=>exact rfl);(case aB=>exact (Q.bw HB));(case aF=>exact (fun _ _=>trivial));(case aO=>exact (Q.kr HO_3));(case aS=>exact (aAh (Q.bw HB)));(case aL=>have:=LMc14.out;omega);intro v117 w15 ho hb hg hat;rw [← Ny116.out] at ho;replace HB:=Q.a (hb);replace HO118:=Q.a (ho);clear HO_3;clear ho hb hg hat))
             go_roundg k2
             case measure=>have:=HK1.out;have:=HK2.out;omega
             case rel=>exact ⟨(y116),(wrap64 (x17_2+1)),Q.rs,H',⟨by have:=HK1.out;have:=HK2.out;omega⟩,⟨Q.kr HO118⟩,⟨Q.bw HB⟩⟩
            ·rw [if_neg c14] at H
             exact absurd H (by simp)
           ·rw [if_neg c12] at H
            exact absurd H (by simp)
          ·rw [if_neg c10] at H
           have c10b0:decide (x17_2 < 4)=false:=decide_eq_false c10
           clear c10
           have H':=Q.a H
           clear H
           go_wp2
           go_roundg k2
           case measure=>have:=HK1.out;have:=HK2.out;omega
           case rel=>exact ⟨(x3_2),(wrap64 (x13_1+1)),Q.rs,H',⟨by have:=HK1.out;have:=HK2.out;omega⟩,⟨Q.kr HO_3⟩,⟨Q.bw HB⟩⟩
       ·rw [if_neg c9] at H
        exact absurd H (by simp)
      ·rw [if_neg c8] at H
       exact absurd H (by simp)
     ·rw [if_neg c7] at H
      have c7b0:decide (x13_1 < (l0.length:Int))=false:=decide_eq_false c7
      clear c7
      replace H:=Option.bind_eq_some_iff.mp H
      obtain ⟨t114,A160,H⟩:=H
      try dsimp only at H
      have A16:=Q.a A160
      clear A160
      obtain rfl:=Option.some.inj H
      have hcv17:=aLB (P:=Tryz.prog) Tryz.underlying47 Tryz.underlying5 Tryz.underlying9 (Kd.own_of_R HO_3.out)
      go_wp2_with (first | ((with_reducible refine aAe (f:=162) rfl ?_);refine Q.gl 32 Tryz.func162 #[.string (strOfNums x3_1)] rfl rfl rfl rfl ?_;(with_reducible refine (nat_Normalize.calls k1 (strOfNums x3_1) t114 _ A16.out).mono ?_);rintro e w18 ⟨rfl,hb⟩;refine ⟨_,rfl,?_⟩;replace HO_3:=Q.a (Kd.R_below (Q.kr HO_3) hb);replace HB:=Q.a (aAb (Q.bw HB) hb);(try clear hb)))
      go_ret
      exact ⟨by first | rfl | (simp [aAu,aAv]<;>rfl) | (simp only [← hji2];first | rfl | (simp [aAu,aAv]<;>rfl)) | (simp [*,aAu,aAv]<;>rfl),Q.bw HB⟩
  ·rw [if_neg c4] at H
   exact absurd H (by simp)
 ·rw [if_neg c3] at H
  exact absurd H (by simp)
def nat_FromUint64.f (k:Nat) (a0:Int):Option (ByteArray):=(nat_mag.f k (([(a0) % 4294967296,(a0 / 4294967296) % 4294967296]:List Int))).bind fun t164=>(some t164)
theorem nat_FromUint64.mono:∀ a0 k,LeO (nat_FromUint64.f k a0) (nat_FromUint64.f (k+1) a0):=by
 intro a0 k
 unfold nat_FromUint64.f
 repeat' first
   | (with_reducible exact nat_mag.mono _ _)
   | (with_reducible exact LeO.refl _)
   | (with_reducible exact LeO.none _)
   | (with_reducible refine LeO.ite ?_ ?_)
   | (with_reducible refine LeO.bind ?_ (fun _=>?_))
   | exact nat_mag.mono _ _
   | exact LeO.none _
   | refine LeO.ite ?_ ?_
   | refine LeO.bind ?_ (fun _=>?_)
set_option maxHeartbeats 8000000 in
set_option maxRecDepth 100000 in
theorem nat_FromUint64.calls (k:Nat) (a0:Int) (r:ByteArray) (w:World) (h:nat_FromUint64.f k a0=some r) :
  Calls Tryz.prog 185 #[.int .u64 a0] w fun e w'=>e=.returned (.string r)∧Below w.heap.size w w':=by
 have HB:=Q.a (Below.refl w.heap.size w)
 have H:((nat_mag.f k (([(a0) % 4294967296,(a0 / 4294967296) % 4294967296]:List Int))).bind fun t164=>(some t164))=some r:=h
 clear h
 obtain ⟨y161,hy161⟩:∃ y_:List Int,y_=(([(a0) % 4294967296,(a0 / 4294967296) % 4294967296]:List Int)):=⟨_,rfl⟩
 replace H:((nat_mag.f k y161).bind fun t164=>(some t164))=some r:=by first | (rw [hy161];with_reducible exact H) | (have H2_:=(Option.bind_some _ _).symm.trans H;rw [hy161];with_reducible exact H2_) | (have H2_:=(Option.bind_some _ _).symm.trans H;with_reducible exact H2_) | with_reducible exact H | (rw [hy161];exact H) | exact H
 have Ny161:=Q.a hy161
 clear hy161
 replace H:=Option.bind_eq_some_iff.mp H
 obtain ⟨t164,A20,H⟩:=H
 try dsimp only at H
 have A2:=Q.a A20
 clear A20
 obtain rfl:=Option.some.inj H
 go_enter Tryz.func185,Tryz.ntmps185
 go_wp2_with (first | ((with_reducible refine aB5 (N:=8) rfl ?_);refine Kd.R_lit (Kd.int .u32) _ 178 ?hg (N:=8) ?hd (xs:=([(a0) % 4294967296,(a0 / 4294967296) % 4294967296]:List Int)) (inner:=[.int .u32 ((a0) % 4294967296),.int .u32 ((a0 / 4294967296) % 4294967296)]) (ok:=fun _=>True) (okp:=fun _=>True) ?hr ?hp (fun _ hk=>hk) trivial (Below.refl _ _) (Nat.le_refl _) (by simp) ?_;(case hd=>rfl);(case hg=>rfl);(case hr=>first | (go_simp;done) | (go_simp;rfl));(case hp=>exact (Reps.one (show Kd.M (Kd.int .u32) _ _ _ ((a0) % 4294967296) [.int .u32 ((a0) % 4294967296)] from rfl) (Reps.one (show Kd.M (Kd.int .u32) _ _ _ ((a0 / 4294967296) % 4294967296) [.int .u32 ((a0 / 4294967296) % 4294967296)] from rfl) (Reps.none _ _))));intro v162 w3 ho4 hb hg_ hnew_;clear hg_ hnew_;(first | rw [← Ny161.out] at ho4 | (simp only [Int.reduceToNat] at ho4;rw [← Ny161.out] at ho4));replace HO163:=Q.a (Kd.R_lower ho4 (aAh (Q.bw HB)));replace HB:=Q.a (aAb (Q.bw HB) hb);clear hb ho4;obtain ⟨Ao5,co5,eo5⟩:=Kd.R_slice HO163.out;subst eo5) | ((with_reducible refine aAe (f:=188) rfl ?_);refine Q.gl 9 Tryz.func188 #[.slice Ao5 y161.length co5] rfl rfl rfl rfl ?_;(with_reducible refine (nat_mag.calls k _ _ y161 t164 _ ?side1 ?side2 A2.out).mono ?_);(case side1=>repeat (first | exact (Kd.R_reads' HO163.out).2.2 | (with_reducible refine Kd.C_alloc ?_ _) | (with_reducible refine Kd.C_drewN ?_ _) | (with_reducible refine Kd.C_drew ?_)));(case side2=>exact (Kd.R_reads' HO163.out).2.1);rintro e w6 ⟨rfl,hb⟩;refine ⟨_,rfl,?_⟩;replace HO163:=Q.a (Kd.R_below (Q.kr HO163) hb);replace HB:=Q.a (aAb (Q.bw HB) hb);(try clear hb)))
 go_ret
 exact ⟨Q.en,Q.bw HB⟩
end Go.Proofs.YtkkjlpfomofiaaaGreatDoor.P
