import Derived.Test.YtkkjlpfomofiaaaGreatDoorPx0
import Derived.Test.YtkkjlpfomofiaaaGreatDoorXQ
namespace Go.Proofs.YtkkjlpfomofiaaaGreatDoor.P
open Go.RowKit Go.Proofs.YtkkjlpfomofiaaaGreatDoorW.PrintWords Go.Proofs.YtkkjlpfomofiaaaGreatDoorW.PrintLast Go.Proofs.YtkkjlpfomofiaaaGreatDoorW.PrintMore
attribute [local go_sem] aBK aBL aCg aCh aB0 aB1 aBM aBN
attribute [local go_sem] XW.cell_twice
set_option linter.unusedVariables false
set_option linter.unusedSimpArgs false
def bits_Add32.f (a0:Int) (a1:Int) (a2:Int):Option (Int × Int):=some ((IntKind.u64.wrap ((IntKind.u64.wrap ((IntKind.u64.wrap (a0))+(IntKind.u64.wrap (a1))))+(IntKind.u64.wrap (a2)))) % 4294967296,((IntKind.u64.wrap ((IntKind.u64.wrap ((IntKind.u64.wrap (a0))+(IntKind.u64.wrap (a1))))+(IntKind.u64.wrap (a2)))) / 4294967296) % 4294967296)
set_option maxHeartbeats 8000000 in
set_option maxRecDepth 100000 in
theorem bits_Add32.calls (a0:Int) (a1:Int) (a2:Int) (r1:Int) (r2:Int) (w:World) (h:bits_Add32.f a0 a1 a2=some (r1,r2)) :
  Calls Tryz.prog 221 #[.int .u32 a0,.int .u32 a1,.int .u32 a2] w fun e w'=>e=.returned (.tuple #[.int .u32 r1,.int .u32 r2])∧Drawn0 w w':=by
 have H:(some ((IntKind.u64.wrap ((IntKind.u64.wrap ((IntKind.u64.wrap (a0))+(IntKind.u64.wrap (a1))))+(IntKind.u64.wrap (a2)))) % 4294967296,((IntKind.u64.wrap ((IntKind.u64.wrap ((IntKind.u64.wrap (a0))+(IntKind.u64.wrap (a1))))+(IntKind.u64.wrap (a2)))) / 4294967296) % 4294967296))=some (r1,r2):=h
 clear h
 simp only [Option.some.injEq,Prod.mk.injEq] at H
 obtain ⟨rfl,rfl⟩:=H
 go_enter Tryz.func221,Tryz.ntmps221
 go_wp2
 go_ret2
 exact ⟨by first | rfl | (simp;done) | (simp [*];done),by repeat (first | exact Drawn0.refl _ | apply Drawn0.step)⟩
def bits_Div32.f (a0:Int) (a1:Int) (a2:Int):Option (Int × Int):=if a2=0 then (if (IntKind.u64.wrap (a2))=0 then (none) else (some ((IntKind.u64.wrap (Int.tdiv (Go.bits .or .u64 (IntKind.u64.wrap ((IntKind.u64.wrap (a0))*4294967296)) (IntKind.u64.wrap (a1))) (IntKind.u64.wrap (a2)))) % 4294967296,(Int.tmod (Go.bits .or .u64 (IntKind.u64.wrap ((IntKind.u64.wrap (a0))*4294967296)) (IntKind.u64.wrap (a1))) (IntKind.u64.wrap (a2))) % 4294967296))) else (if a2≤a0 then (none) else (if (IntKind.u64.wrap (a2))=0 then (none) else (some ((IntKind.u64.wrap (Int.tdiv (Go.bits .or .u64 (IntKind.u64.wrap ((IntKind.u64.wrap (a0))*4294967296)) (IntKind.u64.wrap (a1))) (IntKind.u64.wrap (a2)))) % 4294967296,(Int.tmod (Go.bits .or .u64 (IntKind.u64.wrap ((IntKind.u64.wrap (a0))*4294967296)) (IntKind.u64.wrap (a1))) (IntKind.u64.wrap (a2))) % 4294967296))))
set_option maxHeartbeats 8000000 in
set_option maxRecDepth 100000 in
theorem bits_Div32.calls (a0:Int) (a1:Int) (a2:Int) (r1:Int) (r2:Int) (w:World) (h:bits_Div32.f a0 a1 a2=some (r1,r2)) :
  Calls Tryz.prog 205 #[.int .u32 a0,.int .u32 a1,.int .u32 a2] w fun e w'=>e=.returned (.tuple #[.int .u32 r1,.int .u32 r2])∧Drawn0 w w':=by
 have H:(if a2=0 then (if (IntKind.u64.wrap (a2))=0 then (none) else (some ((IntKind.u64.wrap (Int.tdiv (Go.bits .or .u64 (IntKind.u64.wrap ((IntKind.u64.wrap (a0))*4294967296)) (IntKind.u64.wrap (a1))) (IntKind.u64.wrap (a2)))) % 4294967296,(Int.tmod (Go.bits .or .u64 (IntKind.u64.wrap ((IntKind.u64.wrap (a0))*4294967296)) (IntKind.u64.wrap (a1))) (IntKind.u64.wrap (a2))) % 4294967296))) else (if a2≤a0 then (none) else (if (IntKind.u64.wrap (a2))=0 then (none) else (some ((IntKind.u64.wrap (Int.tdiv (Go.bits .or .u64 (IntKind.u64.wrap ((IntKind.u64.wrap (a0))*4294967296)) (IntKind.u64.wrap (a1))) (IntKind.u64.wrap (a2)))) % 4294967296,(Int.tmod (Go.bits .or .u64 (IntKind.u64.wrap ((IntKind.u64.wrap (a0))*4294967296)) (IntKind.u64.wrap (a1))) (IntKind.u64.wrap (a2))) % 4294967296)))))=some (r1,r2):=h
 clear h
 by_cases c4:a2=0
 ·rw [if_pos c4] at H
  have c4b0:(a2 == 0)=true:=beq_iff_eq.mpr c4
  have c4b1:(a2 != 0)=false:=bne_eq_false_iff_eq.mpr c4
  clear c4
  by_cases c5:(IntKind.u64.wrap (a2))=0
  ·rw [if_pos c5] at H
   exact absurd H (by simp)
  ·rw [if_neg c5] at H
   have c5b0:((IntKind.u64.wrap (a2)) == 0)=false:=beq_eq_false_iff_ne.mpr c5
   have c5b1:((IntKind.u64.wrap (a2)) != 0)=true:=bne_iff_ne.mpr c5
   simp only [Option.some.injEq,Prod.mk.injEq] at H
   obtain ⟨rfl,rfl⟩:=H
   go_enter Tryz.func205,Tryz.ntmps205
   go_wp2
   repeat (go_quiet (fail);try go_wp2)
   go_ret2
   exact ⟨by first | rfl | (simp;done) | (simp [*];done),by repeat (first | exact Drawn0.refl _ | apply Drawn0.step)⟩
 ·rw [if_neg c4] at H
  have c4b0:(a2 == 0)=false:=beq_eq_false_iff_ne.mpr c4
  have c4b1:(a2 != 0)=true:=bne_iff_ne.mpr c4
  by_cases c6:a2≤a0
  ·rw [if_pos c6] at H
   exact absurd H (by simp)
  ·rw [if_neg c6] at H
   have c6b0:decide (a2≤a0)=false:=decide_eq_false c6
   clear c6
   by_cases c7:(IntKind.u64.wrap (a2))=0
   ·rw [if_pos c7] at H
    exact absurd H (by simp)
   ·rw [if_neg c7] at H
    have c7b0:((IntKind.u64.wrap (a2)) == 0)=false:=beq_eq_false_iff_ne.mpr c7
    have c7b1:((IntKind.u64.wrap (a2)) != 0)=true:=bne_iff_ne.mpr c7
    simp only [Option.some.injEq,Prod.mk.injEq] at H
    obtain ⟨rfl,rfl⟩:=H
    go_enter Tryz.func205,Tryz.ntmps205
    go_wp2
    repeat (go_quiet (fail);try go_wp2)
    go_ret2
    exact ⟨by first | rfl | (simp;done) | (simp [*];done),by repeat (first | exact Drawn0.refl _ | apply Drawn0.step)⟩
def nat_short.l0:Nat→List Int→Int→List Int→Int→Int→Int→Option (List Int × Int)
 | 0,_,_,_,_,_,_=>none
 | k+1,x0,x1,x6,x7,x14,x15=>if x15 < x14 then (if 0≤(wrap64 ((wrap64 ((x0.length:Int) - 1)) - x15)) then (if (wrap64 ((wrap64 ((x0.length:Int) - 1)) - x15)) < (x0.length:Int) then ((bits_Div32.f x7 (rd x0 (wrap64 ((wrap64 ((x0.length:Int) - 1)) - x15))) x1).bind fun bt158=>(if (wrap64 ((wrap64 ((x0.length:Int) - 1)) - x15)) < (x6.length:Int) then (nat_short.l0 k x0 x1 (x6.set ((wrap64 ((wrap64 ((x0.length:Int) - 1)) - x15)):Int).toNat bt158.1) bt158.2 x14 (wrap64 (x15+1))) else (none))) else (none)) else (none)) else (some (x6,x7))
def nat_short.f (k:Nat) (l0:List Int) (a1:Int):Option (List Int × Int):=if 0≤(l0.length:Int) then (if ((l0.length:Int):Int).toNat≤70368744177664 then (nat_short.l0 k l0 a1 (List.replicate ((l0.length:Int):Int).toNat 0) 0 (l0.length:Int) 0) else (none)) else (none)
theorem nat_short.mono_l:∀ k,(∀ y0 y1 y2 y3 y4 y5,LeO (nat_short.l0 k y0 y1 y2 y3 y4 y5) (nat_short.l0 (k+1) y0 y1 y2 y3 y4 y5))
 | 0=>fun _ _ _ _ _ _ r h=>by simp [nat_short.l0] at h
 | k+1=>by
  have ih0:=nat_short.mono_l k
  ·intro y0 y1 y2 y3 y4 y5
   unfold nat_short.l0
   repeat' first
   | (with_reducible exact ih0 _ _ _ _ _ _)
   | (with_reducible exact LeO.refl _)
   | (with_reducible exact LeO.none _)
   | (with_reducible refine LeO.ite ?_ ?_)
   | (with_reducible refine LeO.bind ?_ (fun _=>?_))
   | exact ih0 _ _ _ _ _ _
   | exact LeO.none _
   | refine LeO.ite ?_ ?_
   | refine LeO.bind ?_ (fun _=>?_)
theorem nat_short.mono:∀ a0 a1 k,LeO (nat_short.f k a0 a1) (nat_short.f (k+1) a0 a1):=by
 intro a0 a1 k
 have ih0:=nat_short.mono_l k
 unfold nat_short.f
 repeat' first
   | (with_reducible exact ih0 _ _ _ _ _ _)
   | (with_reducible exact LeO.refl _)
   | (with_reducible exact LeO.none _)
   | (with_reducible refine LeO.ite ?_ ?_)
   | (with_reducible refine LeO.bind ?_ (fun _=>?_))
   | exact ih0 _ _ _ _ _ _
   | exact LeO.none _
   | refine LeO.ite ?_ ?_
   | refine LeO.bind ?_ (fun _=>?_)
set_option maxHeartbeats 8000000 in
set_option maxRecDepth 100000 in
theorem nat_short.calls (k:Nat) (A0:Option Addr) (c0:Nat) (l0:List Int) (a1:Int) (r1:List Int) (r2:Int) (w:World) (hr0:Kd.C (Kd.int .u32) w A0 l0.length l0) (hc0:l0.length≤c0) (h:nat_short.f k l0 a1=some (r1,r2)) :
  Calls Tryz.prog 165 #[.slice A0 l0.length c0,.int .u32 a1] w fun e w'=>∃ v0_:Value,e=.returned (.tuple #[v0_,.int .u32 r2])∧Kd.R (Kd.int .u32) 178 w' w.heap.size (fun _=>True) v0_ r1∧Below w.heap.size w w':=by
 have HR0:=Q.a hr0
 have HC0:=Q.a hc0
 clear hr0 hc0
 have HB:=Q.a (Below.refl w.heap.size w)
 have H:(if 0≤(l0.length:Int) then (if ((l0.length:Int):Int).toNat≤70368744177664 then (nat_short.l0 k l0 a1 (List.replicate ((l0.length:Int):Int).toNat 0) 0 (l0.length:Int) 0) else (none)) else (none))=some (r1,r2):=h
 clear h
 by_cases c3:0≤(l0.length:Int)
 ·rw [if_pos c3] at H
  have c3b0:=eq_true c3
  have c3b1:decide (0≤(l0.length:Int))=true:=decide_eq_true c3
  clear c3
  by_cases c4:((l0.length:Int):Int).toNat≤70368744177664
  ·rw [if_pos c4] at H
   have c4b0:=eq_true c4
   have c4b1:decide (((l0.length:Int):Int).toNat≤70368744177664)=true:=decide_eq_true c4
   clear c4
   obtain ⟨y154,hy154⟩:∃ y_:List Int,y_=(List.replicate ((l0.length:Int):Int).toNat 0):=⟨_,rfl⟩
   replace H:(nat_short.l0 k l0 a1 y154 0 (l0.length:Int) 0)=some (r1,r2):=by first | (rw [hy154];with_reducible exact H) | (have H2_:=(Option.bind_some _ _).symm.trans H;rw [hy154];with_reducible exact H2_) | (have H2_:=(Option.bind_some _ _).symm.trans H;with_reducible exact H2_) | with_reducible exact H | (rw [hy154];exact H) | exact H
   have Ny154:=Q.a hy154
   clear hy154
   have H':=Q.a H
   clear H
   go_enter Tryz.func165,Tryz.ntmps165
   go_wp2_with (first | ((with_reducible refine aB5 (N:=12) rfl ?_);refine Kd.R_make (Kd.int .u32) _ 178 rfl (N:=12) rfl 176 _ _ rfl (l0.length:Int) rfl rfl Tryz.underlying176 (.int .u32 0) 4 aAQ rfl (by decide) (by omega) 0 (ok:=fun _=>True) (okp:=fun _=>True) rfl (fun _ hk=>hk) trivial Q.od (Nat.le_trans (Nat.mul_le_mul_right _ (of_decide_eq_true (by first | (with_reducible assumption) | assumption):(l0.length:Int).toNat≤70368744177664)) (by omega)) (Below.refl _ _) (Nat.le_refl _) ?_;intro v155 w5 ho6 hb hg_ hnew_;clear hg_ hnew_;(first | rw [← Ny154.out] at ho6 | (simp only [Int.reduceToNat] at ho6;rw [← Ny154.out] at ho6));replace HO156:=Q.a (Kd.R_lower ho6 (aAh (Q.bw HB)));replace HB:=Q.a (aAb (Q.bw HB) hb);clear hb ho6))
   go_loopg [7,15] k (fun kq v7 v15 w'=>∃ (x6_1:List Int) (x7_1:Int) (x15_1:Int),v7=.int .u32 x7_1∧v15=.int .i64 x15_1∧Aside0 (nat_short.l0 kq l0 a1 x6_1 x7_1 (l0.length:Int) x15_1=some (r1,r2))∧Aside0 (kq≤k)∧Aside0 (Kd.R (Kd.int .u32) 178 w' w.heap.size (fun _=>True) v155 x6_1)∧Aside0 (Below w.heap.size w w'))
   case atStart=>exact ⟨(y154),(0),(0),Q.rs,Q.rs,H',⟨Nat.le_refl _⟩,⟨Q.kr HO156⟩,⟨Q.bw HB⟩⟩
   case round =>
    clear H'
    try clear c1
    try clear p2
    try clear c3
    try clear c3b0
    try clear c3b1
    try clear c4
    try clear c4b0
    try clear c4b1
    obtain ⟨x6_1,x7_1,x15_1,rfl,rfl,HA,HK1,HO_6,HB⟩:=hrel
    cases gk with
    | zero=>exact absurd HA.out (by simp [nat_short.l0])
    | succ k1 =>
     have H:=HA.out
     clear HA
     simp only [nat_short.l0] at H
     by_cases c7:x15_1 < (l0.length:Int)
     ·rw [if_pos c7] at H
      have c7b0:decide (x15_1 < (l0.length:Int))=true:=decide_eq_true c7
      clear c7
      obtain ⟨ji8,hji8⟩:∃ j_:Int,(wrap64 ((wrap64 ((l0.length:Int) - 1)) - x15_1))=j_:=⟨_,rfl⟩
      replace H:(if 0≤(ji8) then (if (ji8) < (l0.length:Int) then ((bits_Div32.f x7_1 (rd l0 (ji8)) a1).bind fun bt158=>(if (ji8) < (x6_1.length:Int) then (nat_short.l0 k1 l0 a1 (x6_1.set ((ji8):Int).toNat bt158.1) bt158.2 (l0.length:Int) (wrap64 (x15_1+1))) else (none))) else (none)) else (none))=some (r1,r2):=by first | (rw [hji8] at H;exact H) | (simp only [hji8] at H ⊢;exact H)
      have hji8w:(IntKind.i64.wrap ((wrap64 ((l0.length:Int) - 1)) - x15_1))=ji8:=(aAk _).trans hji8
      by_cases c9:0≤(ji8)
      ·rw [if_pos c9] at H
       have c9b0:decide (0≤(ji8))=true:=decide_eq_true c9
       clear c9
       by_cases c10:(ji8) < (l0.length:Int)
       ·rw [if_pos c10] at H
        have c10b0:decide ((ji8) < (l0.length:Int))=true:=decide_eq_true c10
        clear c10
        replace H:=Option.bind_eq_some_iff.mp H
        obtain ⟨⟨t158,t159⟩,A110,H⟩:=H
        try dsimp only at H
        have A11:=Q.a A110
        clear A110
        by_cases c12:(ji8) < (x6_1.length:Int)
        ·rw [if_pos c12] at H
         have c12b0:decide ((ji8) < (x6_1.length:Int))=true:=decide_eq_true c12
         clear c12
         obtain ⟨y160,hy160⟩:∃ y_:List Int,y_=(x6_1.set ((ji8):Int).toNat t158):=⟨_,rfl⟩
         replace H:(nat_short.l0 k1 l0 a1 y160 t159 (l0.length:Int) (wrap64 (x15_1+1)))=some (r1,r2):=by first | (rw [hy160];with_reducible exact H) | (have H2_:=(Option.bind_some _ _).symm.trans H;rw [hy160];with_reducible exact H2_) | (have H2_:=(Option.bind_some _ _).symm.trans H;with_reducible exact H2_) | with_reducible exact H | (rw [hy160];exact H) | exact H
         have Ny160:=Q.a hy160
         clear hy160
         have H':=Q.a H
         clear H
         have p157:0≤((ji8):Int):=of_decide_eq_true (by first | (with_reducible assumption) | assumption)
         have q157:(ji8) < (l0.length:Int):=of_decide_eq_true (by first | (with_reducible assumption) | assumption)
         obtain ⟨ad157,e157,hx157_0⟩:=Kd.at_int HR0.out (ji8) p157 q157
         cases e157
         replace hx157_0:=(HB.out.cell (World.block_lt_of_cell? w _ hx157_0)).trans hx157_0
         replace p157:=eq_true p157
         replace q157:=eq_true q157
         go_wp2_with (first | ((with_reducible refine aAe (f:=205) rfl ?_);refine aMA (some 32) rfl rfl Tryz.func205 (by kernel_rfl) rfl #[.int .u32 x7_1,.int .u32 (rd l0 (ji8)),.int .u32 a1] rfl (by (try simp only [List.map_toArray,List.map_cons,List.map_nil]);first | done | (simp only [hji8];rfl) | rfl | (simp only [List.length_drop,List.length_take];rfl)) ?_;(with_reducible refine (bits_Div32.calls x7_1 (rd l0 (ji8)) a1 t158 t159 _ A11.out).mono ?_);rintro e w' ⟨rfl,⟨nd,rfl⟩⟩;refine ⟨_,rfl,?_⟩;(try (rw [aAy wr];generalize hq_:World.drewN wr _=wr;have n0_:Aside0 (Kd.R (Kd.int .u32) 178 wr w.heap.size (fun _=>True) v155 x6_1):=⟨by rw [← hq_];exact (Q.kr HO_6)⟩;have n1_:Aside0 (Below w.heap.size w wr):=⟨by rw [← hq_];exact (Q.bw HB)⟩;clear HO_6 HB hq_;have HO_6:=n0_;have HB:=n1_;clear n0_ n1_));have p13:0≤((ji8):Int):=of_decide_eq_true (by first | (with_reducible assumption) | assumption);have q13:((ji8):Int) < ((x6_1.length:Int):Int):=of_decide_eq_true (by first | (with_reducible assumption) | assumption);obtain ⟨go13,co13,eo13,gb13,gl13,cl13,HG13⟩:=Kd.R_form HO_6.out (by omega);(first | cases eo13 | (injection eo13 with ea_ en_ ec_;(first | subst ea_ | (injection ea_ with ea_;subst ea_));subst ec_;clear en_));have GB13:=Q.a gb13;have GG13:=Q.a HG13;clear gb13 gl13 HG13;obtain ⟨hx13_0,hf13_0⟩:=Kd.R_celln 0 HO_6.out ((ji8):Int) p13 q13;replace p13:=eq_true p13;replace q13:=eq_true q13;obtain ⟨hy14_,hz14_⟩:=Kd.R_celln 0 HO_6.out ((ji8):Int) Q.od Q.od;have HP14:=Kd.R_putg HO_6.out ((ji8):Int) t158) | ((with_reducible refine aAp (t:=178) (p:=35) rfl ?_);refine aAm (t:=178) (p:=35) (v:=?vo_w15) (w1:=(wr.setCell ⟨go13,((ji8):Int).toNat,none⟩ (.int .u32 t158))) ?hg ?ho ?hn ?hr ?_;(case ho=>rfl);(case hg=>rfl);(case hn=>rfl);(case hr=>first | (go_simp;done) | (go_simp;rfl));intro w15 hw;have hg:wr.grownBy w15 (some go13):=(by rw [hw];exact HP14.2);have hp_:Kd.R (Kd.int .u32) 178 w15 w.heap.size (fun _=>True) (.slice (some ⟨go13,0,none⟩) x6_1.length co13) y160:=(by rw [hw,Ny160.out];exact HP14.1);clear HP14;replace HO_6:=Q.a (hp_);replace HB:=Q.a ((by rw [hw];exact aAq (HB.out) GB13.out:Below w.heap.size w w15));clear hg hw hp_))
         go_roundg k1
         case measure=>have:=HK1.out;omega
         case rel=>exact ⟨(y160),(t159),(wrap64 (x15_1+1)),Q.rs,Q.rs,H',⟨by have:=HK1.out;omega⟩,⟨Q.kr HO_6⟩,⟨Q.bw HB⟩⟩
        ·rw [if_neg c12] at H
         exact absurd H (by simp)
       ·rw [if_neg c10] at H
        exact absurd H (by simp)
      ·rw [if_neg c9] at H
       exact absurd H (by simp)
     ·rw [if_neg c7] at H
      have c7b0:decide (x15_1 < (l0.length:Int))=false:=decide_eq_false c7
      clear c7
      simp only [Option.some.injEq,Prod.mk.injEq] at H
      obtain ⟨rfl,rfl⟩:=H
      go_wp2
      go_ret2
      exact ⟨_,Q.en,Q.kr HO_6,Q.bw HB⟩
  ·rw [if_neg c4] at H
   exact absurd H (by simp)
 ·rw [if_neg c3] at H
  exact absurd H (by simp)
def nat_shift.l0:Nat→Int→List Int→List Int→Int→Int→Option (List Int)
 | 0,_,_,_,_,_=>none
 | k+1,x1,x5,x13,x14,x15=>if x15 < x14 then (if 0≤x15 then (if x15 < (x13.length:Int) then (if 0≤x1 then (if x15 < (x5.length:Int) then (if 0≤(wrap64 (x15+1)) then (if (wrap64 (x15+1)) < (x5.length:Int) then (nat_shift.l0 k x1 ((x5.set (x15:Int).toNat (Go.bits .or .u32 (rd x5 x15) ((shl .u64 (IntKind.u64.wrap (rd x13 x15)) x1) % 4294967296))).set ((wrap64 (x15+1)):Int).toNat (((shl .u64 (IntKind.u64.wrap (rd x13 x15)) x1) / 4294967296) % 4294967296)) x13 x14 (wrap64 (x15+1))) else (none)) else (none)) else (none)) else (none)) else (none)) else (none)) else (some x5)
def nat_shift.f (k:Nat) (l0:List Int) (a1:Int):Option (List Int):=if 0≤(wrap64 ((l0.length:Int)+1)) then (if (wrap64 ((l0.length:Int)+1):Int).toNat≤70368744177664 then (nat_shift.l0 k a1 (List.replicate (wrap64 ((l0.length:Int)+1):Int).toNat 0) l0 (l0.length:Int) 0) else (none)) else (none)
theorem nat_shift.mono_l:∀ k,(∀ y0 y1 y2 y3 y4,LeO (nat_shift.l0 k y0 y1 y2 y3 y4) (nat_shift.l0 (k+1) y0 y1 y2 y3 y4))
 | 0=>fun _ _ _ _ _ r h=>by simp [nat_shift.l0] at h
 | k+1=>by
  have ih0:=nat_shift.mono_l k
  ·intro y0 y1 y2 y3 y4
   unfold nat_shift.l0
   repeat' first
   | (with_reducible exact ih0 _ _ _ _ _)
   | (with_reducible exact LeO.refl _)
   | (with_reducible exact LeO.none _)
   | (with_reducible refine LeO.ite ?_ ?_)
   | (with_reducible refine LeO.bind ?_ (fun _=>?_))
   | exact ih0 _ _ _ _ _
   | exact LeO.none _
   | refine LeO.ite ?_ ?_
   | refine LeO.bind ?_ (fun _=>?_)
theorem nat_shift.mono:∀ a0 a1 k,LeO (nat_shift.f k a0 a1) (nat_shift.f (k+1) a0 a1):=by
 intro a0 a1 k
 have ih0:=nat_shift.mono_l k
 unfold nat_shift.f
 repeat' first
   | (with_reducible exact ih0 _ _ _ _ _)
   | (with_reducible exact LeO.refl _)
   | (with_reducible exact LeO.none _)
   | (with_reducible refine LeO.ite ?_ ?_)
   | (with_reducible refine LeO.bind ?_ (fun _=>?_))
   | exact ih0 _ _ _ _ _
   | exact LeO.none _
   | refine LeO.ite ?_ ?_
   | refine LeO.bind ?_ (fun _=>?_)
set_option maxHeartbeats 8000000 in
set_option maxRecDepth 100000 in
theorem nat_shift.calls (k:Nat) (A0:Option Addr) (c0:Nat) (l0:List Int) (a1:Int) (r:List Int) (w:World) (hr0:Kd.C (Kd.int .u32) w A0 l0.length l0) (hc0:l0.length≤c0) (h:nat_shift.f k l0 a1=some r) :
  Calls Tryz.prog 223 #[.slice A0 l0.length c0,.int .i64 a1] w fun e w'=>∃ v0_:Value,e=.returned (v0_)∧Kd.R (Kd.int .u32) 178 w' w.heap.size (fun _=>True) v0_ r∧Below w.heap.size w w':=by
 have HR0:=Q.a hr0
 have HC0:=Q.a hc0
 clear hr0 hc0
 have HB:=Q.a (Below.refl w.heap.size w)
 have H:(if 0≤(wrap64 ((l0.length:Int)+1)) then (if (wrap64 ((l0.length:Int)+1):Int).toNat≤70368744177664 then (nat_shift.l0 k a1 (List.replicate (wrap64 ((l0.length:Int)+1):Int).toNat 0) l0 (l0.length:Int) 0) else (none)) else (none))=some r:=h
 clear h
 obtain ⟨ji3,hji3⟩:∃ j_:Int,(wrap64 ((l0.length:Int)+1))=j_:=⟨_,rfl⟩
 replace H:(if 0≤(ji3) then (if (ji3:Int).toNat≤70368744177664 then (nat_shift.l0 k a1 (List.replicate (ji3:Int).toNat 0) l0 (l0.length:Int) 0) else (none)) else (none))=some r:=by first | (rw [hji3] at H;exact H) | (simp only [hji3] at H ⊢;exact H)
 have hji3w:(IntKind.i64.wrap ((l0.length:Int)+1))=ji3:=(aAk _).trans hji3
 by_cases c4:0≤(ji3)
 ·rw [if_pos c4] at H
  have c4b0:=eq_true c4
  have c4b1:decide (0≤(ji3))=true:=decide_eq_true c4
  clear c4
  by_cases c5:(ji3:Int).toNat≤70368744177664
  ·rw [if_pos c5] at H
   have c5b0:=eq_true c5
   have c5b1:decide ((ji3:Int).toNat≤70368744177664)=true:=decide_eq_true c5
   clear c5
   obtain ⟨y165,hy165⟩:∃ y_:List Int,y_=(List.replicate (ji3:Int).toNat 0):=⟨_,rfl⟩
   replace H:(nat_shift.l0 k a1 y165 l0 (l0.length:Int) 0)=some r:=by first | (rw [hy165];with_reducible exact H) | (have H2_:=(Option.bind_some _ _).symm.trans H;rw [hy165];with_reducible exact H2_) | (have H2_:=(Option.bind_some _ _).symm.trans H;with_reducible exact H2_) | with_reducible exact H | (rw [hy165];exact H) | exact H
   have Ny165:=Q.a hy165
   clear hy165
   have H':=Q.a H
   clear H
   go_enter Tryz.func223,Tryz.ntmps223
   go_wp2_with (first | ((with_reducible refine aB5 (N:=12) rfl ?_);refine Kd.R_make (Kd.int .u32) _ 178 rfl (N:=12) rfl 176 _ _ rfl ji3 rfl rfl Tryz.underlying176 (.int .u32 0) 4 aAQ rfl (by decide) (by omega) 0 (ok:=fun _=>True) (okp:=fun _=>True) rfl (fun _ hk=>hk) trivial Q.od (Nat.le_trans (Nat.mul_le_mul_right _ (of_decide_eq_true (by first | (with_reducible assumption) | assumption):ji3.toNat≤70368744177664)) (by omega)) (Below.refl _ _) (Nat.le_refl _) ?_;intro v166 w6 ho7 hb hg_ hnew_;clear hg_ hnew_;(first | rw [← Ny165.out] at ho7 | (simp only [Int.reduceToNat] at ho7;rw [← Ny165.out] at ho7));replace HO167:=Q.a (Kd.R_lower ho7 (aAh (Q.bw HB)));replace HB:=Q.a (aAb (Q.bw HB) hb);clear hb ho7))
   go_loopg [15] k (fun kq v15 w'=>∃ (x5_1:List Int) (x15_1:Int),v15=.int .i64 x15_1∧Aside0 (nat_shift.l0 kq a1 x5_1 l0 (l0.length:Int) x15_1=some r)∧Aside0 (kq≤k)∧Aside0 (Kd.R (Kd.int .u32) 178 w' w.heap.size (fun _=>True) v166 x5_1)∧Aside0 (Below w.heap.size w w'))
   case atStart=>exact ⟨(y165),(0),Q.rs,H',⟨Nat.le_refl _⟩,⟨Q.kr HO167⟩,⟨Q.bw HB⟩⟩
   case round =>
    clear H'
    try clear c2
    try clear p2
    try clear c4
    try clear c4b0
    try clear c4b1
    try clear c5
    try clear c5b0
    try clear c5b1
    try clear p6
    obtain ⟨x5_1,x15_1,rfl,HA,HK1,HO_5,HB⟩:=hrel
    cases gk with
    | zero=>exact absurd HA.out (by simp [nat_shift.l0])
    | succ k1 =>
     have H:=HA.out
     clear HA
     simp only [nat_shift.l0] at H
     by_cases c8:x15_1 < (l0.length:Int)
     ·rw [if_pos c8] at H
      have c8b0:decide (x15_1 < (l0.length:Int))=true:=decide_eq_true c8
      clear c8
      by_cases c9:0≤x15_1
      ·rw [if_pos c9] at H
       have c9b0:decide (0≤x15_1)=true:=decide_eq_true c9
       clear c9
       by_cases c10:x15_1 < (l0.length:Int)
       ·rw [if_pos c10] at H
        have c10b0:decide (x15_1 < (l0.length:Int))=true:=decide_eq_true c10
        clear c10
        by_cases c11:0≤a1
        ·rw [if_pos c11] at H
         have c11b0:=eq_true c11
         have c11b1:decide (0≤a1)=true:=decide_eq_true c11
         clear c11
         obtain ⟨ji12,hji12⟩:∃ j_:Int,(shl .u64 (IntKind.u64.wrap (rd l0 x15_1)) a1)=j_:=⟨_,rfl⟩
         replace H:(if x15_1 < (x5_1.length:Int) then (if 0≤(wrap64 (x15_1+1)) then (if (wrap64 (x15_1+1)) < (x5_1.length:Int) then (nat_shift.l0 k1 a1 ((x5_1.set (x15_1:Int).toNat (Go.bits .or .u32 (rd x5_1 x15_1) ((ji12) % 4294967296))).set ((wrap64 (x15_1+1)):Int).toNat (((ji12) / 4294967296) % 4294967296)) l0 (l0.length:Int) (wrap64 (x15_1+1))) else (none)) else (none)) else (none))=some r:=by first | (rw [hji12] at H;exact H) | (simp only [hji12] at H ⊢;exact H)
         have hji12_:(IntKind.u64.wrap ((IntKind.u64.wrap (rd l0 x15_1))*2 ^ min a1.toNat 64))=ji12:=hji12
         have hji12z:a1≤64→(IntKind.u64.wrap ((IntKind.u64.wrap (rd l0 x15_1))*2 ^ a1.toNat))=ji12:=aFk hji12
         by_cases c13:x15_1 < (x5_1.length:Int)
         ·rw [if_pos c13] at H
          have c13b0:decide (x15_1 < (x5_1.length:Int))=true:=decide_eq_true c13
          clear c13
          obtain ⟨y170,hy170⟩:∃ y_:List Int,y_=(x5_1.set (x15_1:Int).toNat (Go.bits .or .u32 (rd x5_1 x15_1) ((ji12) % 4294967296))):=⟨_,rfl⟩
          replace H:(if 0≤(wrap64 (x15_1+1)) then (if (wrap64 (x15_1+1)) < (x5_1.length:Int) then (nat_shift.l0 k1 a1 (y170.set ((wrap64 (x15_1+1)):Int).toNat (((ji12) / 4294967296) % 4294967296)) l0 (l0.length:Int) (wrap64 (x15_1+1))) else (none)) else (none))=some r:=by first | (rw [hy170];with_reducible exact H) | (have H2_:=(Option.bind_some _ _).symm.trans H;rw [hy170];with_reducible exact H2_) | (have H2_:=(Option.bind_some _ _).symm.trans H;with_reducible exact H2_) | with_reducible exact H | (rw [hy170];exact H) | exact H
          have Ny170:=Q.a hy170
          clear hy170
          obtain ⟨ji15,hji15⟩:∃ j_:Int,(wrap64 (x15_1+1))=j_:=⟨_,rfl⟩
          replace H:(if 0≤(ji15) then (if (ji15) < (x5_1.length:Int) then (nat_shift.l0 k1 a1 (y170.set ((ji15):Int).toNat (((ji12) / 4294967296) % 4294967296)) l0 (l0.length:Int) ji15) else (none)) else (none))=some r:=by first | (rw [hji15] at H;exact H) | (simp only [hji15] at H ⊢;exact H)
          have hji15w:(IntKind.i64.wrap (x15_1+1))=ji15:=(aAk _).trans hji15
          by_cases c16:0≤(ji15)
          ·rw [if_pos c16] at H
           have c16b0:decide (0≤(ji15))=true:=decide_eq_true c16
           clear c16
           by_cases c17:(ji15) < (x5_1.length:Int)
           ·rw [if_pos c17] at H
            have c17b0:decide ((ji15) < (x5_1.length:Int))=true:=decide_eq_true c17
            clear c17
            obtain ⟨y171,hy171⟩:∃ y_:List Int,y_=(y170.set ((ji15):Int).toNat (((ji12) / 4294967296) % 4294967296)):=⟨_,rfl⟩
            replace H:(nat_shift.l0 k1 a1 y171 l0 (l0.length:Int) ji15)=some r:=by first | (rw [hy171];with_reducible exact H) | (have H2_:=(Option.bind_some _ _).symm.trans H;rw [hy171];with_reducible exact H2_) | (have H2_:=(Option.bind_some _ _).symm.trans H;with_reducible exact H2_) | with_reducible exact H | (rw [hy171];exact H) | exact H
            have Ny171:=Q.a hy171
            clear hy171
            have H':=Q.a H
            clear H
            have p168:0≤(x15_1:Int):=of_decide_eq_true (by first | (with_reducible assumption) | assumption)
            have q168:x15_1 < (l0.length:Int):=of_decide_eq_true (by first | (with_reducible assumption) | assumption)
            obtain ⟨ad168,e168,hx168_0⟩:=Kd.at_int HR0.out x15_1 p168 q168
            cases e168
            replace hx168_0:=(HB.out.cell (World.block_lt_of_cell? w _ hx168_0)).trans hx168_0
            replace p168:=eq_true p168
            replace q168:=eq_true q168
            obtain ⟨Ao19,co19,eo19⟩:=Kd.R_slice HO_5.out
            subst eo19
            have p169:0≤(x15_1:Int):=of_decide_eq_true (by first | (with_reducible assumption) | assumption)
            have q169:x15_1 < (x5_1.length:Int):=of_decide_eq_true (by first | (with_reducible assumption) | assumption)
            obtain ⟨ad169,e169,hx169_0⟩:=Kd.at_int (Kd.R_reads' HO_5.out).2.2 x15_1 p169 q169
            cases e169
            replace p169:=eq_true p169
            replace q169:=eq_true q169
            have p14:0≤(x15_1:Int):=of_decide_eq_true (by first | (with_reducible assumption) | assumption)
            have q14:(x15_1:Int) < ((x5_1.length:Int):Int):=of_decide_eq_true (by first | (with_reducible assumption) | assumption)
            obtain ⟨go14,co14,eo14,gb14,gl14,cl14,HG14⟩:=Kd.R_form HO_5.out (by omega)
            (first | cases eo14 | (injection eo14 with ea_ en_ ec_;(first | subst ea_ | (injection ea_ with ea_;subst ea_));subst ec_;clear en_))
            have GB14:=Q.a gb14
            have GG14:=Q.a HG14
            clear gb14 gl14 HG14
            (first | simp only [add_plain] at hx169_0 | skip)
            obtain ⟨hx14_0,hf14_0⟩:=Kd.R_celln 0 HO_5.out (x15_1:Int) p14 q14
            replace p14:=eq_true p14
            replace q14:=eq_true q14
            have HP20:=Kd.R_putg HO_5.out (x15_1:Int) (Go.bits .or .u32 (rd x5_1 x15_1) ((ji12) % 4294967296))
            go_wp2_with (first | ((with_reducible refine aAp (t:=178) (p:=31) rfl ?_);refine aAm (t:=178) (p:=31) (v:=?vo_w21) (w1:=(wr.setCell ⟨go14,(x15_1:Int).toNat,none⟩ (.int .u32 (Go.bits .or .u32 (rd x5_1 x15_1) ((ji12) % 4294967296))))) ?hg ?ho ?hn ?hr ?_;(case ho=>rfl);(case hg=>rfl);(case hn=>rfl);(case hr=>first | (go_simp;done) | (go_simp;rfl));intro w21 hw;have hg:wr.grownBy w21 (some go14):=(by rw [hw];exact HP20.2);have hp_:Kd.R (Kd.int .u32) 178 w21 w.heap.size (fun _=>True) (.slice (some ⟨go14,0,none⟩) x5_1.length co19) y170:=(by rw [hw,Ny170.out];exact HP20.1);clear HP20;replace HO_5:=Q.a (hp_);replace HB:=Q.a ((by rw [hw];exact aAq (HB.out) GB14.out:Below w.heap.size w w21));clear hg hw hp_;have p18:0≤((ji15):Int):=of_decide_eq_true (by first | (with_reducible assumption) | assumption);have q18:((ji15):Int) < ((x5_1.length:Int):Int):=of_decide_eq_true (by first | (with_reducible assumption) | assumption);obtain ⟨hx18_0,hf18_0⟩:=Kd.R_celln 0 HO_5.out ((ji15):Int) p18 q18;replace p18:=eq_true p18;replace q18:=eq_true q18;obtain ⟨hy22_,hz22_⟩:=Kd.R_celln 0 HO_5.out ((ji15):Int) Q.od Q.od;have HP22:=Kd.R_putg HO_5.out ((ji15):Int) (((ji12) / 4294967296) % 4294967296)) | ((with_reducible refine aAp (t:=178) (p:=38) rfl ?_);refine aAm (t:=178) (p:=38) (v:=?vo_w23) (w1:=(w21.setCell ⟨go14,((ji15):Int).toNat,none⟩ (.int .u32 (((ji12) / 4294967296) % 4294967296)))) ?hg ?ho ?hn ?hr ?_;(case ho=>rfl);(case hg=>rfl);(case hn=>rfl);(case hr=>first | (go_simp;done) | (go_simp;rfl));intro w23 hw;have hg:w21.grownBy w23 (some go14):=(by rw [hw];exact HP22.2);have hp_:Kd.R (Kd.int .u32) 178 w23 w.heap.size (fun _=>True) (.slice (some ⟨go14,0,none⟩) x5_1.length co19) y171:=(by rw [hw,Ny171.out];exact HP22.1);clear HP22;replace HO_5:=Q.a (hp_);replace HB:=Q.a ((by rw [hw];exact aAq (HB.out) GB14.out:Below w.heap.size w w23));clear hg hw hp_))
            go_roundg k1
            case measure=>have:=HK1.out;omega
            case rel=>exact ⟨(y171),(ji15),(by first | rfl | (simp;done) | (simp only [← hji15]<;>(first | rfl | simp)) | (simp [*];done)),H',⟨by have:=HK1.out;omega⟩,⟨Q.kr HO_5⟩,⟨Q.bw HB⟩⟩
           ·rw [if_neg c17] at H
            exact absurd H (by simp)
          ·rw [if_neg c16] at H
           exact absurd H (by simp)
         ·rw [if_neg c13] at H
          exact absurd H (by simp)
        ·rw [if_neg c11] at H
         exact absurd H (by simp)
       ·rw [if_neg c10] at H
        exact absurd H (by simp)
      ·rw [if_neg c9] at H
       exact absurd H (by simp)
     ·rw [if_neg c8] at H
      have c8b0:decide (x15_1 < (l0.length:Int))=false:=decide_eq_false c8
      clear c8
      obtain rfl:=Option.some.inj H
      go_wp2
      go_ret
      exact ⟨_,by first | rfl | (simp [aAu,aAv]<;>rfl) | (simp only [← hji3];first | rfl | (simp [aAu,aAv]<;>rfl)) | (simp [*,aAu,aAv]<;>rfl),Q.kr HO_5,Q.bw HB⟩
  ·rw [if_neg c5] at H
   exact absurd H (by simp)
 ·rw [if_neg c4] at H
  exact absurd H (by simp)
def bits_Sub32.f (a0:Int) (a1:Int) (a2:Int):Option (Int × Int):=some ((((a0 - a1) % 4294967296) - a2) % 4294967296,(Go.bits .or .u32 (Go.bits .and .u32 (Go.bits .xor .u32 4294967295 a0) a1) (Go.bits .and .u32 (Go.bits .xor .u32 4294967295 (Go.bits .xor .u32 a0 a1)) ((((a0 - a1) % 4294967296) - a2) % 4294967296))) / 2147483648)
set_option maxHeartbeats 8000000 in
set_option maxRecDepth 100000 in
theorem bits_Sub32.calls (a0:Int) (a1:Int) (a2:Int) (r1:Int) (r2:Int) (w:World) (h:bits_Sub32.f a0 a1 a2=some (r1,r2)) :
  Calls Tryz.prog 239 #[.int .u32 a0,.int .u32 a1,.int .u32 a2] w fun e w'=>e=.returned (.tuple #[.int .u32 r1,.int .u32 r2])∧Drawn0 w w':=by
 have H:(some ((((a0 - a1) % 4294967296) - a2) % 4294967296,(Go.bits .or .u32 (Go.bits .and .u32 (Go.bits .xor .u32 4294967295 a0) a1) (Go.bits .and .u32 (Go.bits .xor .u32 4294967295 (Go.bits .xor .u32 a0 a1)) ((((a0 - a1) % 4294967296) - a2) % 4294967296))) / 2147483648))=some (r1,r2):=h
 clear h
 simp only [Option.some.injEq,Prod.mk.injEq] at H
 obtain ⟨rfl,rfl⟩:=H
 go_enter Tryz.func239,Tryz.ntmps239
 go_wp2
 go_ret2
 exact ⟨by first | rfl | (simp;done) | (simp [*];done),by repeat (first | exact Drawn0.refl _ | apply Drawn0.step)⟩
mutual
def nat_take.l0:Nat→List Int→List Int→Int→Int→Int→List Int→Int→Int→Option (Bool × List Int)
 | 0,_,_,_,_,_,_,_,_=>none
 | k+1,x0,x1,x2,x7,x8,x15,x16,x17=>if x17 < x16 then (if 0≤x17 then (if x17 < (x15.length:Int) then (if x17 < (x0.length:Int) then ((bits_Sub32.f (rd x0 x17) ((IntKind.u64.wrap ((IntKind.u64.wrap ((IntKind.u64.wrap (rd x15 x17))*(IntKind.u64.wrap (x2))))+x7)) % 4294967296) x8).bind fun bt174=>(nat_take.l0 k (x0.set (x17:Int).toNat bt174.1) x1 x2 ((IntKind.u64.wrap ((IntKind.u64.wrap ((IntKind.u64.wrap (rd x15 x17))*(IntKind.u64.wrap (x2))))+x7)) / 4294967296) bt174.2 x15 x16 (wrap64 (x17+1)))) else (none)) else (none)) else (none)) else (if 0≤(x1.length:Int) then (if (x1.length:Int) < (x0.length:Int) then ((bits_Sub32.f (rd x0 (x1.length:Int)) ((x7) % 4294967296) x8).bind fun bt178=>((some (x0.set ((x1.length:Int):Int).toNat bt178.1:List Int)).bind fun y180=>(if bt178.2=0 then (some (false,y180)) else (nat_take.l1 k y180 x1 0 x1 (x1.length:Int) 0)))) else (none)) else (none))
def nat_take.l1:Nat→List Int→List Int→Int→List Int→Int→Int→Option (Bool × List Int)
 | 0,_,_,_,_,_,_=>none
 | k+1,x0,x1,x12,x64,x65,x66=>if x66 < x65 then (if 0≤x66 then (if x66 < (x64.length:Int) then (if x66 < (x0.length:Int) then ((bits_Add32.f (rd x0 x66) (rd x64 x66) x12).bind fun bt183=>(nat_take.l1 k (x0.set (x66:Int).toNat bt183.1) x1 bt183.2 x64 x65 (wrap64 (x66+1)))) else (none)) else (none)) else (none)) else (if 0≤(x1.length:Int) then (if (x1.length:Int) < (x0.length:Int) then (some (true,(x0.set ((x1.length:Int):Int).toNat (((rd x0 (x1.length:Int))+x12) % 4294967296)))) else (none)) else (none))
end
def nat_take.f (k:Nat) (l0:List Int) (l1:List Int) (a2:Int):Option (Bool × List Int):=nat_take.l0 k l0 l1 a2 0 0 l1 (l1.length:Int) 0
theorem nat_take.mono_l:∀ k,(∀ y0 y1 y2 y3 y4 y5 y6 y7,LeO (nat_take.l0 k y0 y1 y2 y3 y4 y5 y6 y7) (nat_take.l0 (k+1) y0 y1 y2 y3 y4 y5 y6 y7))∧(∀ y0 y1 y2 y3 y4 y5,LeO (nat_take.l1 k y0 y1 y2 y3 y4 y5) (nat_take.l1 (k+1) y0 y1 y2 y3 y4 y5))
 | 0=>⟨fun _ _ _ _ _ _ _ _ r h=>by simp [nat_take.l0] at h,fun _ _ _ _ _ _ r h=>by simp [nat_take.l1] at h⟩
 | k+1=>by
  obtain ⟨ih0,ih1⟩:=nat_take.mono_l k
  refine ⟨?_,?_⟩
  ·intro y0 y1 y2 y3 y4 y5 y6 y7
   unfold nat_take.l0
   repeat' first
   | (with_reducible exact ih0 _ _ _ _ _ _ _ _)
   | (with_reducible exact ih1 _ _ _ _ _ _)
   | (with_reducible exact LeO.refl _)
   | (with_reducible exact LeO.none _)
   | (with_reducible refine LeO.ite ?_ ?_)
   | (with_reducible refine LeO.bind ?_ (fun _=>?_))
   | exact ih0 _ _ _ _ _ _ _ _
   | exact ih1 _ _ _ _ _ _
   | exact LeO.none _
   | refine LeO.ite ?_ ?_
   | refine LeO.bind ?_ (fun _=>?_)
  ·intro y0 y1 y2 y3 y4 y5
   unfold nat_take.l1
   repeat' first
   | (with_reducible exact ih0 _ _ _ _ _ _ _ _)
   | (with_reducible exact ih1 _ _ _ _ _ _)
   | (with_reducible exact LeO.refl _)
   | (with_reducible exact LeO.none _)
   | (with_reducible refine LeO.ite ?_ ?_)
   | (with_reducible refine LeO.bind ?_ (fun _=>?_))
   | exact ih0 _ _ _ _ _ _ _ _
   | exact ih1 _ _ _ _ _ _
   | exact LeO.none _
   | refine LeO.ite ?_ ?_
   | refine LeO.bind ?_ (fun _=>?_)
theorem nat_take.mono:∀ a0 a1 a2 k,LeO (nat_take.f k a0 a1 a2) (nat_take.f (k+1) a0 a1 a2):=by
 intro a0 a1 a2 k
 obtain ⟨ih0,ih1⟩:=nat_take.mono_l k
 unfold nat_take.f
 repeat' first
   | (with_reducible exact ih0 _ _ _ _ _ _ _ _)
   | (with_reducible exact ih1 _ _ _ _ _ _)
   | (with_reducible exact LeO.refl _)
   | (with_reducible exact LeO.none _)
   | (with_reducible refine LeO.ite ?_ ?_)
   | (with_reducible refine LeO.bind ?_ (fun _=>?_))
   | exact ih0 _ _ _ _ _ _ _ _
   | exact ih1 _ _ _ _ _ _
   | exact LeO.none _
   | refine LeO.ite ?_ ?_
   | refine LeO.bind ?_ (fun _=>?_)
def nat_unshift.l0:Nat→List Int→Int→List Int→Int→Int→Option (List Int)
 | 0,_,_,_,_,_=>none
 | k+1,x0,x1,x5,x12,x13=>if x13 < x12 then (if 0≤x13 then (if x13 < (x0.length:Int) then (if (wrap64 (x13+1)) < (x0.length:Int) then (if 0≤(wrap64 (x13+1)) then (if 0≤x1 then (if x13 < (x5.length:Int) then (nat_unshift.l0 k x0 x1 (x5.set (x13:Int).toNat ((shr .u64 (Go.bits .or .u64 (IntKind.u64.wrap (rd x0 x13)) (IntKind.u64.wrap ((IntKind.u64.wrap (rd x0 (wrap64 (x13+1))))*4294967296))) x1) % 4294967296)) x12 (wrap64 (x13+1))) else (none)) else (none)) else (none)) else (if 0≤x1 then (if x13 < (x5.length:Int) then (nat_unshift.l0 k x0 x1 (x5.set (x13:Int).toNat ((shr .u64 (IntKind.u64.wrap (rd x0 x13)) x1) % 4294967296)) x12 (wrap64 (x13+1))) else (none)) else (none))) else (none)) else (none)) else (some x5)
def nat_unshift.f (k:Nat) (l0:List Int) (a1:Int):Option (List Int):=if 0≤(l0.length:Int) then (if ((l0.length:Int):Int).toNat≤70368744177664 then (nat_unshift.l0 k l0 a1 (List.replicate ((l0.length:Int):Int).toNat 0) (l0.length:Int) 0) else (none)) else (none)
theorem nat_unshift.mono_l:∀ k,(∀ y0 y1 y2 y3 y4,LeO (nat_unshift.l0 k y0 y1 y2 y3 y4) (nat_unshift.l0 (k+1) y0 y1 y2 y3 y4))
 | 0=>fun _ _ _ _ _ r h=>by simp [nat_unshift.l0] at h
 | k+1=>by
  have ih0:=nat_unshift.mono_l k
  ·intro y0 y1 y2 y3 y4
   unfold nat_unshift.l0
   repeat' first
   | (with_reducible exact ih0 _ _ _ _ _)
   | (with_reducible exact LeO.refl _)
   | (with_reducible exact LeO.none _)
   | (with_reducible refine LeO.ite ?_ ?_)
   | (with_reducible refine LeO.bind ?_ (fun _=>?_))
   | exact ih0 _ _ _ _ _
   | exact LeO.none _
   | refine LeO.ite ?_ ?_
   | refine LeO.bind ?_ (fun _=>?_)
theorem nat_unshift.mono:∀ a0 a1 k,LeO (nat_unshift.f k a0 a1) (nat_unshift.f (k+1) a0 a1):=by
 intro a0 a1 k
 have ih0:=nat_unshift.mono_l k
 unfold nat_unshift.f
 repeat' first
   | (with_reducible exact ih0 _ _ _ _ _)
   | (with_reducible exact LeO.refl _)
   | (with_reducible exact LeO.none _)
   | (with_reducible refine LeO.ite ?_ ?_)
   | (with_reducible refine LeO.bind ?_ (fun _=>?_))
   | exact ih0 _ _ _ _ _
   | exact LeO.none _
   | refine LeO.ite ?_ ?_
   | refine LeO.bind ?_ (fun _=>?_)
set_option maxHeartbeats 8000000 in
set_option maxRecDepth 100000 in
theorem nat_unshift.calls (k:Nat) (A0:Option Addr) (c0:Nat) (l0:List Int) (a1:Int) (r:List Int) (w:World) (hr0:Kd.C (Kd.int .u32) w A0 l0.length l0) (hc0:l0.length≤c0) (h:nat_unshift.f k l0 a1=some r) :
  Calls Tryz.prog 225 #[.slice A0 l0.length c0,.int .i64 a1] w fun e w'=>∃ v0_:Value,e=.returned (v0_)∧Kd.R (Kd.int .u32) 178 w' w.heap.size (fun _=>True) v0_ r∧Below w.heap.size w w':=by
 have HR0:=Q.a hr0
 have HC0:=Q.a hc0
 clear hr0 hc0
 have HB:=Q.a (Below.refl w.heap.size w)
 have H:(if 0≤(l0.length:Int) then (if ((l0.length:Int):Int).toNat≤70368744177664 then (nat_unshift.l0 k l0 a1 (List.replicate ((l0.length:Int):Int).toNat 0) (l0.length:Int) 0) else (none)) else (none))=some r:=h
 clear h
 by_cases c3:0≤(l0.length:Int)
 ·rw [if_pos c3] at H
  have c3b0:=eq_true c3
  have c3b1:decide (0≤(l0.length:Int))=true:=decide_eq_true c3
  clear c3
  by_cases c4:((l0.length:Int):Int).toNat≤70368744177664
  ·rw [if_pos c4] at H
   have c4b0:=eq_true c4
   have c4b1:decide (((l0.length:Int):Int).toNat≤70368744177664)=true:=decide_eq_true c4
   clear c4
   obtain ⟨y188,hy188⟩:∃ y_:List Int,y_=(List.replicate ((l0.length:Int):Int).toNat 0):=⟨_,rfl⟩
   replace H:(nat_unshift.l0 k l0 a1 y188 (l0.length:Int) 0)=some r:=by first | (rw [hy188];with_reducible exact H) | (have H2_:=(Option.bind_some _ _).symm.trans H;rw [hy188];with_reducible exact H2_) | (have H2_:=(Option.bind_some _ _).symm.trans H;with_reducible exact H2_) | with_reducible exact H | (rw [hy188];exact H) | exact H
   have Ny188:=Q.a hy188
   clear hy188
   have H':=Q.a H
   clear H
   go_enter Tryz.func225,Tryz.ntmps225
   go_wp2_with (first | ((with_reducible refine aB5 (N:=10) rfl ?_);refine Kd.R_make (Kd.int .u32) _ 178 rfl (N:=10) rfl 176 _ _ rfl (l0.length:Int) rfl rfl Tryz.underlying176 (.int .u32 0) 4 aAQ rfl (by decide) (by omega) 0 (ok:=fun _=>True) (okp:=fun _=>True) rfl (fun _ hk=>hk) trivial Q.od (Nat.le_trans (Nat.mul_le_mul_right _ (of_decide_eq_true (by first | (with_reducible assumption) | assumption):(l0.length:Int).toNat≤70368744177664)) (by omega)) (Below.refl _ _) (Nat.le_refl _) ?_;intro v189 w5 ho6 hb hg_ hnew_;clear hg_ hnew_;(first | rw [← Ny188.out] at ho6 | (simp only [Int.reduceToNat] at ho6;rw [← Ny188.out] at ho6));replace HO190:=Q.a (Kd.R_lower ho6 (aAh (Q.bw HB)));replace HB:=Q.a (aAb (Q.bw HB) hb);clear hb ho6))
   go_loopg [13] k (fun kq v13 w'=>∃ (x5_1:List Int) (x13_1:Int),v13=.int .i64 x13_1∧Aside0 (nat_unshift.l0 kq l0 a1 x5_1 (l0.length:Int) x13_1=some r)∧Aside0 (kq≤k)∧Aside0 (Kd.R (Kd.int .u32) 178 w' w.heap.size (fun _=>True) v189 x5_1)∧Aside0 (Below w.heap.size w w'))
   case atStart=>exact ⟨(y188),(0),Q.rs,H',⟨Nat.le_refl _⟩,⟨Q.kr HO190⟩,⟨Q.bw HB⟩⟩
   case round =>
    clear H'
    try clear c2
    try clear p2
    try clear c3
    try clear c3b0
    try clear c3b1
    try clear c4
    try clear c4b0
    try clear c4b1
    obtain ⟨x5_1,x13_1,rfl,HA,HK1,HO_5,HB⟩:=hrel
    cases gk with
    | zero=>exact absurd HA.out (by simp [nat_unshift.l0])
    | succ k1 =>
     have H:=HA.out
     clear HA
     simp only [nat_unshift.l0] at H
     by_cases c7:x13_1 < (l0.length:Int)
     ·rw [if_pos c7] at H
      have c7b0:decide (x13_1 < (l0.length:Int))=true:=decide_eq_true c7
      clear c7
      by_cases c8:0≤x13_1
      ·rw [if_pos c8] at H
       have c8b0:decide (0≤x13_1)=true:=decide_eq_true c8
       clear c8
       by_cases c9:x13_1 < (l0.length:Int)
       ·rw [if_pos c9] at H
        have c9b0:decide (x13_1 < (l0.length:Int))=true:=decide_eq_true c9
        clear c9
        by_cases c10:(wrap64 (x13_1+1)) < (l0.length:Int)
        ·rw [if_pos c10] at H
         have c10b0:decide ((wrap64 (x13_1+1)) < (l0.length:Int))=true:=decide_eq_true c10
         (try (have c10b1:decide ((x13_1+1) < (l0.length:Int))=true:=by have e_:wrap64 (x13_1+1)=x13_1+1:=(by unfold wrap64;omega);have c_:=c10;rw [e_] at c_;exact decide_eq_true c_))
         clear c10
         obtain ⟨ji11,hji11⟩:∃ j_:Int,(wrap64 (x13_1+1))=j_:=⟨_,rfl⟩
         replace H:(if 0≤(ji11) then (if 0≤a1 then (if x13_1 < (x5_1.length:Int) then (nat_unshift.l0 k1 l0 a1 (x5_1.set (x13_1:Int).toNat ((shr .u64 (Go.bits .or .u64 (IntKind.u64.wrap (rd l0 x13_1)) (IntKind.u64.wrap ((IntKind.u64.wrap (rd l0 (ji11)))*4294967296))) a1) % 4294967296)) (l0.length:Int) ji11) else (none)) else (none)) else (none))=some r:=by first | (rw [hji11] at H;exact H) | (simp only [hji11] at H ⊢;exact H)
         (try rw [hji11] at c10b0)
         (try rw [hji11] at c10b1)
         have hji11w:(IntKind.i64.wrap (x13_1+1))=ji11:=(aAk _).trans hji11
         by_cases c12:0≤(ji11)
         ·rw [if_pos c12] at H
          have c12b0:decide (0≤(ji11))=true:=decide_eq_true c12
          clear c12
          by_cases c13:0≤a1
          ·rw [if_pos c13] at H
           have c13b0:=eq_true c13
           have c13b1:decide (0≤a1)=true:=decide_eq_true c13
           clear c13
           obtain ⟨ji14,hji14⟩:∃ j_:Int,(shr .u64 (Go.bits .or .u64 (IntKind.u64.wrap (rd l0 x13_1)) (IntKind.u64.wrap ((IntKind.u64.wrap (rd l0 (ji11)))*4294967296))) a1)=j_:=⟨_,rfl⟩
           replace H:(if x13_1 < (x5_1.length:Int) then (nat_unshift.l0 k1 l0 a1 (x5_1.set (x13_1:Int).toNat ((ji14) % 4294967296)) (l0.length:Int) ji11) else (none))=some r:=by first | (rw [hji14] at H;exact H) | (simp only [hji14] at H ⊢;exact H)
           have hji14_:((Go.bits .or .u64 (IntKind.u64.wrap (rd l0 x13_1)) (IntKind.u64.wrap ((IntKind.u64.wrap (rd l0 (ji11)))*4294967296))) / 2 ^ min a1.toNat 64)=ji14:=hji14
           have hji14z:a1≤64→((Go.bits .or .u64 (IntKind.u64.wrap (rd l0 x13_1)) (IntKind.u64.wrap ((IntKind.u64.wrap (rd l0 (ji11)))*4294967296))) / 2 ^ a1.toNat)=ji14:=aFl hji14
           by_cases c15:x13_1 < (x5_1.length:Int)
           ·rw [if_pos c15] at H
            have c15b0:decide (x13_1 < (x5_1.length:Int))=true:=decide_eq_true c15
            clear c15
            obtain ⟨y193,hy193⟩:∃ y_:List Int,y_=(x5_1.set (x13_1:Int).toNat ((ji14) % 4294967296)):=⟨_,rfl⟩
            replace H:(nat_unshift.l0 k1 l0 a1 y193 (l0.length:Int) ji11)=some r:=by first | (rw [hy193];with_reducible exact H) | (have H2_:=(Option.bind_some _ _).symm.trans H;rw [hy193];with_reducible exact H2_) | (have H2_:=(Option.bind_some _ _).symm.trans H;with_reducible exact H2_) | with_reducible exact H | (rw [hy193];exact H) | exact H
            have Ny193:=Q.a hy193
            clear hy193
            have H':=Q.a H
            clear H
            have p191:0≤(x13_1:Int):=of_decide_eq_true (by first | (with_reducible assumption) | assumption)
            have q191:x13_1 < (l0.length:Int):=of_decide_eq_true (by first | (with_reducible assumption) | assumption)
            obtain ⟨ad191,e191,hx191_0⟩:=Kd.at_int HR0.out x13_1 p191 q191
            cases e191
            replace hx191_0:=(HB.out.cell (World.block_lt_of_cell? w _ hx191_0)).trans hx191_0
            replace p191:=eq_true p191
            replace q191:=eq_true q191
            have p192:0≤((ji11):Int):=of_decide_eq_true (by first | (with_reducible assumption) | assumption)
            have q192:(ji11) < (l0.length:Int):=of_decide_eq_true (by first | (with_reducible assumption) | assumption)
            obtain ⟨ad192,e192,hx192_0⟩:=Kd.at_int HR0.out (ji11) p192 q192
            obtain rfl:ad191=ad192:=(by injection e192)
            replace hx192_0:=(HB.out.cell (World.block_lt_of_cell? w _ hx192_0)).trans hx192_0
            replace p192:=eq_true p192
            replace q192:=eq_true q192
            have p16:0≤(x13_1:Int):=of_decide_eq_true (by first | (with_reducible assumption) | assumption)
            have q16:(x13_1:Int) < ((x5_1.length:Int):Int):=of_decide_eq_true (by first | (with_reducible assumption) | assumption)
            obtain ⟨go16,co16,eo16,gb16,gl16,cl16,HG16⟩:=Kd.R_form HO_5.out (by omega)
            (first | cases eo16 | (injection eo16 with ea_ en_ ec_;(first | subst ea_ | (injection ea_ with ea_;subst ea_));subst ec_;clear en_))
            have GB16:=Q.a gb16
            have GG16:=Q.a HG16
            clear gb16 gl16 HG16
            obtain ⟨hx16_0,hf16_0⟩:=Kd.R_celln 0 HO_5.out (x13_1:Int) p16 q16
            replace p16:=eq_true p16
            replace q16:=eq_true q16
            have HP17:=Kd.R_putg HO_5.out (x13_1:Int) ((ji14) % 4294967296)
            go_wp2_with (first | ((with_reducible refine aAp (t:=178) (p:=41) rfl ?_);refine aAm (t:=178) (p:=41) (v:=?vo_w18) (w1:=(wr.setCell ⟨go16,(x13_1:Int).toNat,none⟩ (.int .u32 ((ji14) % 4294967296)))) ?hg ?ho ?hn ?hr ?_;(case ho=>rfl);(case hg=>rfl);(case hn=>rfl);(case hr=>first | (go_simp;done) | (go_simp;rfl));intro w18 hw;have hg:wr.grownBy w18 (some go16):=(by rw [hw];exact HP17.2);have hp_:Kd.R (Kd.int .u32) 178 w18 w.heap.size (fun _=>True) (.slice (some ⟨go16,0,none⟩) x5_1.length co16) y193:=(by rw [hw,Ny193.out];exact HP17.1);clear HP17;replace HO_5:=Q.a (hp_);replace HB:=Q.a ((by rw [hw];exact aAq (HB.out) GB16.out:Below w.heap.size w w18));clear hg hw hp_))
            go_roundg k1
            case measure=>have:=HK1.out;omega
            case rel=>exact ⟨(y193),(ji11),(by first | rfl | (simp;done) | (simp only [← hji11]<;>(first | rfl | simp)) | (simp [*];done)),H',⟨by have:=HK1.out;omega⟩,⟨Q.kr HO_5⟩,⟨Q.bw HB⟩⟩
           ·rw [if_neg c15] at H
            exact absurd H (by simp)
          ·rw [if_neg c13] at H
           exact absurd H (by simp)
         ·rw [if_neg c12] at H
          exact absurd H (by simp)
        ·rw [if_neg c10] at H
         have c10b0:decide ((wrap64 (x13_1+1)) < (l0.length:Int))=false:=decide_eq_false c10
         (try (have c10b1:decide ((x13_1+1) < (l0.length:Int))=false:=by have e_:wrap64 (x13_1+1)=x13_1+1:=(by unfold wrap64;omega);have c_:=c10;rw [e_] at c_;exact decide_eq_false c_))
         clear c10
         by_cases c19:0≤a1
         ·rw [if_pos c19] at H
          have c19b0:=eq_true c19
          have c19b1:decide (0≤a1)=true:=decide_eq_true c19
          clear c19
          obtain ⟨ji20,hji20⟩:∃ j_:Int,(shr .u64 (IntKind.u64.wrap (rd l0 x13_1)) a1)=j_:=⟨_,rfl⟩
          replace H:(if x13_1 < (x5_1.length:Int) then (nat_unshift.l0 k1 l0 a1 (x5_1.set (x13_1:Int).toNat ((ji20) % 4294967296)) (l0.length:Int) (wrap64 (x13_1+1))) else (none))=some r:=by first | (rw [hji20] at H;exact H) | (simp only [hji20] at H ⊢;exact H)
          have hji20_:((IntKind.u64.wrap (rd l0 x13_1)) / 2 ^ min a1.toNat 64)=ji20:=hji20
          have hji20z:a1≤64→((IntKind.u64.wrap (rd l0 x13_1)) / 2 ^ a1.toNat)=ji20:=aFl hji20
          by_cases c21:x13_1 < (x5_1.length:Int)
          ·rw [if_pos c21] at H
           have c21b0:decide (x13_1 < (x5_1.length:Int))=true:=decide_eq_true c21
           clear c21
           obtain ⟨y194,hy194⟩:∃ y_:List Int,y_=(x5_1.set (x13_1:Int).toNat ((ji20) % 4294967296)):=⟨_,rfl⟩
           replace H:(nat_unshift.l0 k1 l0 a1 y194 (l0.length:Int) (wrap64 (x13_1+1)))=some r:=by first | (rw [hy194];with_reducible exact H) | (have H2_:=(Option.bind_some _ _).symm.trans H;rw [hy194];with_reducible exact H2_) | (have H2_:=(Option.bind_some _ _).symm.trans H;with_reducible exact H2_) | with_reducible exact H | (rw [hy194];exact H) | exact H
           have Ny194:=Q.a hy194
           clear hy194
           have H':=Q.a H
           clear H
           have p191:0≤(x13_1:Int):=of_decide_eq_true (by first | (with_reducible assumption) | assumption)
           have q191:x13_1 < (l0.length:Int):=of_decide_eq_true (by first | (with_reducible assumption) | assumption)
           obtain ⟨ad191,e191,hx191_0⟩:=Kd.at_int HR0.out x13_1 p191 q191
           cases e191
           replace hx191_0:=(HB.out.cell (World.block_lt_of_cell? w _ hx191_0)).trans hx191_0
           replace p191:=eq_true p191
           replace q191:=eq_true q191
           have p22:0≤(x13_1:Int):=of_decide_eq_true (by first | (with_reducible assumption) | assumption)
           have q22:(x13_1:Int) < ((x5_1.length:Int):Int):=of_decide_eq_true (by first | (with_reducible assumption) | assumption)
           obtain ⟨go22,co22,eo22,gb22,gl22,cl22,HG22⟩:=Kd.R_form HO_5.out (by omega)
           (first | cases eo22 | (injection eo22 with ea_ en_ ec_;(first | subst ea_ | (injection ea_ with ea_;subst ea_));subst ec_;clear en_))
           have GB22:=Q.a gb22
           have GG22:=Q.a HG22
           clear gb22 gl22 HG22
           obtain ⟨hx22_0,hf22_0⟩:=Kd.R_celln 0 HO_5.out (x13_1:Int) p22 q22
           replace p22:=eq_true p22
           replace q22:=eq_true q22
           have HP23:=Kd.R_putg HO_5.out (x13_1:Int) ((ji20) % 4294967296)
           go_wp2_with (first | ((with_reducible refine aAp (t:=178) (p:=41) rfl ?_);refine aAm (t:=178) (p:=41) (v:=?vo_w24) (w1:=(wr.setCell ⟨go22,(x13_1:Int).toNat,none⟩ (.int .u32 ((ji20) % 4294967296)))) ?hg ?ho ?hn ?hr ?_;(case ho=>rfl);(case hg=>rfl);(case hn=>rfl);(case hr=>first | (go_simp;done) | (go_simp;rfl));intro w24 hw;have hg:wr.grownBy w24 (some go22):=(by rw [hw];exact HP23.2);have hp_:Kd.R (Kd.int .u32) 178 w24 w.heap.size (fun _=>True) (.slice (some ⟨go22,0,none⟩) x5_1.length co22) y194:=(by rw [hw,Ny194.out];exact HP23.1);clear HP23;replace HO_5:=Q.a (hp_);replace HB:=Q.a ((by rw [hw];exact aAq (HB.out) GB22.out:Below w.heap.size w w24));clear hg hw hp_))
           go_roundg k1
           case measure=>have:=HK1.out;omega
           case rel=>exact ⟨(y194),(wrap64 (x13_1+1)),Q.rs,H',⟨by have:=HK1.out;omega⟩,⟨Q.kr HO_5⟩,⟨Q.bw HB⟩⟩
          ·rw [if_neg c21] at H
           exact absurd H (by simp)
         ·rw [if_neg c19] at H
          exact absurd H (by simp)
       ·rw [if_neg c9] at H
        exact absurd H (by simp)
      ·rw [if_neg c8] at H
       exact absurd H (by simp)
     ·rw [if_neg c7] at H
      have c7b0:decide (x13_1 < (l0.length:Int))=false:=decide_eq_false c7
      clear c7
      obtain rfl:=Option.some.inj H
      go_wp2
      go_ret
      exact ⟨_,Q.en,Q.kr HO_5,Q.bw HB⟩
  ·rw [if_neg c4] at H
   exact absurd H (by simp)
 ·rw [if_neg c3] at H
  exact absurd H (by simp)
end Go.Proofs.YtkkjlpfomofiaaaGreatDoor.P
