import Derived.Test.YtkkjlpfomofiaaaGreatDoorPx0
import Derived.Test.YtkkjlpfomofiaaaGreatDoorPxNA
import Derived.Test.YtkkjlpfomofiaaaGreatDoorPxNB
import Derived.Test.YtkkjlpfomofiaaaGreatDoorPxNatLong
import Derived.Test.YtkkjlpfomofiaaaGreatDoorXQ
namespace Go.Proofs.YtkkjlpfomofiaaaGreatDoor.P
open Go.RowKit Go.Proofs.YtkkjlpfomofiaaaGreatDoorW.PrintWords Go.Proofs.YtkkjlpfomofiaaaGreatDoorW.PrintLast Go.Proofs.YtkkjlpfomofiaaaGreatDoorW.PrintMore
attribute [local go_sem] aBK aBL aCg aCh aB0 aB1 aBM aBN
attribute [local go_sem] XW.cell_twice
set_option linter.unusedVariables false
set_option linter.unusedSimpArgs false
def nat_Div.f (k:Nat) (a0:ByteArray) (a1:ByteArray):Option (ByteArray × ByteArray × Bool):=(nat_limbs.f k a1).bind fun t228=>(if (t228.length:Int)=0 then (some ((⟨#[]⟩:ByteArray),(⟨#[]⟩:ByteArray),false)) else ((nat_Cmp.f k a0 a1).bind fun t231=>(if t231 < 0 then ((nat_Normalize.f k a0).bind fun t232=>(some ((⟨#[]⟩:ByteArray),t232,true))) else (if (t228.length:Int)=1 then ((nat_limbs.f k a0).bind fun t233=>(if 0 < (t228.length:Int) then ((nat_short.f k t233 (rd t228 0)).bind fun bt237=>((nat_mag.f k bt237.1).bind fun t241=>((nat_FromUint64.f k (IntKind.u64.wrap (bt237.2))).bind fun t242=>(some (t241,t242,true))))) else (none))) else ((nat_limbs.f k a0).bind fun t243=>((nat_long.f k t243 t228).bind fun bt246=>((nat_mag.f k bt246.1).bind fun t252=>((nat_mag.f k bt246.2).bind fun t253=>(some (t252,t253,true))))))))))
theorem nat_Div.mono:∀ a0 a1 k,LeO (nat_Div.f k a0 a1) (nat_Div.f (k+1) a0 a1):=by
 intro a0 a1 k
 unfold nat_Div.f
 repeat' first
   | (with_reducible exact nat_Cmp.mono _ _ _)
   | (with_reducible exact nat_FromUint64.mono _ _)
   | (with_reducible exact nat_Normalize.mono _ _)
   | (with_reducible exact nat_limbs.mono _ _)
   | (with_reducible exact nat_long.mono _ _ _)
   | (with_reducible exact nat_mag.mono _ _)
   | (with_reducible exact nat_short.mono _ _ _)
   | (with_reducible exact LeO.refl _)
   | (with_reducible exact LeO.none _)
   | (with_reducible refine LeO.ite ?_ ?_)
   | (with_reducible refine LeO.bind ?_ (fun _=>?_))
   | exact nat_Cmp.mono _ _ _
   | exact nat_FromUint64.mono _ _
   | exact nat_Normalize.mono _ _
   | exact nat_limbs.mono _ _
   | exact nat_long.mono _ _ _
   | exact nat_mag.mono _ _
   | exact nat_short.mono _ _ _
   | exact LeO.none _
   | refine LeO.ite ?_ ?_
   | refine LeO.bind ?_ (fun _=>?_)
def nat_Div.T7:Bool × List (List Nat × List Nat):=(true,[([],[]),([0],[0]),([],[]),([2],[2]),([3],[3]),([1,4,1],[1,4]),([5],[5]),([6],[6]),([6],[6]),([7,5,0,1,2,3,4,5,6,7],[7]),([8,9,0,1,2,3,4,5,6,7,8,9],[8])])
def nat_Div.B7:List Nat:=[0,1,0,4,12,31,63,127,127,255,1023]
theorem nat_Div.tab7:aBl .any (opsOf Tryz.f147 7)=nat_Div.T7:=by kernel_rfl
theorem nat_Div.bits7:aDm nat_Div.T7.2 nat_Div.B7=true:=by kernel_rfl
set_option maxHeartbeats 8000000 in
set_option maxRecDepth 100000 in
theorem nat_Div.calls (k:Nat) (a0:ByteArray) (a1:ByteArray) (r1:ByteArray) (r2:ByteArray) (r3:Bool) (w:World) (h:nat_Div.f k a0 a1=some (r1,r2,r3)) :
  Calls Tryz.prog 147 #[.string a0,.string a1] w fun e w'=>e=.returned (.tuple #[.string r1,.string r2,.bool r3])∧Below w.heap.size w w':=by
 have HB:=Q.a (Below.refl w.heap.size w)
 have H:((nat_limbs.f k a1).bind fun t228=>(if (t228.length:Int)=0 then (some ((⟨#[]⟩:ByteArray),(⟨#[]⟩:ByteArray),false)) else ((nat_Cmp.f k a0 a1).bind fun t231=>(if t231 < 0 then ((nat_Normalize.f k a0).bind fun t232=>(some ((⟨#[]⟩:ByteArray),t232,true))) else (if (t228.length:Int)=1 then ((nat_limbs.f k a0).bind fun t233=>(if 0 < (t228.length:Int) then ((nat_short.f k t233 (rd t228 0)).bind fun bt237=>((nat_mag.f k bt237.1).bind fun t241=>((nat_FromUint64.f k (IntKind.u64.wrap (bt237.2))).bind fun t242=>(some (t241,t242,true))))) else (none))) else ((nat_limbs.f k a0).bind fun t243=>((nat_long.f k t243 t228).bind fun bt246=>((nat_mag.f k bt246.1).bind fun t252=>((nat_mag.f k bt246.2).bind fun t253=>(some (t252,t253,true)))))))))))=some (r1,r2,r3):=h
 clear h
 replace H:=Option.bind_eq_some_iff.mp H
 obtain ⟨t228,A30,H⟩:=H
 try dsimp only at H
 have A3:=Q.a A30
 clear A30
 by_cases c4:(t228.length:Int)=0
 ·rw [if_pos c4] at H
  have c4b0:((t228.length:Int) == 0)=true:=beq_iff_eq.mpr c4
  have c4b1:((t228.length:Int) != 0)=false:=bne_eq_false_iff_eq.mpr c4
  clear c4
  simp only [Option.some.injEq,Prod.mk.injEq] at H
  obtain ⟨rfl,rfl,rfl⟩:=H
  go_enter Tryz.func147,Tryz.ntmps147
  go_wp2_with (first | ((with_reducible refine aAe (f:=164) rfl ?_);refine Q.gl 13 Tryz.func164 #[.string a1] rfl rfl rfl rfl ?_;(with_reducible refine (nat_limbs.calls k a1 t228 _ A3.out).mono ?_);rintro e w5 ⟨v229,rfl,ho0,hb⟩;refine ⟨_,rfl,?_⟩;replace HO230:=Q.a (Kd.R_lower ho0 (aAh (Q.bw HB)));replace HB:=Q.a (aAb (Q.bw HB) hb);(try clear hb);(try clear ho0);obtain ⟨Ao6,co6,eo6⟩:=Kd.R_slice HO230.out;subst eo6))
  go_ret3
  exact ⟨Q.en,Q.bw HB⟩
 ·rw [if_neg c4] at H
  have c4b0:((t228.length:Int) == 0)=false:=beq_eq_false_iff_ne.mpr c4
  have c4b1:((t228.length:Int) != 0)=true:=bne_iff_ne.mpr c4
  have c4b2:¬ (t228=[]):=fun h_=>c4 (by rw [h_];rfl)
  replace H:=Option.bind_eq_some_iff.mp H
  obtain ⟨t231,A70,H⟩:=H
  try dsimp only at H
  have A7:=Q.a A70
  clear A70
  by_cases c8:t231 < 0
  ·rw [if_pos c8] at H
   have c8b0:decide (t231 < 0)=true:=decide_eq_true c8
   clear c8
   replace H:=Option.bind_eq_some_iff.mp H
   obtain ⟨t232,A90,H⟩:=H
   try dsimp only at H
   have A9:=Q.a A90
   clear A90
   simp only [Option.some.injEq,Prod.mk.injEq] at H
   obtain ⟨rfl,rfl,rfl⟩:=H
   go_enter Tryz.func147,Tryz.ntmps147
   go_wp2_with (first | ((with_reducible refine aAe (f:=164) rfl ?_);refine Q.gl 13 Tryz.func164 #[.string a1] rfl rfl rfl rfl ?_;(with_reducible refine (nat_limbs.calls k a1 t228 _ A3.out).mono ?_);rintro e w10 ⟨v229,rfl,ho0,hb⟩;refine ⟨_,rfl,?_⟩;replace HO230:=Q.a (Kd.R_lower ho0 (aAh (Q.bw HB)));replace HB:=Q.a (aAb (Q.bw HB) hb);(try clear hb);(try clear ho0);obtain ⟨Ao11,co11,eo11⟩:=Kd.R_slice HO230.out;subst eo11) | ((with_reducible refine aAe (f:=187) rfl ?_);refine Q.gl 21 Tryz.func187 #[.string a0,.string a1] rfl rfl rfl rfl ?_;(with_reducible refine (nat_Cmp.calls k a0 a1 t231 _ A7.out).mono ?_);rintro e w12 ⟨rfl,hb⟩;refine ⟨_,rfl,?_⟩;replace HO230:=Q.a (Kd.R_below (Q.kr HO230) hb);replace HB:=Q.a (aAb (Q.bw HB) hb);(try clear hb)) | ((with_reducible refine aAe (f:=162) rfl ?_);refine Q.gl 24 Tryz.func162 #[.string a0] rfl rfl rfl rfl ?_;(with_reducible refine (nat_Normalize.calls k a0 t232 _ A9.out).mono ?_);rintro e w13 ⟨rfl,hb⟩;refine ⟨_,rfl,?_⟩;replace HO230:=Q.a (Kd.R_below (Q.kr HO230) hb);replace HB:=Q.a (aAb (Q.bw HB) hb);(try clear hb)))
   go_ret3
   exact ⟨Q.en,Q.bw HB⟩
  ·rw [if_neg c8] at H
   have c8b0:decide (t231 < 0)=false:=decide_eq_false c8
   clear c8
   by_cases c14:(t228.length:Int)=1
   ·rw [if_pos c14] at H
    have c14b0:((t228.length:Int) == 1)=true:=beq_iff_eq.mpr c14
    have c14b1:((t228.length:Int) != 1)=false:=bne_eq_false_iff_eq.mpr c14
    clear c14
    replace H:=Option.bind_eq_some_iff.mp H
    obtain ⟨t233,A150,H⟩:=H
    try dsimp only at H
    have A15:=Q.a A150
    clear A150
    by_cases c16:0 < (t228.length:Int)
    ·rw [if_pos c16] at H
     have c16b0:decide (0 < (t228.length:Int))=true:=decide_eq_true c16
     have c16b1:decide (0 < t228.length)=true:=decide_eq_true (by omega)
     clear c16
     replace H:=Option.bind_eq_some_iff.mp H
     obtain ⟨⟨t237,t238⟩,A170,H⟩:=H
     try dsimp only at H
     have A17:=Q.a A170
     clear A170
     replace H:=Option.bind_eq_some_iff.mp H
     obtain ⟨t241,A180,H⟩:=H
     try dsimp only at H
     have A18:=Q.a A180
     clear A180
     replace H:=Option.bind_eq_some_iff.mp H
     obtain ⟨t242,A190,H⟩:=H
     try dsimp only at H
     have A19:=Q.a A190
     clear A190
     simp only [Option.some.injEq,Prod.mk.injEq] at H
     obtain ⟨rfl,rfl,rfl⟩:=H
     go_enter Tryz.func147,Tryz.ntmps147
     try go_wp2_with (first | ((with_reducible refine aAe (f:=164) rfl ?_);refine Q.gl 13 Tryz.func164 #[.string a1] rfl rfl rfl rfl ?_;(with_reducible refine (nat_limbs.calls k a1 t228 _ A3.out).mono ?_);rintro e w20 ⟨v229,rfl,ho0,hb⟩;refine ⟨_,rfl,?_⟩;replace HO230:=Q.a (Kd.R_lower ho0 (aAh (Q.bw HB)));replace HB:=Q.a (aAb (Q.bw HB) hb);(try clear hb);(try clear ho0);obtain ⟨Ao21,co21,eo21⟩:=Kd.R_slice HO230.out;subst eo21) | ((with_reducible refine aAe (f:=187) rfl ?_);refine Q.gl 21 Tryz.func187 #[.string a0,.string a1] rfl rfl rfl rfl ?_;(with_reducible refine (nat_Cmp.calls k a0 a1 t231 _ A7.out).mono ?_);rintro e w22 ⟨rfl,hb⟩;refine ⟨_,rfl,?_⟩;replace HO230:=Q.a (Kd.R_below (Q.kr HO230) hb);replace HB:=Q.a (aAb (Q.bw HB) hb);(try clear hb)))
     replace HO230:=Q.a (Kd.R_drew HO230.out)
     replace HB:=Q.a (aAw HB.out)
     have p236:0≤(0:Int):=(by omega)
     have q236:0 < (t228.length:Int):=of_decide_eq_true (by first | (with_reducible assumption) | assumption)
     obtain ⟨ad236,e236,hx236_0⟩:=Kd.at_int (Kd.R_reads' HO230.out).2.2 0 p236 q236
     cases e236
     have qi236:(0 < t228.length)=True:=eq_true (by omega)
     (try rw [show ((0:Int)).toNat=0 from rfl] at hx236_0)
     (try rw [Addr.add_zero'] at hx236_0)
     replace p236:=eq_true p236
     replace q236:=eq_true q236
     refine aM9 (n:=11) (S:=fun w'=>w'.cell? ad236=some (.int .u32 (rd t228 0))) (ds:=[]) #[false,false,false,false,false,false,false,false,false,false,false] (by kernel_rfl) rfl rfl (hx236_0) (fun hHeld=>?_);refine aIm nat_Div.tab7 nat_Div.bits7 (fun HT_ HW_=>?_)
     generalize w22.drew=w23 at HO230 HB hx236_0 hHeld ⊢
     refine aAW (i:=0) (N:=some 30) (v:=?_) (a':=?_) #[true,false,false,false,false,false,false,false,false,false,false] rfl rfl (aAD HT_.out (by kernel_rfl)) (fun _ _ _ h=>h) (Or.inl ⟨by rfl,?_⟩) ?_ ?_
     rotate_left
     ·intro w'
      go_simp
      with_reducible rfl
     rotate_left
     ·simp only [Act.put,List.setIfInBounds_toArray,List.set_cons_zero,List.set_cons_succ,aAk,aA0]
      rfl
     refine aAW (i:=2) (N:=some 32) (v:=?_) (a':=?_) #[true,false,true,false,false,false,false,false,false,false,false] rfl rfl (aAD HT_.out (by kernel_rfl)) (fun _ _ _ h=>h) (Or.inl ⟨by rfl,?_⟩) ?_ ?_
     rotate_left
     ·intro w'
      go_simp
      with_reducible rfl
     rotate_left
     ·simp only [Act.put,List.setIfInBounds_toArray,List.set_cons_zero,List.set_cons_succ,aAk,aA0]
      rfl
     refine aAW (i:=3) (N:=some 33) (v:=?_) (a':=?_) #[true,false,true,true,false,false,false,false,false,false,false] rfl rfl (aAD HT_.out (by kernel_rfl)) (fun _ _ _ h=>h) (Or.inl ⟨by rfl,?_⟩) ?_ ?_
     rotate_left
     ·intro w'
      go_simp
      with_reducible rfl
     rotate_left
     ·simp only [Act.put,List.setIfInBounds_toArray,List.set_cons_zero,List.set_cons_succ,aAk,aA0]
      rfl
     refine take_ (i:=4) (N:=some 34) (v:=?_) (a':=?_) #[true,false,true,true,true,false,false,false,false,false,false] rfl rfl (aGo HT_.out HW_.out (by kernel_rfl)) (fun _ _ _ h=>h) (Or.inl ⟨by rfl,?_⟩) hHeld ?_ ?_
     rotate_left
     ·intro w' s0
      go_simp
      with_reducible rfl
     rotate_left
     ·simp only [Act.put,List.setIfInBounds_toArray,List.set_cons_zero,List.set_cons_succ,aAk,aA0]
      rfl
     refine one_ (i:=1) (N:=some 31) #[true,true,true,true,true,false,false,false,false,false,false] rfl rfl (aJA HT_.out (by kernel_rfl)) (by decide) (fun K hK=>?_)
     refine aOu Tryz.func164 (by kernel_rfl) rfl #[.string a0] (by rfl) rfl rfl (by (try simp only [List.map_toArray,List.map_cons,List.map_nil]);first | done | rfl | (simp only [List.length_drop,List.length_take];rfl)) ?_
     with_reducible refine (nat_limbs.calls k a0 t233 _ A15.out).mono ?_
     rintro e w24 ⟨v234,rfl,ho0,hb⟩
     have HS0_:=(hb.cell (World.block_lt_of_cell? _ _ (hHeld))).trans (hHeld)
     refine ⟨_,rfl,?_⟩
     replace HO235:=Q.a (Kd.R_lower (Kd.R_new' ho0 (Kd.R_lt (Q.kr HO230))) (aAh (Q.bw HB)))
     replace HO230:=Q.a (Kd.R_elder' (Q.kr HO230) (Kd.R_base ho0) hb)
     replace HB:=Q.a (aAb (Q.bw HB) hb)
     (try clear hb)
     (try clear hb2)
     (try clear hk)
     (try clear hi)
     (try clear ho0)
     obtain ⟨Ao25,co25,eo25⟩:=Kd.R_slice HO235.out
     (first | subst eo25 | (injection eo25 with f1_ f2_ f3_;have f4_:=f1_.symm;have f5_:=f3_.symm;clear f1_ f2_ f3_;subst f4_;subst f5_))
     refine hK.out _ _ (HS0_) (fun hHeld=>?_)
     clear hK K
     refine aOt (a':=?_) ?_ ?_
     rotate_left
     ·show Act.put _ (some 31) _=_
      simp only [Act.put,List.setIfInBounds_toArray,List.set_cons_zero,List.set_cons_succ,aAk,aA0]
      rfl
     refine one_ (i:=5) (N:=some 35) #[true,true,true,true,true,true,false,false,false,false,false] rfl rfl (aJA HT_.out (by kernel_rfl)) (by decide) (fun K hK=>?_)
     refine aOu Tryz.func165 (by kernel_rfl) rfl #[.slice Ao25 t233.length co25,.int .u32 (rd t228 0)] (by rfl) rfl rfl (by (try simp only [List.map_toArray,List.map_cons,List.map_nil]);first | done | rfl | (simp only [List.length_drop,List.length_take];rfl)) ?_
     with_reducible refine (nat_short.calls k _ _ t233 (rd t228 0) t237 t238 _ ?side1 ?side2 A17.out).mono ?_
     (case side1=>repeat (first | exact (Kd.R_reads' HO235.out).2.2 | (with_reducible refine Kd.C_alloc ?_ _) | (with_reducible refine Kd.C_drewN ?_ _) | (with_reducible refine Kd.C_drew ?_)))
     (case side2=>exact (Kd.R_reads' HO235.out).2.1)
     rintro e w26 ⟨v239,rfl,ho0,hb⟩
     have HS0_:=(hb.cell (World.block_lt_of_cell? _ _ (hHeld))).trans (hHeld)
     refine ⟨_,rfl,?_⟩
     replace HO240:=Q.a (Kd.R_lower (Kd.R_new' (Kd.R_new' ho0 (Kd.R_lt (Q.kr HO230))) (Kd.R_lt (Q.kr HO235))) (aAh (Q.bw HB)))
     replace HO230:=Q.a (Kd.R_elder' (Q.kr HO230) (Kd.R_base ho0) hb)
     replace HO235:=Q.a (Kd.R_elder' (Q.kr HO235) (Kd.R_base ho0) hb)
     replace HB:=Q.a (aAb (Q.bw HB) hb)
     (try clear hb)
     (try clear hb2)
     (try clear hk)
     (try clear hi)
     (try clear ho0)
     refine hK.out _ _ (HS0_) (fun hHeld=>?_)
     clear hK K
     refine aOt (a':=?_) ?_ ?_
     rotate_left
     ·show Act.put _ (some 35) _=_
      simp only [Act.put,List.setIfInBounds_toArray,List.set_cons_zero,List.set_cons_succ,aAk,aA0]
      rfl
     refine aAW (i:=6) (N:=some 29) (v:=?_) (a':=?_) #[true,true,true,true,true,true,true,false,false,false,false] rfl rfl (aAD HT_.out (by kernel_rfl)) (fun _ _ _ h=>h) (Or.inl ⟨by rfl,?_⟩) ?_ ?_
     rotate_left
     ·intro w'
      go_simp
      with_reducible rfl
     rotate_left
     ·simp only [Act.put,List.setIfInBounds_toArray,List.set_cons_zero,List.set_cons_succ,aAk,aA0]
      rfl
     refine aAW (i:=7) (N:=some 36) (v:=?_) (a':=?_) #[true,true,true,true,true,true,true,true,false,false,false] rfl rfl (aAD HT_.out (by kernel_rfl)) (fun _ _ _ h=>h) (Or.inl ⟨by rfl,?_⟩) ?_ ?_
     rotate_left
     ·intro w'
      go_simp
      with_reducible rfl
     rotate_left
     ·simp only [Act.put,List.setIfInBounds_toArray,List.set_cons_zero,List.set_cons_succ,aAk,aA0]
      rfl
     refine aAW (i:=8) (N:=some 37) (v:=?_) (a':=?_) #[true,true,true,true,true,true,true,true,true,false,false] rfl rfl (aAD HT_.out (by kernel_rfl)) (fun _ _ _ h=>h) (Or.inl ⟨by rfl,?_⟩) ?_ ?_
     rotate_left
     ·intro w'
      go_simp
      with_reducible rfl
     rotate_left
     ·simp only [Act.put,List.setIfInBounds_toArray,List.set_cons_zero,List.set_cons_succ,aAk,aA0]
      rfl
     refine aAW (i:=9) (N:=some 8) (v:=?_) (a':=?_) #[true,true,true,true,true,true,true,true,true,true,false] rfl rfl (aAD HT_.out (by kernel_rfl)) (fun _ _ _ h=>h) (Or.inl ⟨by rfl,?_⟩) ?_ ?_
     rotate_left
     ·intro w'
      go_simp
      with_reducible rfl
     rotate_left
     ·simp only [Act.put,List.setIfInBounds_toArray,List.set_cons_zero,List.set_cons_succ,aAk,aA0]
      rfl
     refine aAW (i:=10) (N:=some 9) (v:=?_) (a':=?_) #[true,true,true,true,true,true,true,true,true,true,true] rfl rfl (aAD HT_.out (by kernel_rfl)) (fun _ _ _ h=>h) (Or.inl ⟨by rfl,?_⟩) ?_ ?_
     rotate_left
     ·intro w'
      go_simp
      with_reducible rfl
     rotate_left
     ·simp only [Act.put,List.setIfInBounds_toArray,List.set_cons_zero,List.set_cons_succ,aAk,aA0]
      rfl
     refine aOs (aKG HT_.out (by kernel_rfl)) ?_
     obtain ⟨Ao27,co27,eo27⟩:=Kd.R_slice HO240.out
     subst eo27
     try go_wp2_with (first | ((with_reducible refine aAe (f:=188) rfl ?_);refine Q.gl 39 Tryz.func188 #[.slice Ao27 t237.length co27] rfl rfl rfl rfl ?_;(with_reducible refine (nat_mag.calls k _ _ t237 t241 _ ?side1 ?side2 A18.out).mono ?_);(case side1=>repeat (first | exact (Kd.R_reads' HO240.out).2.2 | (with_reducible refine Kd.C_alloc ?_ _) | (with_reducible refine Kd.C_drewN ?_ _) | (with_reducible refine Kd.C_drew ?_)));(case side2=>exact (Kd.R_reads' HO240.out).2.1);rintro e w28 ⟨rfl,hb⟩;refine ⟨_,rfl,?_⟩;replace HO230:=Q.a (Kd.R_below (Q.kr HO230) hb);replace HO235:=Q.a (Kd.R_below (Q.kr HO235) hb);replace HO240:=Q.a (Kd.R_below (Q.kr HO240) hb);replace HB:=Q.a (aAb (Q.bw HB) hb);(try clear hb)) | ((with_reducible refine aAe (f:=185) rfl ?_);refine Q.gl 42 Tryz.func185 #[.int .u64 (IntKind.u64.wrap (t238))] rfl rfl rfl rfl ?_;(with_reducible refine (nat_FromUint64.calls k (IntKind.u64.wrap (t238)) t242 _ A19.out).mono ?_);rintro e w29 ⟨rfl,hb⟩;refine ⟨_,rfl,?_⟩;replace HO230:=Q.a (Kd.R_below (Q.kr HO230) hb);replace HO235:=Q.a (Kd.R_below (Q.kr HO235) hb);replace HO240:=Q.a (Kd.R_below (Q.kr HO240) hb);replace HB:=Q.a (aAb (Q.bw HB) hb);(try clear hb)))
     go_ret3
     exact ⟨Q.en,Q.bw HB⟩
    ·rw [if_neg c16] at H
     exact absurd H (by simp)
   ·rw [if_neg c14] at H
    have c14b0:((t228.length:Int) == 1)=false:=beq_eq_false_iff_ne.mpr c14
    have c14b1:((t228.length:Int) != 1)=true:=bne_iff_ne.mpr c14
    replace H:=Option.bind_eq_some_iff.mp H
    obtain ⟨t243,A300,H⟩:=H
    try dsimp only at H
    have A30:=Q.a A300
    clear A300
    replace H:=Option.bind_eq_some_iff.mp H
    obtain ⟨⟨t246,t247⟩,A310,H⟩:=H
    try dsimp only at H
    have A31:=Q.a A310
    clear A310
    replace H:=Option.bind_eq_some_iff.mp H
    obtain ⟨t252,A320,H⟩:=H
    try dsimp only at H
    have A32:=Q.a A320
    clear A320
    replace H:=Option.bind_eq_some_iff.mp H
    obtain ⟨t253,A330,H⟩:=H
    try dsimp only at H
    have A33:=Q.a A330
    clear A330
    simp only [Option.some.injEq,Prod.mk.injEq] at H
    obtain ⟨rfl,rfl,rfl⟩:=H
    go_enter Tryz.func147,Tryz.ntmps147
    go_wp2_with (first | ((with_reducible refine aAe (f:=164) rfl ?_);refine Q.gl 13 Tryz.func164 #[.string a1] rfl rfl rfl rfl ?_;(with_reducible refine (nat_limbs.calls k a1 t228 _ A3.out).mono ?_);rintro e w34 ⟨v229,rfl,ho0,hb⟩;refine ⟨_,rfl,?_⟩;replace HO230:=Q.a (Kd.R_lower ho0 (aAh (Q.bw HB)));replace HB:=Q.a (aAb (Q.bw HB) hb);(try clear hb);(try clear ho0);obtain ⟨Ao35,co35,eo35⟩:=Kd.R_slice HO230.out;subst eo35) | ((with_reducible refine aAe (f:=187) rfl ?_);refine Q.gl 21 Tryz.func187 #[.string a0,.string a1] rfl rfl rfl rfl ?_;(with_reducible refine (nat_Cmp.calls k a0 a1 t231 _ A7.out).mono ?_);rintro e w36 ⟨rfl,hb⟩;refine ⟨_,rfl,?_⟩;replace HO230:=Q.a (Kd.R_below (Q.kr HO230) hb);replace HB:=Q.a (aAb (Q.bw HB) hb);(try clear hb)) | ((with_reducible refine aAe (f:=164) rfl ?_);refine Q.gl 45 Tryz.func164 #[.string a0] rfl rfl rfl rfl ?_;(with_reducible refine (nat_limbs.calls k a0 t243 _ A30.out).mono ?_);rintro e w37 ⟨v244,rfl,ho0,hb⟩;refine ⟨_,rfl,?_⟩;replace HO245:=Q.a (Kd.R_lower (Kd.R_new' ho0 (Kd.R_lt (Q.kr HO230))) (aAh (Q.bw HB)));replace HO230:=Q.a (Kd.R_elder' (Q.kr HO230) (Kd.R_base ho0) hb);replace HB:=Q.a (aAb (Q.bw HB) hb);(try clear hb);(try clear ho0);obtain ⟨Ao38,co38,eo38⟩:=Kd.R_slice HO245.out;subst eo38) | ((with_reducible refine aAe (f:=189) rfl ?_);refine Q.gl 47 Tryz.func189 #[.slice Ao38 t243.length co38,.slice Ao35 t228.length co35] rfl rfl rfl rfl ?_;(with_reducible refine (nat_long.calls k _ _ t243 _ _ t228 t246 t247 _ ?side1 ?side2 ?side3 ?side4 A31.out).mono ?_);(case side1=>repeat (first | exact (Kd.R_reads' HO245.out).2.2 | (with_reducible refine Kd.C_alloc ?_ _) | (with_reducible refine Kd.C_drewN ?_ _) | (with_reducible refine Kd.C_drew ?_)));(case side2=>exact (Kd.R_reads' HO245.out).2.1);(case side3=>repeat (first | exact (Kd.R_reads' HO230.out).2.2 | (with_reducible refine Kd.C_alloc ?_ _) | (with_reducible refine Kd.C_drewN ?_ _) | (with_reducible refine Kd.C_drew ?_)));(case side4=>exact (Kd.R_reads' HO230.out).2.1);rintro e w39 ⟨v248,v250,rfl,ho0,ho1,hb⟩;refine ⟨_,rfl,?_⟩;replace HO249:=Q.a (Kd.R_lower (Kd.R_new' (Kd.R_new' ho0 (Kd.R_lt (Q.kr HO230))) (Kd.R_lt (Q.kr HO245))) (aAh (Q.bw HB)));replace HO251:=Q.a (Kd.R_lower (Kd.R_new' (Kd.R_new' ho1 (Kd.R_lt (Q.kr HO230))) (Kd.R_lt (Q.kr HO245))) (aAh (Q.bw HB)));replace HO230:=Q.a (Kd.R_mono (Kd.R_told (Kd.R_told (Kd.R_old (Q.kr HO230) hb) (Kd.R_base ho0)) (Kd.R_base ho1)) (fun _ h_=>h_.1));replace HO245:=Q.a (Kd.R_mono (Kd.R_told (Kd.R_told (Kd.R_old (Q.kr HO245) hb) (Kd.R_base ho0)) (Kd.R_base ho1)) (fun _ h_=>h_.1));replace HB:=Q.a (aAb (Q.bw HB) hb);(try clear hb);(try clear ho0);(try clear ho1);obtain ⟨Ao40,co40,eo40⟩:=Kd.R_slice HO249.out;subst eo40) | ((with_reducible refine aAe (f:=188) rfl ?_);refine Q.gl 51 Tryz.func188 #[.slice Ao40 t246.length co40] rfl rfl rfl rfl ?_;(with_reducible refine (nat_mag.calls k _ _ t246 t252 _ ?side1 ?side2 A32.out).mono ?_);(case side1=>repeat (first | exact (Kd.R_reads' HO249.out).2.2 | (with_reducible refine Kd.C_alloc ?_ _) | (with_reducible refine Kd.C_drewN ?_ _) | (with_reducible refine Kd.C_drew ?_)));(case side2=>exact (Kd.R_reads' HO249.out).2.1);rintro e w41 ⟨rfl,hb⟩;refine ⟨_,rfl,?_⟩;replace HO230:=Q.a (Kd.R_below (Q.kr HO230) hb);replace HO245:=Q.a (Kd.R_below (Q.kr HO245) hb);replace HO249:=Q.a (Kd.R_below (Q.kr HO249) hb);replace HO251:=Q.a (Kd.R_below (Q.kr HO251) hb);replace HB:=Q.a (aAb (Q.bw HB) hb);(try clear hb);obtain ⟨Ao42,co42,eo42⟩:=Kd.R_slice HO251.out;subst eo42) | ((with_reducible refine aAe (f:=188) rfl ?_);refine Q.gl 53 Tryz.func188 #[.slice Ao42 t247.length co42] rfl rfl rfl rfl ?_;(with_reducible refine (nat_mag.calls k _ _ t247 t253 _ ?side1 ?side2 A33.out).mono ?_);(case side1=>repeat (first | exact (Kd.R_reads' HO251.out).2.2 | (with_reducible refine Kd.C_alloc ?_ _) | (with_reducible refine Kd.C_drewN ?_ _) | (with_reducible refine Kd.C_drew ?_)));(case side2=>exact (Kd.R_reads' HO251.out).2.1);rintro e w43 ⟨rfl,hb⟩;refine ⟨_,rfl,?_⟩;replace HO230:=Q.a (Kd.R_below (Q.kr HO230) hb);replace HO245:=Q.a (Kd.R_below (Q.kr HO245) hb);replace HO249:=Q.a (Kd.R_below (Q.kr HO249) hb);replace HO251:=Q.a (Kd.R_below (Q.kr HO251) hb);replace HB:=Q.a (aAb (Q.bw HB) hb);(try clear hb)))
    go_ret3
    exact ⟨Q.en,Q.bw HB⟩
end Go.Proofs.YtkkjlpfomofiaaaGreatDoor.P
