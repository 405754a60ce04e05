import Derived.Test.YtjefbecmeobegaaGreatDoorPx0
import Derived.Test.YtjefbecmeobegaaGreatDoorPxNA
import Derived.Test.YtjefbecmeobegaaGreatDoorPxNB
import Derived.Test.YtjefbecmeobegaaGreatDoorPxNatLong
import Derived.Test.YtjefbecmeobegaaGreatDoorXQ
namespace Go.Proofs.YtjefbecmeobegaaGreatDoor.P
open Go.RowKit Go.Proofs.YtjefbecmeobegaaGreatDoorW.PrintWords Go.Proofs.YtjefbecmeobegaaGreatDoorW.PrintLast Go.Proofs.YtjefbecmeobegaaGreatDoorW.PrintMore
attribute [local go_sem] aDh aDi aDK aDL aCB aCC aDj aDk
attribute [local go_sem] XW.cell_twice
set_option linter.unusedVariables false
set_option linter.unusedSimpArgs false
def nat_Div.f (k:Nat) (a0:ByteArray) (a1:ByteArray):Option (ByteArray × ByteArray × Bool):=(nat_limbs.f k a1).bind λ t193=>(if (t193.length:Int)=0 then (some ((⟨#[]⟩:ByteArray),(⟨#[]⟩:ByteArray),false)) else ((nat_Cmp.f k a0 a1).bind λ t196=>(if t196 < 0 then ((nat_Normalize.f k a0).bind λ t197=>(some ((⟨#[]⟩:ByteArray),t197,true))) else (if (t193.length:Int)=1 then ((nat_limbs.f k a0).bind λ t198=>(if 0 < (t193.length:Int) then ((nat_short.f k t198 (rd t193 0)).bind λ bt202=>((nat_mag.f k bt202.1).bind λ t206=>((nat_FromUint64.f k (IntKind.u64.wrap (bt202.2))).bind λ t207=>(some (t206,t207,true))))) else (none))) else ((nat_limbs.f k a0).bind λ t208=>((nat_long.f k t208 t193).bind λ bt211=>((nat_mag.f k bt211.1).bind λ t217=>((nat_mag.f k bt211.2).bind λ t218=>(some (t217,t218,true))))))))))
theorem nat_Div.mono:∀ a0 a1 k,LeO (nat_Div.f k a0 a1) (nat_Div.f (k+1) a0 a1):=by
 intro a0 a1 k
 unfold nat_Div.f
 repeat' first
   | (with_reducible exact nat_Cmp.mono _ _ _)
   | (with_reducible exact nat_FromUint64.mono _ _)
   | (with_reducible exact nat_Normalize.mono _ _)
   | (with_reducible exact nat_limbs.mono _ _)
   | (with_reducible exact nat_long.mono _ _ _)
   | (with_reducible exact nat_mag.mono _ _)
   | (with_reducible exact nat_short.mono _ _ _)
   | (with_reducible exact LeO.refl _)
   | (with_reducible exact LeO.none _)
   | (with_reducible refine LeO.ite ?_ ?_)
   | (with_reducible refine LeO.bind ?_ (λ _=>?_))
   | exact nat_Cmp.mono _ _ _
   | exact nat_FromUint64.mono _ _
   | exact nat_Normalize.mono _ _
   | exact nat_limbs.mono _ _
   | exact nat_long.mono _ _ _
   | exact nat_mag.mono _ _
   | exact nat_short.mono _ _ _
   | exact LeO.none _
   | refine LeO.ite ?_ ?_
   | refine LeO.bind ?_ (λ _=>?_)
def nat_Div.T7:Bool × List (List Nat × List Nat):=(true,[([],[]),([0],[0]),([],[]),([2],[2]),([3],[3]),([1,4,1],[1,4]),([5],[5]),([6],[6]),([6],[6]),([7,5,0,1,2,3,4,5,6,7],[7]),([8,9,0,1,2,3,4,5,6,7,8,9],[8])])
def nat_Div.B7:List Nat:=[0,1,0,4,12,31,63,127,127,255,1023]
theorem nat_Div.tab7:aCd .any (opsOf Tryz.f126 7)=nat_Div.T7:=by kernel_rfl
theorem nat_Div.bits7:aFf nat_Div.T7.2 nat_Div.B7=true:=by kernel_rfl
set_option maxHeartbeats 8000000 in
set_option maxRecDepth 100000 in
theorem nat_Div.calls (k:Nat) (a0:ByteArray) (a1:ByteArray) (r1:ByteArray) (r2:ByteArray) (r3:Bool) (w:World) (h:nat_Div.f k a0 a1=some (r1,r2,r3)) :
  Calls Tryz.prog 126 #[.string a0,.string a1] w λ e w'=>e=.returned (.tuple #[.string r1,.string r2,.bool r3])/\Below w.heap.size w w':=by
 have HB:=Q.a (Below.refl w.heap.size w)
 have H:((nat_limbs.f k a1).bind λ t193=>(if (t193.length:Int)=0 then (some ((⟨#[]⟩:ByteArray),(⟨#[]⟩:ByteArray),false)) else ((nat_Cmp.f k a0 a1).bind λ t196=>(if t196 < 0 then ((nat_Normalize.f k a0).bind λ t197=>(some ((⟨#[]⟩:ByteArray),t197,true))) else (if (t193.length:Int)=1 then ((nat_limbs.f k a0).bind λ t198=>(if 0 < (t193.length:Int) then ((nat_short.f k t198 (rd t193 0)).bind λ bt202=>((nat_mag.f k bt202.1).bind λ t206=>((nat_FromUint64.f k (IntKind.u64.wrap (bt202.2))).bind λ t207=>(some (t206,t207,true))))) else (none))) else ((nat_limbs.f k a0).bind λ t208=>((nat_long.f k t208 t193).bind λ bt211=>((nat_mag.f k bt211.1).bind λ t217=>((nat_mag.f k bt211.2).bind λ t218=>(some (t217,t218,true)))))))))))=some (r1,r2,r3):=h
 clear h
 replace H:=Option.bind_eq_some_iff.mp H
 obtain ⟨t193,A30,H⟩:=H
 try dsimp only at H
 have A3:=Q.a A30
 clear A30
 by_cases c4:(t193.length:Int)=0
 ·rw [if_pos c4] at H
  have c4b0:((t193.length:Int) == 0)=true:=beq_iff_eq.mpr c4
  have c4b1:((t193.length:Int) != 0)=false:=bne_eq_false_iff_eq.mpr c4
  clear c4
  simp only [Option.some.injEq,Prod.mk.injEq] at H
  obtain ⟨rfl,rfl,rfl⟩:=H
  go_enter Tryz.func126,Tryz.ntmps126
  go_wp2_with (first | ((with_reducible refine aAo (f:=149) rfl ?_);refine Q.gl 13 Tryz.func149 #[.string a1] rfl rfl rfl rfl ?_;(with_reducible refine (nat_limbs.calls k a1 t193 _ A3.out).mono ?_);rintro e w5 ⟨v194,rfl,ho0,hb⟩;refine ⟨_,rfl,?_⟩;replace HO195:=Q.a (Kd.R_lower ho0 (aAp (Q.bw HB)));replace HB:=Q.a (aAg (Q.bw HB) hb);(try clear hb);(try clear ho0);obtain ⟨Ao6,co6,eo6⟩:=Kd.R_slice HO195.out;subst eo6))
  go_ret3
  exact ⟨Q.en,Q.bw HB⟩
 ·rw [if_neg c4] at H
  have c4b0:((t193.length:Int) == 0)=false:=beq_eq_false_iff_ne.mpr c4
  have c4b1:((t193.length:Int) != 0)=true:=bne_iff_ne.mpr c4
  have c4b2:¬ (t193=[]):=λ h_=>c4 (by rw [h_];rfl)
  replace H:=Option.bind_eq_some_iff.mp H
  obtain ⟨t196,A70,H⟩:=H
  try dsimp only at H
  have A7:=Q.a A70
  clear A70
  by_cases c8:t196 < 0
  ·rw [if_pos c8] at H
   have c8b0:decide (t196 < 0)=true:=decide_eq_true c8
   clear c8
   replace H:=Option.bind_eq_some_iff.mp H
   obtain ⟨t197,A90,H⟩:=H
   try dsimp only at H
   have A9:=Q.a A90
   clear A90
   simp only [Option.some.injEq,Prod.mk.injEq] at H
   obtain ⟨rfl,rfl,rfl⟩:=H
   go_enter Tryz.func126,Tryz.ntmps126
   go_wp2_with (first | ((with_reducible refine aAo (f:=149) rfl ?_);refine Q.gl 13 Tryz.func149 #[.string a1] rfl rfl rfl rfl ?_;(with_reducible refine (nat_limbs.calls k a1 t193 _ A3.out).mono ?_);rintro e w10 ⟨v194,rfl,ho0,hb⟩;refine ⟨_,rfl,?_⟩;replace HO195:=Q.a (Kd.R_lower ho0 (aAp (Q.bw HB)));replace HB:=Q.a (aAg (Q.bw HB) hb);(try clear hb);(try clear ho0);obtain ⟨Ao11,co11,eo11⟩:=Kd.R_slice HO195.out;subst eo11) | ((with_reducible refine aAo (f:=150) rfl ?_);refine Q.gl 21 Tryz.func150 #[.string a0,.string a1] rfl rfl rfl rfl ?_;(with_reducible refine (nat_Cmp.calls k a0 a1 t196 _ A7.out).mono ?_);rintro e w12 ⟨rfl,hb⟩;refine ⟨_,rfl,?_⟩;replace HO195:=Q.a (Kd.R_below (Q.kr HO195) hb);replace HB:=Q.a (aAg (Q.bw HB) hb);(try clear hb)) | ((with_reducible refine aAo (f:=123) rfl ?_);refine Q.gl 24 Tryz.func123 #[.string a0] rfl rfl rfl rfl ?_;(with_reducible refine (nat_Normalize.calls k a0 t197 _ A9.out).mono ?_);rintro e w13 ⟨rfl,hb⟩;refine ⟨_,rfl,?_⟩;replace HO195:=Q.a (Kd.R_below (Q.kr HO195) hb);replace HB:=Q.a (aAg (Q.bw HB) hb);(try clear hb)))
   go_ret3
   exact ⟨Q.en,Q.bw HB⟩
  ·rw [if_neg c8] at H
   have c8b0:decide (t196 < 0)=false:=decide_eq_false c8
   clear c8
   by_cases c14:(t193.length:Int)=1
   ·rw [if_pos c14] at H
    have c14b0:((t193.length:Int) == 1)=true:=beq_iff_eq.mpr c14
    have c14b1:((t193.length:Int) != 1)=false:=bne_eq_false_iff_eq.mpr c14
    clear c14
    replace H:=Option.bind_eq_some_iff.mp H
    obtain ⟨t198,A150,H⟩:=H
    try dsimp only at H
    have A15:=Q.a A150
    clear A150
    by_cases c16:0 < (t193.length:Int)
    ·rw [if_pos c16] at H
     have c16b0:decide (0 < (t193.length:Int))=true:=decide_eq_true c16
     have c16b1:decide (0 < t193.length)=true:=decide_eq_true kJ
     clear c16
     replace H:=Option.bind_eq_some_iff.mp H
     obtain ⟨⟨t202,t203⟩,A170,H⟩:=H
     try dsimp only at H
     have A17:=Q.a A170
     clear A170
     replace H:=Option.bind_eq_some_iff.mp H
     obtain ⟨t206,A180,H⟩:=H
     try dsimp only at H
     have A18:=Q.a A180
     clear A180
     replace H:=Option.bind_eq_some_iff.mp H
     obtain ⟨t207,A190,H⟩:=H
     try dsimp only at H
     have A19:=Q.a A190
     clear A190
     simp only [Option.some.injEq,Prod.mk.injEq] at H
     obtain ⟨rfl,rfl,rfl⟩:=H
     go_enter Tryz.func126,Tryz.ntmps126
     try go_wp2_with (first | ((with_reducible refine aAo (f:=149) rfl ?_);refine Q.gl 13 Tryz.func149 #[.string a1] rfl rfl rfl rfl ?_;(with_reducible refine (nat_limbs.calls k a1 t193 _ A3.out).mono ?_);rintro e w20 ⟨v194,rfl,ho0,hb⟩;refine ⟨_,rfl,?_⟩;replace HO195:=Q.a (Kd.R_lower ho0 (aAp (Q.bw HB)));replace HB:=Q.a (aAg (Q.bw HB) hb);(try clear hb);(try clear ho0);obtain ⟨Ao21,co21,eo21⟩:=Kd.R_slice HO195.out;subst eo21) | ((with_reducible refine aAo (f:=150) rfl ?_);refine Q.gl 21 Tryz.func150 #[.string a0,.string a1] rfl rfl rfl rfl ?_;(with_reducible refine (nat_Cmp.calls k a0 a1 t196 _ A7.out).mono ?_);rintro e w22 ⟨rfl,hb⟩;refine ⟨_,rfl,?_⟩;replace HO195:=Q.a (Kd.R_below (Q.kr HO195) hb);replace HB:=Q.a (aAg (Q.bw HB) hb);(try clear hb)))
     replace HO195:=Q.a (Kd.R_drew HO195.out)
     replace HB:=Q.a (aAK HB.out)
     have p201:0<=(0:Int):=kJ
     have q201:0 < (t193.length:Int):=of_decide_eq_true (by first | (with_reducible assumption) | assumption)
     obtain ⟨ad201,e201,hx201_0⟩:=Kd.at_int (Kd.R_reads' HO195.out).2.2 0 p201 q201
     cases e201
     have qi201:(0 < t193.length)=True:=eq_true kJ
     (try rw [show ((0:Int)).toNat=0 from rfl] at hx201_0)
     (try rw [Addr.add_zero'] at hx201_0)
     replace p201:=eq_true p201
     replace q201:=eq_true q201
     refine aP7 (n:=11) (S:=λ w'=>w'.cell? ad201=some (.int .u32 (rd t193 0))) (ds:=[]) #[false,false,false,false,false,false,false,false,false,false,false] kK rfl rfl (hx201_0) (λ hHeld=>?_);refine aKD nat_Div.tab7 nat_Div.bits7 (λ HT_ HW_=>?_)
     generalize w22.drew=w23 at HO195 HB hx201_0 hHeld ⊢
     refine aBL (i:=0) (N:=some 30) (v:=?_) (a':=?_) #[true,false,false,false,false,false,false,false,false,false,false] rfl rfl (aBt HT_.out kK) (λ _ _ _ h=>h) (Or.inl ⟨by rfl,?_⟩) ?_ ?_
     rotate_left
     ·intro w'
      go_simp
      with_reducible rfl
     rotate_left
     ·simp only [Act.put,List.setIfInBounds_toArray,List.set_cons_zero,List.set_cons_succ,aAt,aAP]
      rfl
     refine aBL (i:=2) (N:=some 32) (v:=?_) (a':=?_) #[true,false,true,false,false,false,false,false,false,false,false] rfl rfl (aBt HT_.out kK) (λ _ _ _ h=>h) (Or.inl ⟨by rfl,?_⟩) ?_ ?_
     rotate_left
     ·intro w'
      go_simp
      with_reducible rfl
     rotate_left
     ·simp only [Act.put,List.setIfInBounds_toArray,List.set_cons_zero,List.set_cons_succ,aAt,aAP]
      rfl
     refine aBL (i:=3) (N:=some 33) (v:=?_) (a':=?_) #[true,false,true,true,false,false,false,false,false,false,false] rfl rfl (aBt HT_.out kK) (λ _ _ _ h=>h) (Or.inl ⟨by rfl,?_⟩) ?_ ?_
     rotate_left
     ·intro w'
      go_simp
      with_reducible rfl
     rotate_left
     ·simp only [Act.put,List.setIfInBounds_toArray,List.set_cons_zero,List.set_cons_succ,aAt,aAP]
      rfl
     refine take_ (i:=4) (N:=some 34) (v:=?_) (a':=?_) #[true,false,true,true,true,false,false,false,false,false,false] rfl rfl (aID HT_.out HW_.out kK) (λ _ _ _ h=>h) (Or.inl ⟨by rfl,?_⟩) hHeld ?_ ?_
     rotate_left
     ·intro w' s0
      go_simp
      with_reducible rfl
     rotate_left
     ·simp only [Act.put,List.setIfInBounds_toArray,List.set_cons_zero,List.set_cons_succ,aAt,aAP]
      rfl
     refine one_ (i:=1) (N:=some 31) #[true,true,true,true,true,false,false,false,false,false,false] rfl rfl (aMg HT_.out kK) kQ (λ K hK=>?_)
     refine aSc Tryz.func149 kK rfl #[.string a0] (by rfl) rfl rfl (by (try simp only [List.map_toArray,List.map_cons,List.map_nil]);first | done | rfl | (simp only [List.length_drop,List.length_take];rfl)) ?_
     with_reducible refine (nat_limbs.calls k a0 t198 _ A15.out).mono ?_
     rintro e w24 ⟨v199,rfl,ho0,hb⟩
     have HS0_:=(hb.cell (World.block_lt_of_cell? _ _ (hHeld))).trans (hHeld)
     refine ⟨_,rfl,?_⟩
     replace HO200:=Q.a (Kd.R_lower (Kd.R_new' ho0 (Kd.R_lt (Q.kr HO195))) (aAp (Q.bw HB)))
     replace HO195:=Q.a (Kd.R_elder' (Q.kr HO195) (Kd.R_base ho0) hb)
     replace HB:=Q.a (aAg (Q.bw HB) hb)
     (try clear hb)
     (try clear hb2)
     (try clear hk)
     (try clear hi)
     (try clear ho0)
     obtain ⟨Ao25,co25,eo25⟩:=Kd.R_slice HO200.out
     (first | subst eo25 | (injection eo25 with f1_ f2_ f3_;have f4_:=f1_.symm;have f5_:=f3_.symm;clear f1_ f2_ f3_;subst f4_;subst f5_))
     refine hK.out _ _ (HS0_) (λ hHeld=>?_)
     clear hK K
     refine aSb (a':=?_) ?_ ?_
     rotate_left
     ·show Act.put _ (some 31) _=_
      simp only [Act.put,List.setIfInBounds_toArray,List.set_cons_zero,List.set_cons_succ,aAt,aAP]
      rfl
     refine one_ (i:=5) (N:=some 35) #[true,true,true,true,true,true,false,false,false,false,false] rfl rfl (aMg HT_.out kK) kQ (λ K hK=>?_)
     refine aSc Tryz.func151 kK rfl #[.slice Ao25 t198.length co25,.int .u32 (rd t193 0)] (by rfl) rfl rfl (by (try simp only [List.map_toArray,List.map_cons,List.map_nil]);first | done | rfl | (simp only [List.length_drop,List.length_take];rfl)) ?_
     with_reducible refine (nat_short.calls k _ _ t198 (rd t193 0) t202 t203 _ ?side1 ?side2 A17.out).mono ?_
     (case side1=>repeat (first | exact (Kd.R_reads' HO200.out).2.2 | (with_reducible refine Kd.C_alloc ?_ _) | (with_reducible refine Kd.C_drewN ?_ _) | (with_reducible refine Kd.C_drew ?_)))
     (case side2=>exact (Kd.R_reads' HO200.out).2.1)
     rintro e w26 ⟨v204,rfl,ho0,hb⟩
     have HS0_:=(hb.cell (World.block_lt_of_cell? _ _ (hHeld))).trans (hHeld)
     refine ⟨_,rfl,?_⟩
     replace HO205:=Q.a (Kd.R_lower (Kd.R_new' (Kd.R_new' ho0 (Kd.R_lt (Q.kr HO195))) (Kd.R_lt (Q.kr HO200))) (aAp (Q.bw HB)))
     replace HO195:=Q.a (Kd.R_elder' (Q.kr HO195) (Kd.R_base ho0) hb)
     replace HO200:=Q.a (Kd.R_elder' (Q.kr HO200) (Kd.R_base ho0) hb)
     replace HB:=Q.a (aAg (Q.bw HB) hb)
     (try clear hb)
     (try clear hb2)
     (try clear hk)
     (try clear hi)
     (try clear ho0)
     refine hK.out _ _ (HS0_) (λ hHeld=>?_)
     clear hK K
     refine aSb (a':=?_) ?_ ?_
     rotate_left
     ·show Act.put _ (some 35) _=_
      simp only [Act.put,List.setIfInBounds_toArray,List.set_cons_zero,List.set_cons_succ,aAt,aAP]
      rfl
     refine aBL (i:=6) (N:=some 29) (v:=?_) (a':=?_) #[true,true,true,true,true,true,true,false,false,false,false] rfl rfl (aBt HT_.out kK) (λ _ _ _ h=>h) (Or.inl ⟨by rfl,?_⟩) ?_ ?_
     rotate_left
     ·intro w'
      go_simp
      with_reducible rfl
     rotate_left
     ·simp only [Act.put,List.setIfInBounds_toArray,List.set_cons_zero,List.set_cons_succ,aAt,aAP]
      rfl
     refine aBL (i:=7) (N:=some 36) (v:=?_) (a':=?_) #[true,true,true,true,true,true,true,true,false,false,false] rfl rfl (aBt HT_.out kK) (λ _ _ _ h=>h) (Or.inl ⟨by rfl,?_⟩) ?_ ?_
     rotate_left
     ·intro w'
      go_simp
      with_reducible rfl
     rotate_left
     ·simp only [Act.put,List.setIfInBounds_toArray,List.set_cons_zero,List.set_cons_succ,aAt,aAP]
      rfl
     refine aBL (i:=8) (N:=some 37) (v:=?_) (a':=?_) #[true,true,true,true,true,true,true,true,true,false,false] rfl rfl (aBt HT_.out kK) (λ _ _ _ h=>h) (Or.inl ⟨by rfl,?_⟩) ?_ ?_
     rotate_left
     ·intro w'
      go_simp
      with_reducible rfl
     rotate_left
     ·simp only [Act.put,List.setIfInBounds_toArray,List.set_cons_zero,List.set_cons_succ,aAt,aAP]
      rfl
     refine aBL (i:=9) (N:=some 8) (v:=?_) (a':=?_) #[true,true,true,true,true,true,true,true,true,true,false] rfl rfl (aBt HT_.out kK) (λ _ _ _ h=>h) (Or.inl ⟨by rfl,?_⟩) ?_ ?_
     rotate_left
     ·intro w'
      go_simp
      with_reducible rfl
     rotate_left
     ·simp only [Act.put,List.setIfInBounds_toArray,List.set_cons_zero,List.set_cons_succ,aAt,aAP]
      rfl
     refine aBL (i:=10) (N:=some 9) (v:=?_) (a':=?_) #[true,true,true,true,true,true,true,true,true,true,true] rfl rfl (aBt HT_.out kK) (λ _ _ _ h=>h) (Or.inl ⟨by rfl,?_⟩) ?_ ?_
     rotate_left
     ·intro w'
      go_simp
      with_reducible rfl
     rotate_left
     ·simp only [Act.put,List.setIfInBounds_toArray,List.set_cons_zero,List.set_cons_succ,aAt,aAP]
      rfl
     refine aSa (aNy HT_.out kK) ?_
     obtain ⟨Ao27,co27,eo27⟩:=Kd.R_slice HO205.out
     subst eo27
     try go_wp2_with (first | ((with_reducible refine aAo (f:=147) rfl ?_);refine Q.gl 39 Tryz.func147 #[.slice Ao27 t202.length co27] rfl rfl rfl rfl ?_;(with_reducible refine (nat_mag.calls k _ _ t202 t206 _ ?side1 ?side2 A18.out).mono ?_);(case side1=>repeat (first | exact (Kd.R_reads' HO205.out).2.2 | (with_reducible refine Kd.C_alloc ?_ _) | (with_reducible refine Kd.C_drewN ?_ _) | (with_reducible refine Kd.C_drew ?_)));(case side2=>exact (Kd.R_reads' HO205.out).2.1);rintro e w28 ⟨rfl,hb⟩;refine ⟨_,rfl,?_⟩;replace HO195:=Q.a (Kd.R_below (Q.kr HO195) hb);replace HO200:=Q.a (Kd.R_below (Q.kr HO200) hb);replace HO205:=Q.a (Kd.R_below (Q.kr HO205) hb);replace HB:=Q.a (aAg (Q.bw HB) hb);(try clear hb)) | ((with_reducible refine aAo (f:=124) rfl ?_);refine Q.gl 42 Tryz.func124 #[.int .u64 (IntKind.u64.wrap (t203))] rfl rfl rfl rfl ?_;(with_reducible refine (nat_FromUint64.calls k (IntKind.u64.wrap (t203)) t207 _ A19.out).mono ?_);rintro e w29 ⟨rfl,hb⟩;refine ⟨_,rfl,?_⟩;replace HO195:=Q.a (Kd.R_below (Q.kr HO195) hb);replace HO200:=Q.a (Kd.R_below (Q.kr HO200) hb);replace HO205:=Q.a (Kd.R_below (Q.kr HO205) hb);replace HB:=Q.a (aAg (Q.bw HB) hb);(try clear hb)))
     go_ret3
     exact ⟨Q.en,Q.bw HB⟩
    ·rw [if_neg c16] at H
     exact absurd H (by simp)
   ·rw [if_neg c14] at H
    have c14b0:((t193.length:Int) == 1)=false:=beq_eq_false_iff_ne.mpr c14
    have c14b1:((t193.length:Int) != 1)=true:=bne_iff_ne.mpr c14
    replace H:=Option.bind_eq_some_iff.mp H
    obtain ⟨t208,A300,H⟩:=H
    try dsimp only at H
    have A30:=Q.a A300
    clear A300
    replace H:=Option.bind_eq_some_iff.mp H
    obtain ⟨⟨t211,t212⟩,A310,H⟩:=H
    try dsimp only at H
    have A31:=Q.a A310
    clear A310
    replace H:=Option.bind_eq_some_iff.mp H
    obtain ⟨t217,A320,H⟩:=H
    try dsimp only at H
    have A32:=Q.a A320
    clear A320
    replace H:=Option.bind_eq_some_iff.mp H
    obtain ⟨t218,A330,H⟩:=H
    try dsimp only at H
    have A33:=Q.a A330
    clear A330
    simp only [Option.some.injEq,Prod.mk.injEq] at H
    obtain ⟨rfl,rfl,rfl⟩:=H
    go_enter Tryz.func126,Tryz.ntmps126
    go_wp2_with (first | ((with_reducible refine aAo (f:=149) rfl ?_);refine Q.gl 13 Tryz.func149 #[.string a1] rfl rfl rfl rfl ?_;(with_reducible refine (nat_limbs.calls k a1 t193 _ A3.out).mono ?_);rintro e w34 ⟨v194,rfl,ho0,hb⟩;refine ⟨_,rfl,?_⟩;replace HO195:=Q.a (Kd.R_lower ho0 (aAp (Q.bw HB)));replace HB:=Q.a (aAg (Q.bw HB) hb);(try clear hb);(try clear ho0);obtain ⟨Ao35,co35,eo35⟩:=Kd.R_slice HO195.out;subst eo35) | ((with_reducible refine aAo (f:=150) rfl ?_);refine Q.gl 21 Tryz.func150 #[.string a0,.string a1] rfl rfl rfl rfl ?_;(with_reducible refine (nat_Cmp.calls k a0 a1 t196 _ A7.out).mono ?_);rintro e w36 ⟨rfl,hb⟩;refine ⟨_,rfl,?_⟩;replace HO195:=Q.a (Kd.R_below (Q.kr HO195) hb);replace HB:=Q.a (aAg (Q.bw HB) hb);(try clear hb)) | ((with_reducible refine aAo (f:=149) rfl ?_);refine Q.gl 45 Tryz.func149 #[.string a0] rfl rfl rfl rfl ?_;(with_reducible refine (nat_limbs.calls k a0 t208 _ A30.out).mono ?_);rintro e w37 ⟨v209,rfl,ho0,hb⟩;refine ⟨_,rfl,?_⟩;replace HO210:=Q.a (Kd.R_lower (Kd.R_new' ho0 (Kd.R_lt (Q.kr HO195))) (aAp (Q.bw HB)));replace HO195:=Q.a (Kd.R_elder' (Q.kr HO195) (Kd.R_base ho0) hb);replace HB:=Q.a (aAg (Q.bw HB) hb);(try clear hb);(try clear ho0);obtain ⟨Ao38,co38,eo38⟩:=Kd.R_slice HO210.out;subst eo38) | ((with_reducible refine aAo (f:=152) rfl ?_);refine Q.gl 47 Tryz.func152 #[.slice Ao38 t208.length co38,.slice Ao35 t193.length co35] rfl rfl rfl rfl ?_;(with_reducible refine (nat_long.calls k _ _ t208 _ _ t193 t211 t212 _ ?side1 ?side2 ?side3 ?side4 A31.out).mono ?_);(case side1=>repeat (first | exact (Kd.R_reads' HO210.out).2.2 | (with_reducible refine Kd.C_alloc ?_ _) | (with_reducible refine Kd.C_drewN ?_ _) | (with_reducible refine Kd.C_drew ?_)));(case side2=>exact (Kd.R_reads' HO210.out).2.1);(case side3=>repeat (first | exact (Kd.R_reads' HO195.out).2.2 | (with_reducible refine Kd.C_alloc ?_ _) | (with_reducible refine Kd.C_drewN ?_ _) | (with_reducible refine Kd.C_drew ?_)));(case side4=>exact (Kd.R_reads' HO195.out).2.1);rintro e w39 ⟨v213,v215,rfl,ho0,ho1,hb⟩;refine ⟨_,rfl,?_⟩;replace HO214:=Q.a (Kd.R_lower (Kd.R_new' (Kd.R_new' ho0 (Kd.R_lt (Q.kr HO195))) (Kd.R_lt (Q.kr HO210))) (aAp (Q.bw HB)));replace HO216:=Q.a (Kd.R_lower (Kd.R_new' (Kd.R_new' ho1 (Kd.R_lt (Q.kr HO195))) (Kd.R_lt (Q.kr HO210))) (aAp (Q.bw HB)));replace HO195:=Q.a (Kd.R_mono (Kd.R_told (Kd.R_told (Kd.R_old (Q.kr HO195) hb) (Kd.R_base ho0)) (Kd.R_base ho1)) (λ _ h_=>h_.1));replace HO210:=Q.a (Kd.R_mono (Kd.R_told (Kd.R_told (Kd.R_old (Q.kr HO210) hb) (Kd.R_base ho0)) (Kd.R_base ho1)) (λ _ h_=>h_.1));replace HB:=Q.a (aAg (Q.bw HB) hb);(try clear hb);(try clear ho0);(try clear ho1);obtain ⟨Ao40,co40,eo40⟩:=Kd.R_slice HO214.out;subst eo40) | ((with_reducible refine aAo (f:=147) rfl ?_);refine Q.gl 51 Tryz.func147 #[.slice Ao40 t211.length co40] rfl rfl rfl rfl ?_;(with_reducible refine (nat_mag.calls k _ _ t211 t217 _ ?side1 ?side2 A32.out).mono ?_);(case side1=>repeat (first | exact (Kd.R_reads' HO214.out).2.2 | (with_reducible refine Kd.C_alloc ?_ _) | (with_reducible refine Kd.C_drewN ?_ _) | (with_reducible refine Kd.C_drew ?_)));(case side2=>exact (Kd.R_reads' HO214.out).2.1);rintro e w41 ⟨rfl,hb⟩;refine ⟨_,rfl,?_⟩;replace HO195:=Q.a (Kd.R_below (Q.kr HO195) hb);replace HO210:=Q.a (Kd.R_below (Q.kr HO210) hb);replace HO214:=Q.a (Kd.R_below (Q.kr HO214) hb);replace HO216:=Q.a (Kd.R_below (Q.kr HO216) hb);replace HB:=Q.a (aAg (Q.bw HB) hb);(try clear hb);obtain ⟨Ao42,co42,eo42⟩:=Kd.R_slice HO216.out;subst eo42) | ((with_reducible refine aAo (f:=147) rfl ?_);refine Q.gl 53 Tryz.func147 #[.slice Ao42 t212.length co42] rfl rfl rfl rfl ?_;(with_reducible refine (nat_mag.calls k _ _ t212 t218 _ ?side1 ?side2 A33.out).mono ?_);(case side1=>repeat (first | exact (Kd.R_reads' HO216.out).2.2 | (with_reducible refine Kd.C_alloc ?_ _) | (with_reducible refine Kd.C_drewN ?_ _) | (with_reducible refine Kd.C_drew ?_)));(case side2=>exact (Kd.R_reads' HO216.out).2.1);rintro e w43 ⟨rfl,hb⟩;refine ⟨_,rfl,?_⟩;replace HO195:=Q.a (Kd.R_below (Q.kr HO195) hb);replace HO210:=Q.a (Kd.R_below (Q.kr HO210) hb);replace HO214:=Q.a (Kd.R_below (Q.kr HO214) hb);replace HO216:=Q.a (Kd.R_below (Q.kr HO216) hb);replace HB:=Q.a (aAg (Q.bw HB) hb);(try clear hb)))
    go_ret3
    exact ⟨Q.en,Q.bw HB⟩
end Go.Proofs.YtjefbecmeobegaaGreatDoor.P
