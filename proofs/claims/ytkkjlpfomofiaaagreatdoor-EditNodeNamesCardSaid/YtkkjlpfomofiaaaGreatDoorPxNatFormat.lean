import Derived.Test.YtkkjlpfomofiaaaGreatDoorPx0
import Derived.Test.YtkkjlpfomofiaaaGreatDoorPxNA
import Derived.Test.YtkkjlpfomofiaaaGreatDoorPxNB
import Derived.Test.YtkkjlpfomofiaaaGreatDoorXQ
namespace Go.Proofs.YtkkjlpfomofiaaaGreatDoor.P
open Go.RowKit Go.Proofs.YtkkjlpfomofiaaaGreatDoorW.PrintWords Go.Proofs.YtkkjlpfomofiaaaGreatDoorW.PrintLast Go.Proofs.YtkkjlpfomofiaaaGreatDoorW.PrintMore
attribute [local go_sem] aBK aBL aCg aCh aB0 aB1 aBM aBN
attribute [local go_sem] XW.cell_twice
set_option linter.unusedVariables false
set_option linter.unusedSimpArgs false
mutual
def nat_Format.l0:Nat→List Int→ByteArray→Option (ByteArray)
 | 0,_,_=>none
 | k+1,x3,x4=>(nat_short.f k x3 1000000000).bind fun bt268=>(nat_Format.l1 k x4 bt268.1 bt268.2)
def nat_Format.j2:Nat→ByteArray→List Int→Int→Option (ByteArray)
 | 0,_,_,_=>none
 | k+1,x4,x5,x6=>(X.strconv_FormatUint.f (IntKind.u64.wrap (x6)) 10).bind fun t276=>(if (x5.length:Int)=0 then (if t276.size+x4.size≤9223372036854775807 then (some (t276++x4)) else (none)) else ((X.strings_Repeat.f (⟨#[48]⟩:ByteArray) (wrap64 (9 - (t276.size:Int)))).bind fun t277=>(if t277.size+t276.size≤9223372036854775807 then (if (t277++t276).size+x4.size≤9223372036854775807 then (nat_Format.l0 k x5 ((t277++t276)++x4)) else (none)) else (none))))
def nat_Format.l1:Nat→ByteArray→List Int→Int→Option (ByteArray)
 | 0,_,_,_=>none
 | k+1,x4,x5,x6=>if (x5.length:Int) > 0 then (if 0≤(wrap64 ((x5.length:Int) - 1)) then (if (wrap64 ((x5.length:Int) - 1)) < (x5.length:Int) then (if (rd x5 (wrap64 ((x5.length:Int) - 1)))=0 then (if (wrap64 ((x5.length:Int) - 1))≤(x5.length:Int) then (nat_Format.l1 k x4 (x5.take ((wrap64 ((x5.length:Int) - 1)):Int).toNat) x6) else (none)) else (nat_Format.j2 k x4 x5 x6)) else (none)) else (none)) else (nat_Format.j2 k x4 x5 x6)
end
def nat_Format.f (k:Nat) (a0:ByteArray):Option (ByteArray):=(nat_limbs.f k a0).bind fun t265=>(nat_Format.l0 k t265 (⟨#[]⟩:ByteArray))
theorem nat_Format.mono_l:∀ k,(∀ y0 y1,LeO (nat_Format.l0 k y0 y1) (nat_Format.l0 (k+1) y0 y1))∧(∀ y0 y1 y2,LeO (nat_Format.j2 k y0 y1 y2) (nat_Format.j2 (k+1) y0 y1 y2))∧(∀ y0 y1 y2,LeO (nat_Format.l1 k y0 y1 y2) (nat_Format.l1 (k+1) y0 y1 y2))
 | 0=>⟨fun _ _ r h=>by simp [nat_Format.l0] at h,fun _ _ _ r h=>by simp [nat_Format.j2] at h,fun _ _ _ r h=>by simp [nat_Format.l1] at h⟩
 | k+1=>by
  obtain ⟨ih0,ih1,ih2⟩:=nat_Format.mono_l k
  refine ⟨?_,?_,?_⟩
  ·intro y0 y1
   unfold nat_Format.l0
   repeat' first
   | (with_reducible exact ih0 _ _)
   | (with_reducible exact ih1 _ _ _)
   | (with_reducible exact ih2 _ _ _)
   | (with_reducible exact nat_limbs.mono _ _)
   | (with_reducible exact nat_short.mono _ _ _)
   | (with_reducible exact LeO.refl _)
   | (with_reducible exact LeO.none _)
   | (with_reducible refine LeO.ite ?_ ?_)
   | (with_reducible refine LeO.bind ?_ (fun _=>?_))
   | exact ih0 _ _
   | exact ih1 _ _ _
   | exact ih2 _ _ _
   | exact nat_limbs.mono _ _
   | exact nat_short.mono _ _ _
   | exact LeO.none _
   | refine LeO.ite ?_ ?_
   | refine LeO.bind ?_ (fun _=>?_)
  ·intro y0 y1 y2
   unfold nat_Format.j2
   repeat' first
   | (with_reducible exact ih0 _ _)
   | (with_reducible exact ih1 _ _ _)
   | (with_reducible exact ih2 _ _ _)
   | (with_reducible exact nat_limbs.mono _ _)
   | (with_reducible exact nat_short.mono _ _ _)
   | (with_reducible exact LeO.refl _)
   | (with_reducible exact LeO.none _)
   | (with_reducible refine LeO.ite ?_ ?_)
   | (with_reducible refine LeO.bind ?_ (fun _=>?_))
   | exact ih0 _ _
   | exact ih1 _ _ _
   | exact ih2 _ _ _
   | exact nat_limbs.mono _ _
   | exact nat_short.mono _ _ _
   | exact LeO.none _
   | refine LeO.ite ?_ ?_
   | refine LeO.bind ?_ (fun _=>?_)
  ·intro y0 y1 y2
   unfold nat_Format.l1
   repeat' first
   | (with_reducible exact ih0 _ _)
   | (with_reducible exact ih1 _ _ _)
   | (with_reducible exact ih2 _ _ _)
   | (with_reducible exact nat_limbs.mono _ _)
   | (with_reducible exact nat_short.mono _ _ _)
   | (with_reducible exact LeO.refl _)
   | (with_reducible exact LeO.none _)
   | (with_reducible refine LeO.ite ?_ ?_)
   | (with_reducible refine LeO.bind ?_ (fun _=>?_))
   | exact ih0 _ _
   | exact ih1 _ _ _
   | exact ih2 _ _ _
   | exact nat_limbs.mono _ _
   | exact nat_short.mono _ _ _
   | exact LeO.none _
   | refine LeO.ite ?_ ?_
   | refine LeO.bind ?_ (fun _=>?_)
theorem nat_Format.mono:∀ a0 k,LeO (nat_Format.f k a0) (nat_Format.f (k+1) a0):=by
 intro a0 k
 obtain ⟨ih0,ih1,ih2⟩:=nat_Format.mono_l k
 unfold nat_Format.f
 repeat' first
   | (with_reducible exact ih0 _ _)
   | (with_reducible exact ih1 _ _ _)
   | (with_reducible exact ih2 _ _ _)
   | (with_reducible exact nat_limbs.mono _ _)
   | (with_reducible exact nat_short.mono _ _ _)
   | (with_reducible exact LeO.refl _)
   | (with_reducible exact LeO.none _)
   | (with_reducible refine LeO.ite ?_ ?_)
   | (with_reducible refine LeO.bind ?_ (fun _=>?_))
   | exact ih0 _ _
   | exact ih1 _ _ _
   | exact ih2 _ _ _
   | exact nat_limbs.mono _ _
   | exact nat_short.mono _ _ _
   | exact LeO.none _
   | refine LeO.ite ?_ ?_
   | refine LeO.bind ?_ (fun _=>?_)
set_option maxHeartbeats 8000000 in
set_option maxRecDepth 100000 in
theorem nat_Format.calls (k:Nat) (a0:ByteArray) (r:ByteArray) (w:World) (hG:X.G w) (h:nat_Format.f k a0=some r) :
  Calls Tryz.prog 125 #[.string a0] w fun e w'=>e=.returned (.string r)∧Below w.heap.size w w':=by
 have HG:=Q.a hG
 clear hG
 have HB:=Q.a (Below.refl w.heap.size w)
 have H:((nat_limbs.f k a0).bind fun t265=>(nat_Format.l0 k t265 (⟨#[]⟩:ByteArray)))=some r:=h
 clear h
 replace H:=Option.bind_eq_some_iff.mp H
 obtain ⟨t265,A20,H⟩:=H
 try dsimp only at H
 have A2:=Q.a A20
 clear A20
 have H':=Q.a H
 clear H
 go_enter Tryz.func125,Tryz.ntmps125
 go_wp2_with (first | ((with_reducible refine aAe (f:=164) rfl ?_);refine Q.gl 9 Tryz.func164 #[.string a0] rfl rfl rfl rfl ?_;(with_reducible refine (nat_limbs.calls k a0 t265 _ A2.out).mono ?_);rintro e w3 ⟨v266,rfl,ho0,hb⟩;refine ⟨_,rfl,?_⟩;replace HO267:=Q.a (Kd.R_lower ho0 (aAh (Q.bw HB)));replace HB:=Q.a (aAb (Q.bw HB) hb);(try clear hb);(try clear ho0)))
 go_loopg [3,4] k (fun kq v3 v4 w'=>∃ (x3_1:List Int) (x4_1:ByteArray),v4=.string x4_1∧Aside0 (nat_Format.l0 kq x3_1 x4_1=some r)∧Aside0 (kq≤k)∧Aside0 (Kd.R (Kd.int .u32) 178 w' w.heap.size (fun _=>True) v3 x3_1)∧Aside0 (Below w.heap.size w w'))
 case atStart=>exact ⟨(t265),((⟨#[]⟩:ByteArray)),Q.rs,H',⟨Nat.le_refl _⟩,⟨Q.kr HO267⟩,⟨Q.bw HB⟩⟩
 case round =>
  clear H'
  try clear c1
  try clear p2
  obtain ⟨x3_1,x4_1,rfl,HA,HK1,HO_3,HB⟩:=hrel
  cases gk with
  | zero=>exact absurd HA.out (by simp [nat_Format.l0])
  | succ k1 =>
   have H:=HA.out
   clear HA
   simp only [nat_Format.l0] at H
   replace H:=Option.bind_eq_some_iff.mp H
   obtain ⟨⟨t268,t269⟩,A40,H⟩:=H
   try dsimp only at H
   have A4:=Q.a A40
   clear A40
   have HC5:=Q.a H
   clear H
   obtain ⟨Ao6,co6,eo6⟩:=Kd.R_slice HO_3.out
   subst eo6
   go_upto_block 2 with (first | ((with_reducible refine aAe (f:=165) rfl ?_);refine Q.gl 12 Tryz.func165 #[.slice Ao6 x3_1.length co6,.int .u32 1000000000] rfl rfl rfl rfl ?_;(with_reducible refine (nat_short.calls k1 _ _ x3_1 1000000000 t268 t269 _ ?side1 ?side2 A4.out).mono ?_);(case side1=>repeat (first | exact (Kd.R_reads' HO_3.out).2.2 | (with_reducible refine Kd.C_alloc ?_ _) | (with_reducible refine Kd.C_drewN ?_ _) | (with_reducible refine Kd.C_drew ?_)));(case side2=>exact (Kd.R_reads' HO_3.out).2.1);rintro e w7 ⟨v270,rfl,ho0,hb⟩;refine ⟨_,rfl,?_⟩;replace HO271:=Q.a (Kd.R_lower (Kd.R_new' ho0 (Kd.R_lt (Q.kr HO_3))) (aAh (Q.bw HB)));replace HO_3:=Q.a (Kd.R_elder' (Q.kr HO_3) (Kd.R_base ho0) hb);replace HB:=Q.a (aAb (Q.bw HB) hb);(try clear hb);(try clear ho0)))
   (try simp only [Act.put,List.setIfInBounds_toArray,List.set_cons_zero,List.set_cons_succ])
   go_cut [5] (fun v5 wc=>∃ (kq:Nat) (x5_4:List Int),Aside0 (nat_Format.j2 kq x4_1 x5_4 t269=some r)∧Aside0 (kq≤k1)∧Aside0 (Kd.R (Kd.int .u32) 178 wc w.heap.size (fun _=>True) v5 x5_4)∧Aside0 (Below w.heap.size w wc))
   case first =>
    have H:=HC5.out
    clear HC5
    have H':=Q.a H
    clear H
    go_wp2
    go_loopg [5] k1 (fun kq v5 w'=>∃ (x5_2:List Int),Aside0 (nat_Format.l1 kq x4_1 x5_2 t269=some r)∧Aside0 (kq≤k1)∧Aside0 (Kd.R (Kd.int .u32) 178 w' w.heap.size (fun _=>True) v5 x5_2)∧Aside0 (Below w.heap.size w w'))
    case atStart=>exact ⟨(t268),H',⟨Nat.le_refl _⟩,⟨by (with_reducible repeat (first | apply Kd.R_alloc | apply Kd.R_drewN | apply Kd.R_drew));exact Kd.R_mono HO271.out (fun _ hk=>trivial)⟩,⟨Q.bw HB⟩⟩
    case round =>
     clear H'
     try clear c1
     try clear p2
     try clear p2
     obtain ⟨x5_2,HA,HK2,HO_5,HB⟩:=hrel
     cases gk with
     | zero=>exact absurd HA.out (by simp [nat_Format.l1])
     | succ k2 =>
      have H:=HA.out
      clear HA
      simp only [nat_Format.l1] at H
      by_cases c8:(x5_2.length:Int) > 0
      ·rw [if_pos c8] at H
       have c8b0:decide (0 < (x5_2.length:Int))=true:=decide_eq_true c8
       have c8b1:decide (0 < x5_2.length)=true:=decide_eq_true (by omega)
       clear c8
       (first | rw [c8b0] | (simp only [aAk,aA0];rw [c8b0]) | skip)
       obtain ⟨ji9,hji9⟩:∃ j_:Int,(wrap64 ((x5_2.length:Int) - 1))=j_:=⟨_,rfl⟩
       replace H:(if 0≤(ji9) then (if (ji9) < (x5_2.length:Int) then (if (rd x5_2 (ji9))=0 then (if (ji9)≤(x5_2.length:Int) then (nat_Format.l1 k2 x4_1 (x5_2.take ((ji9):Int).toNat) t269) else (none)) else (nat_Format.j2 k2 x4_1 x5_2 t269)) else (none)) else (none))=some r:=by first | (rw [hji9] at H;exact H) | (simp only [hji9] at H ⊢;exact H)
       have hji9w:(IntKind.i64.wrap ((x5_2.length:Int) - 1))=ji9:=(aAk _).trans hji9
       by_cases c10:0≤(ji9)
       ·rw [if_pos c10] at H
        have c10b0:decide (0≤(ji9))=true:=decide_eq_true c10
        clear c10
        by_cases c11:(ji9) < (x5_2.length:Int)
        ·rw [if_pos c11] at H
         have c11b0:decide ((ji9) < (x5_2.length:Int))=true:=decide_eq_true c11
         clear c11
         by_cases c12:(rd x5_2 (ji9))=0
         ·rw [if_pos c12] at H
          have c12b0:((rd x5_2 (ji9)) == 0)=true:=beq_iff_eq.mpr c12
          have c12b1:((rd x5_2 (ji9)) != 0)=false:=bne_eq_false_iff_eq.mpr c12
          clear c12
          by_cases c13:(ji9)≤(x5_2.length:Int)
          ·rw [if_pos c13] at H
           have c13b0:=eq_true c13
           have c13b1:decide ((ji9)≤(x5_2.length:Int))=true:=decide_eq_true c13
           clear c13
           obtain ⟨y273,hy273⟩:∃ y_:List Int,y_=(x5_2.take ((ji9):Int).toNat):=⟨_,rfl⟩
           replace H:(nat_Format.l1 k2 x4_1 y273 t269)=some r:=by first | (rw [hy273];with_reducible exact H) | (have H2_:=(Option.bind_some _ _).symm.trans H;rw [hy273];with_reducible exact H2_) | (have H2_:=(Option.bind_some _ _).symm.trans H;with_reducible exact H2_) | with_reducible exact H | (rw [hy273];exact H) | exact H
           have Ny273:=Q.a hy273
           clear hy273
           have H':=Q.a H
           clear H
           obtain ⟨Ao14,co14,eo14⟩:=Kd.R_slice HO_5.out
           subst eo14
           have p272:0≤((ji9):Int):=of_decide_eq_true (by first | (with_reducible assumption) | assumption)
           have q272:(ji9) < (x5_2.length:Int):=of_decide_eq_true (by first | (with_reducible assumption) | assumption)
           obtain ⟨ad272,e272,hx272_0⟩:=Kd.at_int (Kd.R_reads' HO_5.out).2.2 (ji9) p272 q272
           cases e272
           replace p272:=eq_true p272
           replace q272:=eq_true q272
           have q15:((ji9):Int)≤((x5_2.length:Int):Int):=of_decide_eq_true (by first | (with_reducible assumption) | assumption)
           obtain ⟨i015,hi015,_,hsz15,_⟩:=info_parts aAQ
           have hcut15:=aFi (P:=Tryz.prog) 176 178 .i64 Tryz.underlying176 hi015 (some ad272) x5_2.length co14 (ji9) Q.od q15 (Kd.R_reads' HO_5.out).2.1
           have hr15:=Kd.R_take (m:=((ji9):Int).toNat) HO_5.out (by omega)
           have hy15:y273.length=((ji9):Int).toNat:=(by rw [Ny273.out,List.length_take];omega)
           rw [← Ny273.out] at hr15
           rw [← hy15] at hr15 hcut15
           clear hy15 hi015 hsz15 HO_5
           have HO275:=Q.a hr15
           clear hr15
           replace q15:=eq_true q15
           go_wp2
           go_roundg k2
           case measure=>have:=HK1.out;have:=HK2.out;omega
           case rel=>exact ⟨(y273),H',⟨by have:=HK1.out;have:=HK2.out;omega⟩,⟨Q.kr HO275⟩,⟨Q.bw HB⟩⟩
          ·rw [if_neg c13] at H
           exact absurd H (by simp)
         ·rw [if_neg c12] at H
          have c12b0:((rd x5_2 (ji9)) == 0)=false:=beq_eq_false_iff_ne.mpr c12
          have c12b1:((rd x5_2 (ji9)) != 0)=true:=bne_iff_ne.mpr c12
          have H':=Q.a H
          clear H
          obtain ⟨Ao16,co16,eo16⟩:=Kd.R_slice HO_5.out
          subst eo16
          have p272:0≤((ji9):Int):=of_decide_eq_true (by first | (with_reducible assumption) | assumption)
          have q272:(ji9) < (x5_2.length:Int):=of_decide_eq_true (by first | (with_reducible assumption) | assumption)
          obtain ⟨ad272,e272,hx272_0⟩:=Kd.at_int (Kd.R_reads' HO_5.out).2.2 (ji9) p272 q272
          cases e272
          replace p272:=eq_true p272
          replace q272:=eq_true q272
          go_wp2
          go_meet
          case rel=>exact ⟨_,(x5_2),H',⟨by have:=HK1.out;have:=HK2.out;first | omega | exact Nat.le_refl _⟩,⟨Q.kr HO_5⟩,⟨Q.bw HB⟩⟩
        ·rw [if_neg c11] at H
         exact absurd H (by simp)
       ·rw [if_neg c10] at H
        exact absurd H (by simp)
      ·rw [if_neg c8] at H
       have c8b0:decide (0 < (x5_2.length:Int))=false:=decide_eq_false c8
       have c8b1:decide (0 < x5_2.length)=false:=decide_eq_false (by omega)
       clear c8
       (first | rw [c8b0] | (simp only [aAk,aA0];rw [c8b0]) | skip)
       have H':=Q.a H
       clear H
       obtain ⟨Ao17,co17,eo17⟩:=Kd.R_slice HO_5.out
       subst eo17
       go_wp2
       go_meet
       case rel=>exact ⟨_,(x5_2),H',⟨by have:=HK1.out;have:=HK2.out;first | omega | exact Nat.le_refl _⟩,⟨Q.kr HO_5⟩,⟨Q.bw HB⟩⟩
   case rest =>
    clear HC5
    try clear c1
    try clear q1
    try clear p2
    try clear q2
    try clear hx2
    try clear p6
    try clear c8
    try clear c8b0
    try clear c8b1
    try clear c10
    try clear c10b0
    try clear c11
    try clear c11b0
    try clear c12
    try clear c12b0
    try clear c12b1
    try clear c13
    try clear c13b0
    try clear c13b1
    try clear q15
    try clear c16
    try clear hx272_0
    try clear p2
    try clear p272
    try clear q15
    try clear q272
    obtain ⟨kq,x5_4,HA,HJ4,HO_5,HB⟩:=hcut
    cases kq with
    | zero=>exact absurd HA.out (by simp [nat_Format.j2])
    | succ kj4 =>
     have H:=HA.out
     clear HA
     simp only [nat_Format.j2] at H
     replace H:=Option.bind_eq_some_iff.mp H
     obtain ⟨t276,A180,H⟩:=H
     try dsimp only at H
     have A18:=Q.a A180
     clear A180
     by_cases c19:(x5_4.length:Int)=0
     ·rw [if_pos c19] at H
      have c19b0:((x5_4.length:Int) == 0)=true:=beq_iff_eq.mpr c19
      have c19b1:((x5_4.length:Int) != 0)=false:=bne_eq_false_iff_eq.mpr c19
      clear c19
      by_cases c20:t276.size+x4_1.size≤9223372036854775807
      ·rw [if_pos c20] at H
       have c20b0:=eq_true c20
       have c20b1:decide (t276.size+x4_1.size≤9223372036854775807)=true:=decide_eq_true c20
       try have c20b2:(9223372036854775807 < t276.size+x4_1.size)=False:=eq_false (Nat.not_lt.2 c20)
       obtain rfl:=Option.some.inj H
       go_wp2_with (first | ((with_reducible refine aAe (f:=166) rfl ?_);refine Q.gl 34 Tryz.func166 #[.int .u64 (IntKind.u64.wrap (t269)),.int .i64 10] rfl rfl rfl rfl ?_;(with_reducible refine (X.strconv_FormatUint.calls (IntKind.u64.wrap (t269)) 10 t276 _ ?side1 A18.out).mono ?_);(case side1=>exact X.G.below HG.out (Q.bw HB));rintro e w21 ⟨rfl,hb⟩;refine ⟨_,rfl,?_⟩;replace HO_5:=Q.a (Kd.R_below (Q.kr HO_5) hb);replace HB:=Q.a (aAb (Q.bw HB) hb);(try clear hb);obtain ⟨Ao22,co22,eo22⟩:=Kd.R_slice HO_5.out;subst eo22))
       go_ret
       exact ⟨Q.en,Q.bw HB⟩
      ·rw [if_neg c20] at H
       exact absurd H (by simp)
     ·rw [if_neg c19] at H
      have c19b0:((x5_4.length:Int) == 0)=false:=beq_eq_false_iff_ne.mpr c19
      have c19b1:((x5_4.length:Int) != 0)=true:=bne_iff_ne.mpr c19
      have c19b2:¬ (x5_4=[]):=fun h_=>c19 (by rw [h_];rfl)
      replace H:=Option.bind_eq_some_iff.mp H
      obtain ⟨t277,A230,H⟩:=H
      try dsimp only at H
      have A23:=Q.a A230
      clear A230
      by_cases c24:t277.size+t276.size≤9223372036854775807
      ·rw [if_pos c24] at H
       have c24b0:=eq_true c24
       have c24b1:decide (t277.size+t276.size≤9223372036854775807)=true:=decide_eq_true c24
       try have c24b2:(9223372036854775807 < t277.size+t276.size)=False:=eq_false (Nat.not_lt.2 c24)
       by_cases c25:(t277++t276).size+x4_1.size≤9223372036854775807
       ·rw [if_pos c25] at H
        have c25b0:=eq_true c25
        have c25b1:decide ((t277++t276).size+x4_1.size≤9223372036854775807)=true:=decide_eq_true c25
        try have c25b2:(9223372036854775807 < (t277++t276).size+x4_1.size)=False:=eq_false (Nat.not_lt.2 c25)
        have H':=Q.a H
        clear H
        have A23:=Q.a ((show wrap64 (9 - (t276.size:Int))=9 - (t276.size:Int) from by unfold wrap64;omega) ▸ A23.out)
        go_wp2_with (first | ((with_reducible refine aAe (f:=166) rfl ?_);refine Q.gl 34 Tryz.func166 #[.int .u64 (IntKind.u64.wrap (t269)),.int .i64 10] rfl rfl rfl rfl ?_;(with_reducible refine (X.strconv_FormatUint.calls (IntKind.u64.wrap (t269)) 10 t276 _ ?side1 A18.out).mono ?_);(case side1=>exact X.G.below HG.out (Q.bw HB));rintro e w26 ⟨rfl,hb⟩;refine ⟨_,rfl,?_⟩;replace HO_5:=Q.a (Kd.R_below (Q.kr HO_5) hb);replace HB:=Q.a (aAb (Q.bw HB) hb);(try clear hb);obtain ⟨Ao27,co27,eo27⟩:=Kd.R_slice HO_5.out;subst eo27) | ((with_reducible refine aAe (f:=101) rfl ?_);refine Q.gl 44 Tryz.func101 #[.string (⟨#[48]⟩:ByteArray),.int .i64 (9 - (t276.size:Int))] rfl rfl rfl rfl ?_;(with_reducible refine (X.strings_Repeat.calls (⟨#[48]⟩:ByteArray) (9 - (t276.size:Int)) t277 _ A23.out).mono ?_);rintro e w28 ⟨rfl,hb⟩;refine ⟨_,rfl,?_⟩;replace HO_5:=Q.a (Kd.R_below (Q.kr HO_5) hb);replace HB:=Q.a (aAb (Q.bw HB) hb);(try clear hb)))
        go_roundg kj4
        case measure=>have:=HK1.out;have:=HJ4.out;omega
        case rel=>exact ⟨(x5_4),((t277++t276)++x4_1),Q.rs,H',⟨by have:=HK1.out;have:=HJ4.out;omega⟩,⟨Q.kr HO_5⟩,⟨Q.bw HB⟩⟩
       ·rw [if_neg c25] at H
        exact absurd H (by simp)
      ·rw [if_neg c24] at H
       exact absurd H (by simp)
end Go.Proofs.YtkkjlpfomofiaaaGreatDoor.P
