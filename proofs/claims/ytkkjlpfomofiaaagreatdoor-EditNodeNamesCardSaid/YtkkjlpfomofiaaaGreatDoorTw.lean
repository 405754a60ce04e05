import Derived.Test.YtkkjlpfomofiaaaGreatDoorXQ
import Derived.Test.YtkkjlpfomofiaaaGreatDoorPx0
import Derived.Test.YtkkjlpfomofiaaaGreatDoorPxNB
namespace Go.Proofs.YtkkjlpfomofiaaaGreatDoor.P
open Go.RowKit Go.Proofs.YtkkjlpfomofiaaaGreatDoorW.PrintWords Go.Proofs.YtkkjlpfomofiaaaGreatDoorW.PrintLast Go.Proofs.YtkkjlpfomofiaaaGreatDoorW.PrintMore
attribute [local go_sem] aBK aBL aCg aCh aB0 aB1 aBM aBN
attribute [local go_sem] XW.cell_twice
set_option linter.unusedVariables false
set_option linter.unusedSimpArgs false
set_option maxHeartbeats 8000000 in
set_option maxRecDepth 100000 in
theorem nat_take.callsW (wh_:Value) (pre_ post_:List Int) (k:Nat) (P0_:Nat→Prop) (u9000_:Value) (l0:List Int) (A1:Option Addr) (c1:Nat) (l1:List Int) (a2:Int) (r1:Bool) (r2:List Int) (w0 w:World) (hB:Below w0.heap.size w0 w) (ho0:XW.Wn .u32 178 wh_ pre_ post_ w w0.heap.size P0_ u9000_ l0) (hr1:∀ W_,Kept w W_ (fun k_=>P0_ k_)→Kd.C (Kd.int .u32) W_ A1 l1.length l1) (hc1:l1.length≤c1) (h:nat_take.f k l0 l1 a2=some (r1,r2)) :
  Calls Tryz.prog 224 #[u9000_,.slice A1 l1.length c1,.int .u32 a2] w fun e w'=>e=.returned (.bool r1)∧XW.Wn .u32 178 wh_ pre_ post_ w' w0.heap.size (fun k_=>(P0_ k_∨w.heap.size≤k_)) u9000_ r2∧Below w0.heap.size w0 w'∧Kept w w' (fun k_=>P0_ k_):=by
 have HO0:=Q.a (show XW.Wn .u32 178 wh_ pre_ post_ w w0.heap.size (fun k_=>(P0_ k_∨w.heap.size≤k_)) u9000_ l0 from XW.Wn_mono ho0 (fun k_ hk=>(.inl hk)))
 have HR1:=Q.a hr1
 have HC1:=Q.a hc1
 clear hr1 hc1
 have HK:=Q.a (Kept.refl w (fun k_=>P0_ k_))
 have HW0:=Q.a hB.size
 have HB:=Q.a hB
 clear hB
 have H:(nat_take.l0 k l0 l1 a2 0 0 l1 (l1.length:Int) 0)=some (r1,r2):=h
 clear h
 have H':=Q.a H
 clear H
 go_enter Tryz.func224,Tryz.ntmps224
 go_wp2
 go_loopg [7,8,17] k (fun kq v7 v8 v17 w'=>∃ (x0_1:List Int) (x7_1:Int) (x8_1:Int) (x17_1:Int),v7=.int .u64 x7_1∧v8=.int .u32 x8_1∧v17=.int .i64 x17_1∧Aside0 (nat_take.l0 kq x0_1 l1 a2 x7_1 x8_1 l1 (l1.length:Int) x17_1=some (r1,r2))∧Aside0 (kq≤k)∧Aside0 (XW.Wn .u32 178 wh_ pre_ post_ w' w0.heap.size (fun k_=>(P0_ k_∨w.heap.size≤k_)) u9000_ x0_1)∧Aside0 (Kept w w' (fun k_=>P0_ k_))∧Aside0 (Below w0.heap.size w0 w'))
 case atStart=>exact ⟨(l0),(0),(0),(0),Q.rs,Q.rs,Q.rs,H',⟨Nat.le_refl _⟩,⟨by (with_reducible repeat (first | apply XW.Wn_alloc | apply XW.Wn_drewN | apply XW.Wn_drew));exact HO0.out⟩,⟨by repeat (first | (with_reducible first | exact HK.out | apply Kept.alloc | apply Kept.drewN | apply Kept.drew) | exact HK.out)⟩,⟨Q.bw HB⟩⟩
 case round =>
  clear H'
  try clear c1
  try clear c2
  try clear p2
  obtain ⟨x0_1,x7_1,x8_1,x17_1,rfl,rfl,rfl,HA,HK1,HO_0,HK,HB⟩:=hrel
  cases gk with
  | zero=>exact absurd HA.out (by simp [nat_take.l0])
  | succ k1 =>
   have H:=HA.out
   clear HA
   simp only [nat_take.l0] at H
   by_cases c4:x17_1 < (l1.length:Int)
   ·rw [if_pos c4] at H
    have c4b0:decide (x17_1 < (l1.length:Int))=true:=decide_eq_true c4
    clear c4
    by_cases c5:0≤x17_1
    ·rw [if_pos c5] at H
     have c5b0:decide (0≤x17_1)=true:=decide_eq_true c5
     clear c5
     by_cases c6:x17_1 < (l1.length:Int)
     ·rw [if_pos c6] at H
      have c6b0:decide (x17_1 < (l1.length:Int))=true:=decide_eq_true c6
      clear c6
      by_cases c7:x17_1 < (x0_1.length:Int)
      ·rw [if_pos c7] at H
       have c7b0:decide (x17_1 < (x0_1.length:Int))=true:=decide_eq_true c7
       clear c7
       replace H:=Option.bind_eq_some_iff.mp H
       obtain ⟨⟨t174,t175⟩,A80,H⟩:=H
       replace H:(nat_take.l0 k1 (x0_1.set (x17_1:Int).toNat t174) l1 a2 ((IntKind.u64.wrap ((IntKind.u64.wrap ((IntKind.u64.wrap (rd l1 x17_1))*(IntKind.u64.wrap (a2))))+x7_1)) / 4294967296) t175 l1 (l1.length:Int) (wrap64 (x17_1+1)))=some (r1,r2):=H
       have A8:=Q.a A80
       clear A80
       obtain ⟨y176,hy176⟩:∃ y_:List Int,y_=(x0_1.set (x17_1:Int).toNat t174):=⟨_,rfl⟩
       replace H:(nat_take.l0 k1 y176 l1 a2 ((IntKind.u64.wrap ((IntKind.u64.wrap ((IntKind.u64.wrap (rd l1 x17_1))*(IntKind.u64.wrap (a2))))+x7_1)) / 4294967296) t175 l1 (l1.length:Int) (wrap64 (x17_1+1)))=some (r1,r2):=by first | (rw [hy176];with_reducible exact H) | (have H2_:=(Option.bind_some _ _).symm.trans H;rw [hy176];with_reducible exact H2_) | (have H2_:=(Option.bind_some _ _).symm.trans H;with_reducible exact H2_) | with_reducible exact H | (rw [hy176];exact H) | exact H
       have Ny176:=Q.a hy176
       clear hy176
       have H':=Q.a H
       clear H
       have p172:0≤(x17_1:Int):=of_decide_eq_true (by first | (with_reducible assumption) | assumption)
       have q172:x17_1 < (l1.length:Int):=of_decide_eq_true (by first | (with_reducible assumption) | assumption)
       obtain ⟨ad172,e172,hx172_0⟩:=Kd.at_int (Kd.C_kept_now HR1.out HK.out) x17_1 p172 q172
       cases e172
       replace p172:=eq_true p172
       replace q172:=eq_true q172
       obtain ⟨Ao10,co10,eo10⟩:=XW.Wn_slice HO_0.out
       subst eo10
       have p173:0≤(x17_1:Int):=of_decide_eq_true (by first | (with_reducible assumption) | assumption)
       have q173:x17_1 < (x0_1.length:Int):=of_decide_eq_true (by first | (with_reducible assumption) | assumption)
       obtain ⟨ad173,e173,hx173_0⟩:=Kd.at_int (XW.Wn_reads' HO_0.out).2.2 x17_1 p173 q173
       cases e173
       replace p173:=eq_true p173
       replace q173:=eq_true q173
       go_wp2_with (first | ((with_reducible refine aAe (f:=239) rfl ?_);refine Q.gl 41 Tryz.func239 #[.int .u32 (rd x0_1 x17_1),.int .u32 ((IntKind.u64.wrap ((IntKind.u64.wrap ((IntKind.u64.wrap (rd l1 x17_1))*(IntKind.u64.wrap (a2))))+x7_1)) % 4294967296),.int .u32 x8_1] rfl rfl rfl rfl ?_;(with_reducible refine (bits_Sub32.calls (rd x0_1 x17_1) ((IntKind.u64.wrap ((IntKind.u64.wrap ((IntKind.u64.wrap (rd l1 x17_1))*(IntKind.u64.wrap (a2))))+x7_1)) % 4294967296) x8_1 t174 t175 _ A8.out).mono ?_);rintro e w' ⟨rfl,⟨nd,rfl⟩⟩;refine ⟨_,rfl,?_⟩;(try (rw [aAy wr];generalize hq_:World.drewN wr _=wr;have n0_:Aside0 (XW.Wn .u32 178 wh_ pre_ post_ wr w0.heap.size (fun k_=>(P0_ k_∨w.heap.size≤k_)) (.slice (some ad173) x0_1.length co10) x0_1):=⟨by rw [← hq_];exact (by (with_reducible repeat (first | apply XW.Wn_alloc | apply XW.Wn_drewN | apply XW.Wn_drew));exact HO_0.out)⟩;have n1_:Aside0 (Kept w wr (fun k_=>P0_ k_)):=⟨by rw [← hq_];exact (by repeat (first | (with_reducible first | exact HK.out | apply Kept.alloc | apply Kept.drewN | apply Kept.drew) | exact HK.out))⟩;have n2_:Aside0 (Below w0.heap.size w0 wr):=⟨by rw [← hq_];exact (Q.bw HB)⟩;clear HO_0 HK HB hq_;have HO_0:=n0_;have HK:=n1_;have HB:=n2_;clear n0_ n1_ n2_));have p9:0≤(x17_1:Int):=of_decide_eq_true (by first | (with_reducible assumption) | assumption);have q9:(x17_1:Int) < ((x0_1.length:Int):Int):=of_decide_eq_true (by first | (with_reducible assumption) | assumption);obtain ⟨go9,co9,eo9,gb9,gl9,cl9,HG9⟩:=XW.Wn_form HO_0.out (by omega);(first | cases eo9 | (injection eo9 with ea_ en_ ec_;(first | subst ea_ | (injection ea_ with ea_;subst ea_));subst ec_;clear en_));have GB9:=Q.a gb9;have GG9:=Q.a HG9;clear gb9 gl9 HG9;have HMgo9:=Q.a (show (P0_ go9∨w.heap.size≤go9) from (HO_0.out.1 _ rfl));(first | simp only [aCR] at hx173_0 | skip);obtain ⟨hx9_0,hf9_0⟩:=XW.Wn_celln 0 HO_0.out (x17_1:Int) p9 q9;replace p9:=eq_true p9;replace q9:=eq_true q9;obtain ⟨hy11_,hz11_⟩:=XW.Wn_celln 0 HO_0.out (x17_1:Int) Q.od Q.od;have HP11:=XW.Wn_putg HO_0.out (x17_1:Int) t174 Q.od Q.od) | ((with_reducible refine aAp (t:=178) (p:=44) rfl ?_);refine aAm (t:=178) (p:=44) (v:=?vo_w12) (w1:=(wr.setCell ⟨go9,pre_.length+(x17_1:Int).toNat,none⟩ (.int .u32 t174))) ?hg ?ho ?hn ?hr ?_;(case ho=>rfl);(case hg=>rfl);(case hn=>rfl);(case hr=>first | (go_simp;done) | (go_simp;rfl));intro w12 hw;have hg:wr.grownBy w12 (some go9):=(by rw [hw];exact HP11.2);have hp_:XW.Wn .u32 178 wh_ pre_ post_ w12 w0.heap.size (fun k_=>(P0_ k_∨w.heap.size≤k_)) (.slice (some ⟨go9,pre_.length,none⟩) x0_1.length co10) y176:=(by rw [hw,Ny176.out];exact HP11.1);clear HP11;replace HB:=Q.a ((by rw [hw];exact aAq (HB.out) GB9.out:Below w0.heap.size w0 w12));replace HK:=Q.a (Kept.of_grown (S:=(fun k_=>P0_ k_)) hg (by repeat (first | (with_reducible first | exact HK.out | apply Kept.alloc | apply Kept.drewN | apply Kept.drew) | exact HK.out)) (fun k_ e_=>(HO_0.out.1 k_ e_)));replace HO_0:=Q.a (hp_);clear hg hw hp_))
       go_roundg k1
       case measure=>have:=HK1.out;omega
       case rel=>exact ⟨(y176),((IntKind.u64.wrap ((IntKind.u64.wrap ((IntKind.u64.wrap (rd l1 x17_1))*(IntKind.u64.wrap (a2))))+x7_1)) / 4294967296),(t175),(wrap64 (x17_1+1)),Q.rs,Q.rs,Q.rs,H',⟨by have:=HK1.out;omega⟩,⟨by (with_reducible repeat (first | apply XW.Wn_alloc | apply XW.Wn_drewN | apply XW.Wn_drew));exact HO_0.out⟩,⟨by repeat (first | (with_reducible first | exact HK.out | apply Kept.alloc | apply Kept.drewN | apply Kept.drew) | exact HK.out)⟩,⟨Q.bw HB⟩⟩
      ·rw [if_neg c7] at H
       exact absurd H (by simp)
     ·rw [if_neg c6] at H
      exact absurd H (by simp)
    ·rw [if_neg c5] at H
     exact absurd H (by simp)
   ·rw [if_neg c4] at H
    have c4b0:decide (x17_1 < (l1.length:Int))=false:=decide_eq_false c4
    clear c4
    by_cases c13:0≤(l1.length:Int)
    ·rw [if_pos c13] at H
     have c13b0:decide (0≤(l1.length:Int))=true:=decide_eq_true c13
     have c13b1:decide (0≤l1.length)=true:=decide_eq_true (by omega)
     clear c13
     by_cases c14:(l1.length:Int) < (x0_1.length:Int)
     ·rw [if_pos c14] at H
      have c14b0:decide ((l1.length:Int) < (x0_1.length:Int))=true:=decide_eq_true c14
      have c14b1:decide (l1.length < x0_1.length)=true:=decide_eq_true (Int.ofNat_lt.mp c14)
      clear c14
      replace H:=Option.bind_eq_some_iff.mp H
      obtain ⟨⟨t178,t179⟩,A150,H⟩:=H
      replace H:((some (x0_1.set ((l1.length:Int):Int).toNat t178:List Int)).bind fun y180=>(if t179=0 then (some (false,y180)) else (nat_take.l1 k1 y180 l1 0 l1 (l1.length:Int) 0)))=some (r1,r2):=H
      have A15:=Q.a A150
      clear A150
      obtain ⟨y180,hy180⟩:∃ y_:List Int,y_=(x0_1.set ((l1.length:Int):Int).toNat t178):=⟨_,rfl⟩
      replace H:(if t179=0 then (some (false,y180)) else (nat_take.l1 k1 y180 l1 0 l1 (l1.length:Int) 0))=some (r1,r2):=by first | (rw [hy180];with_reducible exact H) | (have H2_:=(Option.bind_some _ _).symm.trans H;rw [hy180];with_reducible exact H2_) | (have H2_:=(Option.bind_some _ _).symm.trans H;with_reducible exact H2_) | with_reducible exact H | (rw [hy180];exact H) | exact H
      have Ny180:=Q.a hy180
      clear hy180
      by_cases c17:t179=0
      ·rw [if_pos c17] at H
       have c17b0:(t179 == 0)=true:=beq_iff_eq.mpr c17
       have c17b1:(t179 != 0)=false:=bne_eq_false_iff_eq.mpr c17
       clear c17
       simp only [Option.some.injEq,Prod.mk.injEq] at H
       obtain ⟨rfl,rfl⟩:=H
       obtain ⟨Ao18,co18,eo18⟩:=XW.Wn_slice HO_0.out
       subst eo18
       have p177:0≤((l1.length:Int):Int):=of_decide_eq_true (by first | (with_reducible assumption) | assumption)
       have q177:(l1.length:Int) < (x0_1.length:Int):=of_decide_eq_true (by first | (with_reducible assumption) | assumption)
       obtain ⟨ad177,e177,hx177_0⟩:=Kd.at_int (XW.Wn_reads' HO_0.out).2.2 (l1.length:Int) p177 q177
       cases e177
       (try simp only [Go.IntWalk.toNatUp] at hx177_0)
       replace p177:=eq_true p177
       replace q177:=eq_true q177
       go_wp2_with (first | ((with_reducible refine aAe (f:=239) rfl ?_);refine Q.gl 58 Tryz.func239 #[.int .u32 (rd x0_1 (l1.length:Int)),.int .u32 ((x7_1) % 4294967296),.int .u32 x8_1] rfl rfl rfl rfl ?_;(with_reducible refine (bits_Sub32.calls (rd x0_1 (l1.length:Int)) ((x7_1) % 4294967296) x8_1 t178 t179 _ A15.out).mono ?_);rintro e w' ⟨rfl,⟨nd,rfl⟩⟩;refine ⟨_,rfl,?_⟩;(try (rw [aAy wr];generalize hq_:World.drewN wr _=wr;have n0_:Aside0 (XW.Wn .u32 178 wh_ pre_ post_ wr w0.heap.size (fun k_=>(P0_ k_∨w.heap.size≤k_)) (.slice (some ad177) x0_1.length co18) x0_1):=⟨by rw [← hq_];exact (by (with_reducible repeat (first | apply XW.Wn_alloc | apply XW.Wn_drewN | apply XW.Wn_drew));exact HO_0.out)⟩;have n1_:Aside0 (Kept w wr (fun k_=>P0_ k_)):=⟨by rw [← hq_];exact (by repeat (first | (with_reducible first | exact HK.out | apply Kept.alloc | apply Kept.drewN | apply Kept.drew) | exact HK.out))⟩;have n2_:Aside0 (Below w0.heap.size w0 wr):=⟨by rw [← hq_];exact (Q.bw HB)⟩;clear HO_0 HK HB hq_;have HO_0:=n0_;have HK:=n1_;have HB:=n2_;clear n0_ n1_ n2_));have p16:0≤((l1.length:Int):Int):=of_decide_eq_true (by first | (with_reducible assumption) | assumption);have q16:((l1.length:Int):Int) < ((x0_1.length:Int):Int):=of_decide_eq_true (by first | (with_reducible assumption) | assumption);obtain ⟨go16,co16,eo16,gb16,gl16,cl16,HG16⟩:=XW.Wn_form HO_0.out (by omega);(first | cases eo16 | (injection eo16 with ea_ en_ ec_;(first | subst ea_ | (injection ea_ with ea_;subst ea_));subst ec_;clear en_));have GB16:=Q.a gb16;have GG16:=Q.a HG16;clear gb16 gl16 HG16;have HMgo16:=Q.a (show (P0_ go16∨w.heap.size≤go16) from (HO_0.out.1 _ rfl));(first | simp only [aCR] at hx177_0 | skip);obtain ⟨hx16_0,hf16_0⟩:=XW.Wn_celln 0 HO_0.out ((l1.length:Int):Int) p16 q16;(try simp only [Int.toNat_natCast] at hx16_0 hf16_0);replace p16:=eq_true p16;replace q16:=eq_true q16;obtain ⟨hy19_,hz19_⟩:=XW.Wn_celln 0 HO_0.out ((l1.length:Int):Int) Q.od Q.od;(try simp only [Go.IntWalk.toNatUp] at hy19_ hz19_);have HP19:=XW.Wn_putg HO_0.out ((l1.length:Int):Int) t178 Q.od Q.od) | ((with_reducible refine aAp (t:=178) (p:=61) rfl ?_);refine aAm (t:=178) (p:=61) (v:=?vo_w20) (w1:=(wr.setCell ⟨go16,pre_.length+((l1.length:Int):Int).toNat,none⟩ (.int .u32 t178))) ?hg ?ho ?hn ?hr ?_;(case ho=>rfl);(case hg=>rfl);(case hn=>rfl);(case hr=>first | (go_simp;done) | (go_simp;rfl));intro w20 hw;have hg:wr.grownBy w20 (some go16):=(by rw [hw];exact HP19.2);have hp_:XW.Wn .u32 178 wh_ pre_ post_ w20 w0.heap.size (fun k_=>(P0_ k_∨w.heap.size≤k_)) (.slice (some ⟨go16,pre_.length,none⟩) x0_1.length co18) y180:=(by rw [hw,Ny180.out];exact HP19.1);clear HP19;replace HB:=Q.a ((by rw [hw];exact aAq (HB.out) GB16.out:Below w0.heap.size w0 w20));replace HK:=Q.a (Kept.of_grown (S:=(fun k_=>P0_ k_)) hg (by repeat (first | (with_reducible first | exact HK.out | apply Kept.alloc | apply Kept.drewN | apply Kept.drew) | exact HK.out)) (fun k_ e_=>(HO_0.out.1 k_ e_)));replace HO_0:=Q.a (hp_);clear hg hw hp_))
       go_ret
       exact ⟨Q.en,by (with_reducible repeat (first | apply XW.Wn_alloc | apply XW.Wn_drewN | apply XW.Wn_drew));exact HO_0.out,Q.bw HB,by repeat (first | (with_reducible first | exact HK.out | apply Kept.alloc | apply Kept.drewN | apply Kept.drew) | exact HK.out)⟩
      ·rw [if_neg c17] at H
       have c17b0:(t179 == 0)=false:=beq_eq_false_iff_ne.mpr c17
       have c17b1:(t179 != 0)=true:=bne_iff_ne.mpr c17
       have H':=Q.a H
       clear H
       obtain ⟨Ao21,co21,eo21⟩:=XW.Wn_slice HO_0.out
       subst eo21
       have p177:0≤((l1.length:Int):Int):=of_decide_eq_true (by first | (with_reducible assumption) | assumption)
       have q177:(l1.length:Int) < (x0_1.length:Int):=of_decide_eq_true (by first | (with_reducible assumption) | assumption)
       obtain ⟨ad177,e177,hx177_0⟩:=Kd.at_int (XW.Wn_reads' HO_0.out).2.2 (l1.length:Int) p177 q177
       cases e177
       (try simp only [Go.IntWalk.toNatUp] at hx177_0)
       replace p177:=eq_true p177
       replace q177:=eq_true q177
       go_wp2_with (first | ((with_reducible refine aAe (f:=239) rfl ?_);refine Q.gl 58 Tryz.func239 #[.int .u32 (rd x0_1 (l1.length:Int)),.int .u32 ((x7_1) % 4294967296),.int .u32 x8_1] rfl rfl rfl rfl ?_;(with_reducible refine (bits_Sub32.calls (rd x0_1 (l1.length:Int)) ((x7_1) % 4294967296) x8_1 t178 t179 _ A15.out).mono ?_);rintro e w' ⟨rfl,⟨nd,rfl⟩⟩;refine ⟨_,rfl,?_⟩;(try (rw [aAy wr];generalize hq_:World.drewN wr _=wr;have n0_:Aside0 (XW.Wn .u32 178 wh_ pre_ post_ wr w0.heap.size (fun k_=>(P0_ k_∨w.heap.size≤k_)) (.slice (some ad177) x0_1.length co21) x0_1):=⟨by rw [← hq_];exact (by (with_reducible repeat (first | apply XW.Wn_alloc | apply XW.Wn_drewN | apply XW.Wn_drew));exact HO_0.out)⟩;have n1_:Aside0 (Kept w wr (fun k_=>P0_ k_)):=⟨by rw [← hq_];exact (by repeat (first | (with_reducible first | exact HK.out | apply Kept.alloc | apply Kept.drewN | apply Kept.drew) | exact HK.out))⟩;have n2_:Aside0 (Below w0.heap.size w0 wr):=⟨by rw [← hq_];exact (Q.bw HB)⟩;clear HO_0 HK HB hq_;have HO_0:=n0_;have HK:=n1_;have HB:=n2_;clear n0_ n1_ n2_));have p16:0≤((l1.length:Int):Int):=of_decide_eq_true (by first | (with_reducible assumption) | assumption);have q16:((l1.length:Int):Int) < ((x0_1.length:Int):Int):=of_decide_eq_true (by first | (with_reducible assumption) | assumption);obtain ⟨go16,co16,eo16,gb16,gl16,cl16,HG16⟩:=XW.Wn_form HO_0.out (by omega);(first | cases eo16 | (injection eo16 with ea_ en_ ec_;(first | subst ea_ | (injection ea_ with ea_;subst ea_));subst ec_;clear en_));have GB16:=Q.a gb16;have GG16:=Q.a HG16;clear gb16 gl16 HG16;have HMgo16:=Q.a (show (P0_ go16∨w.heap.size≤go16) from (HO_0.out.1 _ rfl));(first | simp only [aCR] at hx177_0 | skip);obtain ⟨hx16_0,hf16_0⟩:=XW.Wn_celln 0 HO_0.out ((l1.length:Int):Int) p16 q16;(try simp only [Int.toNat_natCast] at hx16_0 hf16_0);replace p16:=eq_true p16;replace q16:=eq_true q16;obtain ⟨hy22_,hz22_⟩:=XW.Wn_celln 0 HO_0.out ((l1.length:Int):Int) Q.od Q.od;(try simp only [Go.IntWalk.toNatUp] at hy22_ hz22_);have HP22:=XW.Wn_putg HO_0.out ((l1.length:Int):Int) t178 Q.od Q.od) | ((with_reducible refine aAp (t:=178) (p:=61) rfl ?_);refine aAm (t:=178) (p:=61) (v:=?vo_w23) (w1:=(wr.setCell ⟨go16,pre_.length+((l1.length:Int):Int).toNat,none⟩ (.int .u32 t178))) ?hg ?ho ?hn ?hr ?_;(case ho=>rfl);(case hg=>rfl);(case hn=>rfl);(case hr=>first | (go_simp;done) | (go_simp;rfl));intro w23 hw;have hg:wr.grownBy w23 (some go16):=(by rw [hw];exact HP22.2);have hp_:XW.Wn .u32 178 wh_ pre_ post_ w23 w0.heap.size (fun k_=>(P0_ k_∨w.heap.size≤k_)) (.slice (some ⟨go16,pre_.length,none⟩) x0_1.length co21) y180:=(by rw [hw,Ny180.out];exact HP22.1);clear HP22;replace HB:=Q.a ((by rw [hw];exact aAq (HB.out) GB16.out:Below w0.heap.size w0 w23));replace HK:=Q.a (Kept.of_grown (S:=(fun k_=>P0_ k_)) hg (by repeat (first | (with_reducible first | exact HK.out | apply Kept.alloc | apply Kept.drewN | apply Kept.drew) | exact HK.out)) (fun k_ e_=>(HO_0.out.1 k_ e_)));replace HO_0:=Q.a (hp_);clear hg hw hp_))
       go_loopg [12,66] k1 (fun kq v12 v66 w'=>∃ (x0_2:List Int) (x12_2:Int) (x66_2:Int),v12=.int .u32 x12_2∧v66=.int .i64 x66_2∧Aside0 (nat_take.l1 kq x0_2 l1 x12_2 l1 (l1.length:Int) x66_2=some (r1,r2))∧Aside0 (kq≤k1)∧Aside0 (XW.Wn .u32 178 wh_ pre_ post_ w' w0.heap.size (fun k_=>(P0_ k_∨w.heap.size≤k_)) (.slice (some ⟨go16,pre_.length,none⟩) x0_1.length co21) x0_2)∧Aside0 (Kept w w' (fun k_=>P0_ k_))∧Aside0 (Below w0.heap.size w0 w'))
       case atStart=>exact ⟨(y180),(0),(0),Q.rs,Q.rs,H',⟨Nat.le_refl _⟩,⟨by (with_reducible repeat (first | apply XW.Wn_alloc | apply XW.Wn_drewN | apply XW.Wn_drew));exact HO_0.out⟩,⟨by repeat (first | (with_reducible first | exact HK.out | apply Kept.alloc | apply Kept.drewN | apply Kept.drew) | exact HK.out)⟩,⟨Q.bw HB⟩⟩
       case round =>
        clear H'
        try clear c1
        try clear p1
        try clear q1
        try clear hx1
        try clear c2
        try clear p2
        try clear c4
        try clear c4b0
        try clear c5
        try clear c5b0
        try clear c6
        try clear c6b0
        try clear p6
        try clear c7
        try clear c7b0
        try clear p9
        try clear q9
        try clear hx9
        try clear hf9
        try clear c13
        try clear c13b0
        try clear c13b1
        try clear c14
        try clear c14b0
        try clear c14b1
        try clear p16
        try clear q16
        try clear hx16
        try clear hf16
        try clear c17
        try clear c17b0
        try clear c17b1
        try clear p17
        try clear q17
        try clear hx17
        try clear c22
        try clear c23
        try clear hx16_0
        try clear hx172_0
        try clear hx173_0
        try clear hx177_0
        try clear hx9_0
        try clear p16
        try clear p172
        try clear p173
        try clear p177
        try clear p2
        try clear p9
        try clear q16
        try clear q172
        try clear q173
        try clear q177
        try clear q9
        obtain ⟨x0_2,x12_2,x66_2,rfl,rfl,HA,HK2,HO_0,HK,HB⟩:=hrel
        have hl0_2:=(XW.Wn_reads' HO_0.out).1
        rw [hl0_2] at HO_0
        (try simp only [hl0_2])
        cases gk with
        | zero=>exact absurd HA.out (by simp [nat_take.l1])
        | succ k2 =>
         have H:=HA.out
         clear HA
         simp only [nat_take.l1] at H
         by_cases c24:x66_2 < (l1.length:Int)
         ·rw [if_pos c24] at H
          have c24b0:decide (x66_2 < (l1.length:Int))=true:=decide_eq_true c24
          (try (have c24b0l:=c24b0;simp only [hl0_2] at c24b0l))
          clear c24
          by_cases c25:0≤x66_2
          ·rw [if_pos c25] at H
           have c25b0:decide (0≤x66_2)=true:=decide_eq_true c25
           clear c25
           by_cases c26:x66_2 < (l1.length:Int)
           ·rw [if_pos c26] at H
            have c26b0:decide (x66_2 < (l1.length:Int))=true:=decide_eq_true c26
            (try (have c26b0l:=c26b0;simp only [hl0_2] at c26b0l))
            clear c26
            by_cases c27:x66_2 < (x0_2.length:Int)
            ·rw [if_pos c27] at H
             have c27b0:decide (x66_2 < (x0_2.length:Int))=true:=decide_eq_true c27
             (try (have c27b0l:=c27b0;simp only [hl0_2] at c27b0l))
             clear c27
             replace H:=Option.bind_eq_some_iff.mp H
             obtain ⟨⟨t183,t184⟩,A280,H⟩:=H
             replace H:(nat_take.l1 k2 (x0_2.set (x66_2:Int).toNat t183) l1 t184 l1 (l1.length:Int) (wrap64 (x66_2+1)))=some (r1,r2):=H
             have A28:=Q.a A280
             clear A280
             obtain ⟨y185,hy185⟩:∃ y_:List Int,y_=(x0_2.set (x66_2:Int).toNat t183):=⟨_,rfl⟩
             replace H:(nat_take.l1 k2 y185 l1 t184 l1 (l1.length:Int) (wrap64 (x66_2+1)))=some (r1,r2):=by first | (rw [hy185];with_reducible exact H) | (have H2_:=(Option.bind_some _ _).symm.trans H;rw [hy185];with_reducible exact H2_) | (have H2_:=(Option.bind_some _ _).symm.trans H;with_reducible exact H2_) | with_reducible exact H | (rw [hy185];exact H) | exact H
             have Ny185:=Q.a hy185
             clear hy185
             have H':=Q.a H
             clear H
             have p181:0≤(x66_2:Int):=of_decide_eq_true (by first | (with_reducible assumption) | assumption)
             have q181:x66_2 < (l1.length:Int):=of_decide_eq_true (by first | (with_reducible assumption) | assumption)
             obtain ⟨ad181,e181,hx181_0⟩:=Kd.at_int (Kd.C_kept_now HR1.out HK.out) x66_2 p181 q181
             cases e181
             replace p181:=eq_true p181
             replace q181:=eq_true q181
             have p182:0≤(x66_2:Int):=of_decide_eq_true (by first | (with_reducible assumption) | assumption)
             have q182:x66_2 < (x0_2.length:Int):=of_decide_eq_true (by first | (with_reducible assumption) | assumption)
             obtain ⟨ad182,e182,hx182_0⟩:=Kd.at_int (XW.Wn_reads' HO_0.out).2.2 x66_2 p182 q182
             obtain rfl:(⟨go16,pre_.length,none⟩:Addr)=ad182:=(by injection e182)
             (first | simp only [aCR] at hx182_0 | simp only [aCR] at hx182_0 | simp only [Addr.add,Nat.zero_add] at hx182_0 | skip)
             replace p182:=eq_true p182
             replace q182:=eq_true q182
             go_wp2_with (first | ((with_reducible refine aAe (f:=221) rfl ?_);refine Q.gl 80 Tryz.func221 #[.int .u32 (rd x0_2 x66_2),.int .u32 (rd l1 x66_2),.int .u32 x12_2] rfl rfl rfl rfl ?_;(with_reducible refine (bits_Add32.calls (rd x0_2 x66_2) (rd l1 x66_2) x12_2 t183 t184 _ A28.out).mono ?_);rintro e w' ⟨rfl,⟨nd,rfl⟩⟩;refine ⟨_,rfl,?_⟩;(try (rw [aAy wr];generalize hq_:World.drewN wr _=wr;have n0_:Aside0 (XW.Wn .u32 178 wh_ pre_ post_ wr w0.heap.size (fun k_=>(P0_ k_∨w.heap.size≤k_)) (.slice (some ⟨go16,pre_.length,none⟩) x0_2.length co21) x0_2):=⟨by rw [← hq_];exact (by (with_reducible repeat (first | apply XW.Wn_alloc | apply XW.Wn_drewN | apply XW.Wn_drew));exact HO_0.out)⟩;have n1_:Aside0 (Kept w wr (fun k_=>P0_ k_)):=⟨by rw [← hq_];exact (by repeat (first | (with_reducible first | exact HK.out | apply Kept.alloc | apply Kept.drewN | apply Kept.drew) | exact HK.out))⟩;have n2_:Aside0 (Below w0.heap.size w0 wr):=⟨by rw [← hq_];exact (Q.bw HB)⟩;clear HO_0 HK HB hq_;have HO_0:=n0_;have HK:=n1_;have HB:=n2_;clear n0_ n1_ n2_));have p29:0≤(x66_2:Int):=of_decide_eq_true (by first | (with_reducible assumption) | assumption);have q29:(x66_2:Int) < ((x0_2.length:Int):Int):=of_decide_eq_true (by first | (with_reducible assumption) | assumption);obtain ⟨hx29_0,hf29_0⟩:=XW.Wn_celln 0 HO_0.out (x66_2:Int) p29 q29;replace p29:=eq_true p29;replace q29:=eq_true q29;obtain ⟨hy30_,hz30_⟩:=XW.Wn_celln 0 HO_0.out (x66_2:Int) Q.od Q.od;have HP30:=XW.Wn_putg HO_0.out (x66_2:Int) t183 Q.od Q.od) | ((with_reducible refine aAp (t:=178) (p:=83) rfl ?_);refine aAm (t:=178) (p:=83) (v:=?vo_w31) (w1:=(wr.setCell ⟨go16,pre_.length+(x66_2:Int).toNat,none⟩ (.int .u32 t183))) ?hg ?ho ?hn ?hr ?_;(case ho=>rfl);(case hg=>rfl);(case hn=>rfl);(case hr=>first | (go_simp;done) | (go_simp;rfl));intro w31 hw;have hg:wr.grownBy w31 (some go16):=(by rw [hw];exact HP30.2);have hp_:XW.Wn .u32 178 wh_ pre_ post_ w31 w0.heap.size (fun k_=>(P0_ k_∨w.heap.size≤k_)) (.slice (some ⟨go16,pre_.length,none⟩) x0_2.length co21) y185:=(by rw [hw,Ny185.out];exact HP30.1);clear HP30;replace HB:=Q.a ((by rw [hw];exact aAq (HB.out) GB16.out:Below w0.heap.size w0 w31));replace HK:=Q.a (Kept.of_grown (S:=(fun k_=>P0_ k_)) hg (by repeat (first | (with_reducible first | exact HK.out | apply Kept.alloc | apply Kept.drewN | apply Kept.drew) | exact HK.out)) (fun k_ e_=>(HO_0.out.1 k_ e_)));replace HO_0:=Q.a (hp_);clear hg hw hp_))
             (try simp only [← hl0_2])
             go_roundg k2
             case measure=>have:=HK1.out;have:=HK2.out;omega
             case rel=>exact ⟨(y185),(t184),(wrap64 (x66_2+1)),Q.rs,Q.rs,H',⟨by have:=HK1.out;have:=HK2.out;omega⟩,⟨by (try simp only [hl0_2]);(with_reducible repeat (first | apply XW.Wn_alloc | apply XW.Wn_drewN | apply XW.Wn_drew));exact HO_0.out⟩,⟨by repeat (first | (with_reducible first | exact HK.out | apply Kept.alloc | apply Kept.drewN | apply Kept.drew) | exact HK.out)⟩,⟨Q.bw HB⟩⟩
            ·rw [if_neg c27] at H
             exact absurd H (by simp)
           ·rw [if_neg c26] at H
            exact absurd H (by simp)
          ·rw [if_neg c25] at H
           exact absurd H (by simp)
         ·rw [if_neg c24] at H
          have c24b0:decide (x66_2 < (l1.length:Int))=false:=decide_eq_false c24
          (try (have c24b0l:=c24b0;simp only [hl0_2] at c24b0l))
          clear c24
          by_cases c32:0≤(l1.length:Int)
          ·rw [if_pos c32] at H
           have c32b0:decide (0≤(l1.length:Int))=true:=decide_eq_true c32
           (try (have c32b0l:=c32b0;simp only [hl0_2] at c32b0l))
           have c32b1:decide (0≤l1.length)=true:=decide_eq_true (by omega)
           (try (have c32b1l:=c32b1;simp only [hl0_2] at c32b1l))
           clear c32
           by_cases c33:(l1.length:Int) < (x0_2.length:Int)
           ·rw [if_pos c33] at H
            have c33b0:decide ((l1.length:Int) < (x0_2.length:Int))=true:=decide_eq_true c33
            (try (have c33b0l:=c33b0;simp only [hl0_2] at c33b0l))
            have c33b1:decide (l1.length < x0_2.length)=true:=decide_eq_true (Int.ofNat_lt.mp c33)
            (try (have c33b1l:=c33b1;simp only [hl0_2] at c33b1l))
            clear c33
            obtain ⟨y187,hy187⟩:∃ y_:List Int,y_=(x0_2.set ((l1.length:Int):Int).toNat (((rd x0_2 (l1.length:Int))+x12_2) % 4294967296)):=⟨_,rfl⟩
            replace H:(some (true,y187))=some (r1,r2):=by first | (rw [hy187];with_reducible exact H) | (have H2_:=(Option.bind_some _ _).symm.trans H;rw [hy187];with_reducible exact H2_) | (have H2_:=(Option.bind_some _ _).symm.trans H;with_reducible exact H2_) | with_reducible exact H | (rw [hy187];exact H) | exact H
            have Ny187:=Q.a hy187
            clear hy187
            simp only [Option.some.injEq,Prod.mk.injEq] at H
            obtain ⟨rfl,rfl⟩:=H
            have p186:0≤((l1.length:Int):Int):=of_decide_eq_true (by first | (with_reducible assumption) | assumption)
            have q186:(l1.length:Int) < (x0_2.length:Int):=of_decide_eq_true (by first | (with_reducible assumption) | assumption)
            obtain ⟨ad186,e186,hx186_0⟩:=Kd.at_int (XW.Wn_reads' HO_0.out).2.2 (l1.length:Int) p186 q186
            obtain rfl:(⟨go16,pre_.length,none⟩:Addr)=ad186:=(by injection e186)
            (first | simp only [aCR] at hx186_0 | simp only [aCR] at hx186_0 | simp only [Addr.add,Nat.zero_add] at hx186_0 | skip)
            (try simp only [Go.IntWalk.toNatUp] at hx186_0)
            (try simp only [hl0_2] at p186)
            (try simp only [hl0_2] at q186)
            (try simp only [hl0_2] at hx186_0)
            replace p186:=eq_true p186
            replace q186:=eq_true q186
            have p34:0≤((l1.length:Int):Int):=of_decide_eq_true (by first | (with_reducible assumption) | assumption)
            have q34:((l1.length:Int):Int) < ((x0_2.length:Int):Int):=of_decide_eq_true (by first | (with_reducible assumption) | assumption)
            obtain ⟨hx34_0,hf34_0⟩:=XW.Wn_celln 0 HO_0.out ((l1.length:Int):Int) p34 q34;(try simp only [Int.toNat_natCast] at hx34_0 hf34_0)
            replace p34:=eq_true p34
            replace q34:=eq_true q34
            have HP35:=XW.Wn_putg HO_0.out ((l1.length:Int):Int) (((rd x0_2 (l1.length:Int))+x12_2) % 4294967296) Q.od Q.od
            go_wp2_with (first | ((with_reducible refine aAp (t:=178) (p:=92) rfl ?_);refine aAm (t:=178) (p:=92) (v:=?vo_w36) (w1:=(wr.setCell ⟨go16,pre_.length+((l1.length:Int):Int).toNat,none⟩ (.int .u32 (((rd x0_2 (l1.length:Int))+x12_2) % 4294967296)))) ?hg ?ho ?hn ?hr ?_;(case ho=>rfl);(case hg=>rfl);(case hn=>rfl);(case hr=>first | (go_simp;done) | (go_simp;rfl));intro w36 hw;have hg:wr.grownBy w36 (some go16):=(by rw [hw];exact HP35.2);have hp_:XW.Wn .u32 178 wh_ pre_ post_ w36 w0.heap.size (fun k_=>(P0_ k_∨w.heap.size≤k_)) (.slice (some ⟨go16,pre_.length,none⟩) x0_2.length co21) y187:=(by rw [hw,Ny187.out];exact HP35.1);clear HP35;replace HB:=Q.a ((by rw [hw];exact aAq (HB.out) GB16.out:Below w0.heap.size w0 w36));replace HK:=Q.a (Kept.of_grown (S:=(fun k_=>P0_ k_)) hg (by repeat (first | (with_reducible first | exact HK.out | apply Kept.alloc | apply Kept.drewN | apply Kept.drew) | exact HK.out)) (fun k_ e_=>(HO_0.out.1 k_ e_)));replace HO_0:=Q.a (hp_);clear hg hw hp_))
            go_ret
            exact ⟨Q.en,(by first | exact (by (with_reducible repeat (first | apply XW.Wn_alloc | apply XW.Wn_drewN | apply XW.Wn_drew));exact HO_0.out) | (simp only [hl0_2];exact (by (with_reducible repeat (first | apply XW.Wn_alloc | apply XW.Wn_drewN | apply XW.Wn_drew));exact HO_0.out))),Q.bw HB,by repeat (first | (with_reducible first | exact HK.out | apply Kept.alloc | apply Kept.drewN | apply Kept.drew) | exact HK.out)⟩
           ·rw [if_neg c33] at H
            exact absurd H (by simp)
          ·rw [if_neg c32] at H
           exact absurd H (by simp)
     ·rw [if_neg c14] at H
      exact absurd H (by simp)
    ·rw [if_neg c13] at H
     exact absurd H (by simp)
def nat_take_win.f (k:Nat) (l0:List Int) (L H:Int) (l1:List Int) (a2:Int):Option (Bool × List Int):=if 0≤L∧L < H∧H≤l0.length then (nat_take.f k ((l0.take H.toNat).drop L.toNat) l1 a2).bind fun r=>some (r.1,l0.take L.toNat++r.2++l0.drop H.toNat) else none
theorem nat_take_win.mono:∀ a0 a1 a2 a3 a4 k,LeO (nat_take_win.f k a0 a1 a2 a3 a4) (nat_take_win.f (k+1) a0 a1 a2 a3 a4):=by
 intro a0 a1 a2 a3 a4 k
 unfold nat_take_win.f
 exact LeO.ite (LeO.bind (nat_take.mono _ _ _ _) (fun _=>LeO.refl _)) (LeO.none _)
theorem nat_take_win.bounds {k:Nat} {l0:List Int} {L H:Int} {l1:List Int} {a2:Int} {r:Bool × List Int} (h:nat_take_win.f k l0 L H l1 a2=some r):0≤L∧L < H∧H≤l0.length:=by
 unfold nat_take_win.f at h
 split at h
 ·assumption
 ·cases h
theorem nat_take_win.calls (k:Nat) (P0_:Nat→Prop) (u:Value) (l0:List Int) (L H:Int) (A1:Option Addr) (c1:Nat) (l1:List Int) (a2:Int) (r1:Bool) (r2:List Int) (w0 w:World) (hB:Below w0.heap.size w0 w) (ho0:Kd.R (Kd.int .u32) 178 w w0.heap.size P0_ u l0) (hr1:∀ W_,Kept w W_ (fun k_=>P0_ k_)→Kd.C (Kd.int .u32) W_ A1 l1.length l1) (hc1:l1.length≤c1) (h:nat_take_win.f k l0 L H l1 a2=some (r1,r2)) :
  Calls Tryz.prog 224 #[XW.win u L H,.slice A1 l1.length c1,.int .u32 a2] w fun e w'=>e=.returned (.bool r1)∧Kd.R (Kd.int .u32) 178 w' w0.heap.size (fun k_=>(P0_ k_∨w.heap.size≤k_)) u r2∧Below w0.heap.size w0 w'∧Kept w w' (fun k_=>P0_ k_):=by
 obtain ⟨h0,h1,h2⟩:=nat_take_win.bounds h
 unfold nat_take_win.f at h
 rw [if_pos ⟨h0,h1,h2⟩] at h
 obtain ⟨⟨b,x⟩,hx,he⟩:=Option.bind_eq_some_iff.1 h
 simp only [Option.some.injEq,Prod.mk.injEq] at he
 obtain ⟨rfl,rfl⟩:=he
 refine (nat_take.callsW u (l0.take L.toNat) (l0.drop H.toNat) k P0_ (XW.win u L H) ((l0.take H.toNat).drop L.toNat) A1 c1 l1 a2 b x w0 w hB (XW.Wn_of ho0 L H h0 h1 h2) hr1 hc1 hx).mono ?_
 rintro e w' ⟨rfl,hw,hb,hk⟩
 exact ⟨rfl,hw.2.1,hb,hk⟩
end Go.Proofs.YtkkjlpfomofiaaaGreatDoor.P
