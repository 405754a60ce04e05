import Derived.Test.YtkkjlpfomofiaaaGreatDoorXWords
import Derived.Laws.MakeOwn
namespace Go.Proofs.YtkkjlpfomofiaaaGreatDoor.XW
open Go Go.RowKit YtkkjlpfomofiaaaGreatDoorW.PrintWords
theorem cell_twice (w:World) (a:Addr) (u v:Value) (h:(w.cell? a).isSome=true):((w.setCell a u).setCell a v).cell? a=some v:=by
 apply World.cell?_setCell_same'
 rw [World.cell?_setCell_same' w a u h]
 rfl
section
variable {P:Program} {ops:Array Oper} {rest:List Oper} {o:Oper} {a:Act} {W:World} {Q:Exit→Act→World→Prop}
variable {α:Type}
theorem R_makecap (d:Kd α) {w0:World} (base e:Nat) (hgd:o.guard=none) {N:Tmp} (_hd:o.dst=some N) (t:TypeId) (x y:Operand) (ho:o.op=.makeSlice t x y) (m:Int) (hx:a.eval x=.int .i64 0) (hy:a.eval y=.int .i64 m)
  (ht:P.underlying t=some (.slice e)) (z:Value) (bytes:Nat) (hinfo:(P.info? e).map (fun i=>(i.zero,i.size,i.bytes))=some (some z,d.sz,bytes)) (hb0:0 < bytes)
  {ok:Nat→Prop} (hfresh:ok W.heap.size) (h0:0≤m) (hl:m.toNat*bytes≤281474976710656) (HB:Below base w0 W) (hbase:base≤W.heap.size)
  (h:∀ v1 w1,d.R e w1 base ok v1 ([]:List α)→Below base w0 w1→W.grownBy w1 none→(∃ b,v1.ownBlock=some b∧W.heap.size≤b)→wpList P ops Q rest (a.put o.dst v1) w1):wpList P ops Q (o::rest) a W:=by
 obtain ⟨m,rfl⟩:=Int.eq_ofNat_of_zero_le h0
 simp only [Int.toNat_natCast] at hl
 obtain ⟨i0,hi,hzz⟩:=Option.map_eq_some_iff.1 hinfo
 simp only [Prod.mk.injEq] at hzz
 obtain ⟨hz0,hz1,hz2⟩:=hzz
 have hm:m≤281474976710656:=Nat.le_trans (Nat.le_mul_of_pos_right _ hb0) hl
 have hr:=run_make (P:=P) W t e i0 z ht hi hz0 .i64 .i64 0 (m:Int) (Int.le_refl _) (by omega)
  (by
   have h3:((i0.bytes*m:Nat):Int)≤281474976710656:=by rw [hz2,Nat.mul_comm];omega
   rwa [Int.natCast_mul] at h3) (by omega)
 simp only [Int.toNat_zero,Int.toNat_natCast] at hr
 refine Kd.event_run hgd (v:=.slice (some ⟨W.heap.size,0,none⟩) 0 m) (w1:=W.alloc (.cells (madeCells z.cells (m*i0.size)) e)) (by simp [execOp,ho,hx,hy,hr]) (h _ _ ⟨fun k hk=>?_,[],?_,Reps.none _ _⟩ (HB.alloc hbase _) (World.grownBy_alloc W _ none) ⟨W.heap.size,by simp [Value.ownBlock],Nat.le_refl _⟩)
 ·have:W.heap.size=k:=by simpa [Value.ownBlock] using hk
  subst this
  exact hfresh
 ·rw [← hz1]
  exact World.ownsRow_made W _ m hbase (by simp [maxLen];omega) (size_madeCells _ _)
end
section
variable {k:IntKind} {e:Nat} {wh:Value} {pre post:List Int} {w w1:World} {base:Nat} {ok ok':Nat→Prop} {v:Value} {xs:List Int}
def Wn (k:IntKind) (e:Nat) (wh:Value) (pre post:List Int) (w:World) (base:Nat) (ok:Nat→Prop) (v:Value) (xs:List Int):Prop:=
 (∀ g,v.ownBlock=some g→ok g)∧Kd.R (Kd.int k) e w base ok wh (pre++xs++post)∧0 < xs.length∧∃ g c cw,wh=.slice (some ⟨g,0,none⟩) (pre++xs++post).length c∧xs.length≤cw∧v=.slice (some ⟨g,pre.length,none⟩) xs.length cw
theorem Wn_mono (h:Wn k e wh pre post w base ok v xs) (hok:∀ g,ok g→ok' g):Wn k e wh pre post w base ok' v xs:=⟨fun g hg=>hok g (h.1 g hg),Kd.R_mono h.2.1 hok,h.2.2⟩
theorem Wn_alloc (h:Wn k e wh pre post w base ok v xs) (o:Obj):Wn k e wh pre post (w.alloc o) base ok v xs:=⟨h.1,Kd.R_alloc h.2.1 o,h.2.2⟩
theorem Wn_drew (h:Wn k e wh pre post w base ok v xs):Wn k e wh pre post w.drew base ok v xs:=⟨h.1,Kd.R_drew h.2.1,h.2.2⟩
theorem Wn_drewN (h:Wn k e wh pre post w base ok v xs) (m:Nat):Wn k e wh pre post (w.drewN m) base ok v xs:=⟨h.1,Kd.R_drewN h.2.1 m,h.2.2⟩
theorem Wn_slice (h:Wn k e wh pre post w base ok v xs):∃ A c,v=.slice A xs.length c:=by
 obtain ⟨_,_,_,g,c,cw,_,_,e⟩:=h
 exact ⟨_,_,e⟩
theorem aPk (i:Nat) (h:i < xs.length):(pre++xs++post).getD (pre.length+i) 0=xs.getD i 0:=by
 rw [List.append_assoc,List.getD_eq_getElem?_getD,List.getD_eq_getElem?_getD,List.getElem?_append_right (by omega),Nat.add_sub_cancel_left,List.getElem?_append_left h]
theorem aPl (i:Nat) (x:Int) (h:i < xs.length):(pre++xs++post).set (pre.length+i) x=pre++xs.set i x++post:=by
 rw [List.append_assoc,List.set_append,if_neg (by omega),Nat.add_sub_cancel_left,List.set_append,if_pos h,List.append_assoc]
theorem aJN (h:Wn k e wh pre post w base ok v xs):∃ g cw,v=.slice (some ⟨g,pre.length,none⟩) xs.length cw∧xs.length≤cw∧∀ i:Nat,i < xs.length→w.cell? ⟨g,pre.length+i,none⟩=some (.int k (xs.getD i 0))∧w.frozen? ⟨g,pre.length+i,none⟩=false:=by
 obtain ⟨_,hr,_,g,c,cw,e1,hle,e2⟩:=h
 refine ⟨g,cw,e2,hle,fun i hi=>?_⟩
 rw [e1] at hr
 have:=Kd.R_cell (enc:=Value.int k) (h1:=fun _=>rfl) (0:Int) hr ((pre.length+i:Nat):Int) (by omega) (by simp only [List.length_append];omega)
 rw [Int.toNat_natCast] at this
 unfold aJ4 at this
 rw [Int.toNat_natCast,aPk i hi] at this
 exact this
theorem Wn_reads' {A:Option Addr} {n c:Nat} (h:Wn k e wh pre post w base ok (.slice A n c) xs):n=xs.length∧n≤c∧Kd.C (Kd.int k) w A xs.length xs:=by
 obtain ⟨g,cw,ev,hle,hc⟩:=aJN h
 injection ev with h1 h2 h3
 subst h1 h2 h3
 refine ⟨rfl,hle,Kd.C_of_reads (d:=(0:Int)) (h1:=fun _=>rfl) ⟨rfl,?_,fun _=>⟨_,rfl,fun j hj=>?_⟩⟩⟩
 ·have:=(Kd.R_reads h.2.1)
  obtain ⟨A',c',he,hl,hr⟩:=this
  have:=hr.2.1
  simp only [List.length_append] at this
  omega
 ·rw [aCR]
  exact (hc j hj).1
theorem Wn_form (h:Wn k e wh pre post w base ok v xs) (hp:0 < xs.length):∃ g cap,v=.slice (some ⟨g,pre.length,none⟩) xs.length cap∧base≤g∧g < w.heap.size∧∃ cells,w.heap[g]?=some (.cells cells e (0,0)):=by
 obtain ⟨_,hr,_,g,c,cw,e1,_,e2⟩:=h
 obtain ⟨g',cap,ev,hb,hl,hc⟩:=Kd.R_form hr (by simp only [List.length_append];omega)
 rw [e1] at ev
 injection ev with h1 _ _
 injection h1 with h1
 injection h1 with h1 _ _
 subst h1
 exact ⟨g,cw,e2,hb,hl,hc⟩
theorem Wn_celln (_d:Int) {g n cap:Nat} (h:Wn k e wh pre post w base ok (.slice (some ⟨g,pre.length,none⟩) n cap) xs) (i:Int) (h0:0≤i) (hi:i < n):w.cell? ⟨g,pre.length+i.toNat,none⟩=some (.int k (rd xs i))∧w.frozen? ⟨g,pre.length+i.toNat,none⟩=false:=by
 obtain ⟨g',cw,ev,_,hc⟩:=aJN h
 injection ev with h1 h2 _
 injection h1 with h1
 injection h1 with h1 _ _
 subst h1 h2
 exact hc i.toNat (by omega)
theorem Wn_putg {g n cap:Nat} (h:Wn k e wh pre post w base ok (.slice (some ⟨g,pre.length,none⟩) n cap) xs) (i:Int) (x:Int) (h0:0≤i) (hi:i < n):Wn k e wh pre post (w.setCell ⟨g,pre.length+i.toNat,none⟩ (.int k x)) base ok (.slice (some ⟨g,pre.length,none⟩) n cap) (xs.set i.toNat x)∧w.grownBy (w.setCell ⟨g,pre.length+i.toNat,none⟩ (.int k x)) (some g):=by
 obtain ⟨ho,hr,hp,g',c,cw,e1,hle,e2⟩:=h
 injection e2 with h1 h2 h3
 injection h1 with h1
 injection h1 with h1 _ _
 subst h1 h2 h3
 have hr2:=hr
 rw [e1] at hr2
 have:=Kd.R_putg (enc:=Value.int k) (h1:=fun _=>rfl) hr2 ((pre.length+i.toNat:Nat):Int) x
 rw [Int.toNat_natCast,aPl i.toNat x (by omega)] at this
 have el:(pre++xs.set i.toNat x++post).length=(pre++xs++post).length:=by simp only [List.length_append,List.length_set]
 refine ⟨⟨ho,?_,by rw [List.length_set];exact hp,g,c,cap,by rw [e1,el],by rw [List.length_set];exact hle,by rw [List.length_set]⟩,this.2⟩
 rw [e1]
 exact this.1
end
def win (v:Value) (L H:Int):Value:=
 match v with
 | .slice a _ c=>sliced a L.toNat H.toNat c 1
 | v=>v
theorem run_win {P:Program} (t e:TypeId) {z:Option Value} {bytes:Nat} (ht:P.underlying t=some (.slice e)) (hinfo:(P.info? e).map (fun i=>(i.zero,i.size,i.bytes))=some (z,1,bytes)) (A:Option Addr) (n c:Nat) (L H:Int) (h0:0≤L) (h1:L≤H) (h2:H≤c) :
  ∀ W,(Instr.slice t (.slice A n c) (some (.int .i64 L)) (some (.int .i64 H)) none).run P W=.ok (win (.slice A n c) L H) W:=by
 intro W
 obtain ⟨i0,hi,hzz⟩:=Option.map_eq_some_iff.1 hinfo
 simp only [Prod.mk.injEq] at hzz
 have he:P.elem t=e:=by simp [Program.elem,ht]
 rw [run_slice_lh W t A n c (by rw [he];exact ht) .i64 .i64 L H h0 h1 h2,he]
 simp [sizeOf,typeInfo,hi,hzz.2.1,Result.andThen,win]
theorem aGZ (l:List Int) (L H:Nat) (h:L≤H):l.take L++(l.take H).drop L++l.drop H=l:=by
 rw [show l.take L=(l.take H).take L by rw [List.take_take,Nat.min_eq_left h],List.take_append_drop,List.take_append_drop]
theorem Wn_of {k:IntKind} {e:Nat} {w:World} {base:Nat} {ok:Nat→Prop} {u:Value} {l:List Int} (h:Kd.R (Kd.int k) e w base ok u l) (L H:Int) (h0:0≤L) (h1:L < H) (h2:H≤l.length) :
  Wn k e u (l.take L.toNat) (l.drop H.toNat) w base ok (win u L H) ((l.take H.toNat).drop L.toNat):=by
 obtain ⟨g,c,e1,_,_,_⟩:=Kd.R_form h (by omega)
 have hc:l.length≤c:=by
  rw [e1] at h
  exact (Kd.R_reads' h).2.1
 have hp:=aGZ l L.toNat H.toNat (by omega)
 have hlen:((l.take H.toNat).drop L.toNat).length=H.toNat - L.toNat:=by rw [List.length_drop,List.length_take,Nat.min_eq_left (by omega)]
 have hw:win u L H=.slice (some ⟨g,(l.take L.toNat).length,none⟩) ((l.take H.toNat).drop L.toNat).length (c - L.toNat):=by
  rw [e1,hlen,List.length_take,Nat.min_eq_left (by omega)]
  unfold win sliced
  simp only
  rw [if_neg (by omega),Option.map_some,add_plain,Nat.mul_one]
 refine ⟨fun b hb=>h.1 b ?_,by rw [hp];exact h,by omega,g,c,c - L.toNat,by rw [hp];exact e1,by omega,hw⟩
 rw [hw] at hb
 rw [e1]
 exact hb
end Go.Proofs.YtkkjlpfomofiaaaGreatDoor.XW
