import Derived.Test.YtkkjlpfomofiaaaGreatDoorRows
import Derived.Test.YtkkjlpfomofiaaaGreatDoorSx2
import Derived.WalkKit
import Derived.ProofKit
import Derived.OpenShut
import Derived.ShutString
import Derived.ChangeOld
import Derived.Lib.SmallJoins
namespace Go.Proofs.YtkkjlpfomofiaaaGreatDoor.X
open Go Go.ChangeShapes Go.WideShapes Go.ChangeAt Go.RowKit Go.Joins Sx
def pkF (P:Program) (fl:TypeId→Option (List Kc)):List Field→Nat→Option (List Kc)
 | [],_=>some []
 | f::fs,off=>if f.offset=off then (fl f.type).bind fun ks=>if P.cellsOf f.type=ks.length then (pkF P fl fs (off+ks.length)).map (ks++·) else none else none
def pk (P:Program):Nat→TypeId→Option (List Kc)
 | 0,_=>none
 | d+1,t=>match P.underlying t with
  | some .bool=>some [.b]
  | some (.int k)=>some [.i k]
  | some .string=>some [.s]
  | some (.struct fs)=>pkF P (pk P d) fs.toList 0
  | some (.array n e)=>(pk P d e).bind fun ks=>if P.cellsOf e=ks.length then some (aCl ks n) else none
  | _=>none
theorem aHG:∀ {k1 k2:List Kc} {a b:List Value},oks k1 a=true→oks k2 b=true→oks (k1++k2) (a++b)=true
 | [],_,[],_,_,h=>h
 | [],_,_::_,_,h,_=>by cases h
 | _::_,_,[],_,h,_=>by cases h
 | k::k1,k2,x::a,b,h,g=>by
  have h:(k.ok x && oks k1 a)=true:=h
  rw [Bool.and_eq_true] at h
  show (k.ok x && oks (k1++k2) (a++b))=true
  rw [h.1,aHG h.2 g]
  rfl
section
variable {H:Type} {enc:TypeId × Value→H} {P:Program} {W:World} {base:Nat} {sp:Nat→Bool} {held:Bool}
theorem aJZ (W:World) {t:TypeId} {fs:Array Field} (ht:P.underlying t=some (.struct fs)) (n:Nat) (cs:List Value):DataW.trod enc P W base sp held (n+1) t cs=if cs.length=P.cellsOf t then (fs.toList.mapM fun f=>DataW.trod enc P W base sp held n f.type ((cs.drop f.offset).take (P.cellsOf f.type))).map fun xs=>(.agg (xs.map (·.1)),xs.flatMap (·.2)) else none:=by
 conv=>lhs;unfold DataW.trod
 rw [ht]
theorem aKa (W:World) {t e:TypeId} {m:Nat} (ht:P.underlying t=some (.array m e)) (n:Nat) (cs:List Value):DataW.trod enc P W base sp held (n+1) t cs=if cs.length=P.cellsOf t then ((List.range m).mapM fun i=>DataW.trod enc P W base sp held n e ((cs.drop (i*P.cellsOf e)).take (P.cellsOf e))).map fun xs=>(.agg (xs.map (·.1)),xs.flatMap (·.2)) else none:=by
 conv=>lhs;unfold DataW.trod
 rw [ht]
theorem aFt {α β:Type} {f g:α→Option β}:∀ {l:List α} {ys:List β},l.mapM f=some ys→(∀ a ∈ l,∀ y,f a=some y→g a=some y)→l.mapM g=some ys
 | [],_,h,_=>h
 | a::l,ys,h,hg=>by
  rw [List.mapM_cons] at h ⊢
  obtain ⟨y,h1,h2⟩:=Option.bind_eq_some_iff.1 h
  obtain ⟨zs,h3,h4⟩:=Option.bind_eq_some_iff.1 h2
  rw [hg a (List.mem_cons_self ..) y h1]
  show (List.mapM g l >>= fun bs=>pure (y::bs))=some ys
  rw [aFt h3 fun b hb z hz=>hg b (List.mem_cons_of_mem _ hb) z hz]
  exact h4
theorem aGw {α β:Type} {f:α→Option β}:∀ {l:List α} {ys:List β},l.mapM f=some ys→(∀ a ∈ l,∃ y,f a=some y)∧∀ y ∈ ys,∃ a ∈ l,f a=some y
 | [],ys,h=>by
  obtain rfl:[]=ys:=Option.some.inj h
  exact ⟨fun _ h=>(by cases h),fun _ h=>(by cases h)⟩
 | a::l,ys,h=>by
  rw [List.mapM_cons] at h
  obtain ⟨y,h1,h2⟩:=Option.bind_eq_some_iff.1 h
  obtain ⟨zs,h3,h4⟩:=Option.bind_eq_some_iff.1 h2
  obtain rfl:y::zs=ys:=Option.some.inj h4
  obtain ⟨g1,g2⟩:=aGw h3
  refine ⟨?_,?_⟩
  ·intro b hb
   rcases List.mem_cons.1 hb with rfl | hb
   ·exact ⟨y,h1⟩
   ·exact g1 b hb
  ·intro z hz
   rcases List.mem_cons.1 hz with rfl | hz
   ·exact ⟨a,List.mem_cons_self ..,h1⟩
   ·obtain ⟨b,hb,e⟩:=g2 z hz
    exact ⟨b,List.mem_cons_of_mem _ hb,e⟩
theorem aKb {α β:Type} {f:α→List β} {l:List α} (h:∀ a ∈ l,f a=[]):l.flatMap f=[]:=by
 induction l with
 | nil=>rfl
 | cons a l ih=>rw [List.flatMap_cons,h a (List.mem_cons_self ..),ih fun b hb=>h b (List.mem_cons_of_mem _ hb)];rfl
theorem aHH:∀ (d:Nat) (t:TypeId) (ks:List Kc),pk P d t=some ks→P.cellsOf t=ks.length→∀ (fuel:Nat) (cs:List Value) (x:DataW H × List MemPlace),DataW.trod enc P W base sp held fuel t cs=some x→oks ks cs=true∧x.2=[]∧∀ W' base' sp' held',DataW.trod enc P W' base' sp' held' fuel t cs=some x
 | 0,_,_,h,_,_,_,_,_=>by cases h
 | d+1,t,ks,h,hC,0,cs,x,hx=>by simp [DataW.trod] at hx
 | d+1,t,ks,h,hC,n+1,cs,x,hx=>by
  unfold pk at h
  split at h
  ·rename_i hu
   obtain rfl:=Option.some.inj h
   obtain ⟨b,rfl,rfl⟩:=DataW.trod_bool hu hx
   exact ⟨rfl,rfl,fun W' base' sp' held'=>by simp [DataW.trod,hu]⟩
  ·rename_i k hu
   obtain rfl:=Option.some.inj h
   obtain ⟨z,rfl,rfl,hz⟩:=DataW.trod_int hu hx
   exact ⟨by simp [oks,Kc.ok],rfl,fun W' base' sp' held'=>by simp [DataW.trod,hu,hz]⟩
  ·rename_i hu
   obtain rfl:=Option.some.inj h
   obtain ⟨z,rfl,rfl,hz⟩:=DataW.trod_string hu hx
   exact ⟨rfl,rfl,fun W' base' sp' held'=>by simp [DataW.trod,hu,hz]⟩
  ·rename_i fs hu
   rw [aJZ W hu] at hx
   split at hx
   ·rename_i hl
    obtain ⟨xs,h1,rfl⟩:=Option.map_eq_some_iff.1 hx
    obtain ⟨g1,g2⟩:=aGw h1
    have ih:∀ f ∈ fs.toList,∀ k1,pk P d f.type=some k1→P.cellsOf f.type=k1.length→_:=fun f _ k1 hk hc=>aHH d f.type k1 hk hc n ((cs.drop f.offset).take (P.cellsOf f.type))
    have key:∀ (gs:List Field),(∀ f ∈ gs,f ∈ fs.toList)→∀ (off:Nat) (kk:List Kc),pkF P (pk P d) gs off=some kk→oks kk ((cs.drop off).take kk.length)=true∧∀ f ∈ gs,∃ k1,pk P d f.type=some k1∧P.cellsOf f.type=k1.length:=by
     intro gs
     induction gs with
     | nil =>
      intro _ off kk hk
      obtain rfl:=Option.some.inj hk
      exact ⟨rfl,fun _ h=>(by cases h)⟩
     | cons f gs ihg =>
      intro hm off kk hk
      unfold pkF at hk
      split at hk
      ·rename_i hf
       obtain ⟨k1,hk1,hk2⟩:=Option.bind_eq_some_iff.1 hk
       split at hk2
       ·rename_i hc
        obtain ⟨k2,hk3,rfl⟩:=Option.map_eq_some_iff.1 hk2
        have a2:=ihg (fun f hf=>hm f (List.mem_cons_of_mem _ hf)) _ _ hk3
        obtain ⟨y,hy⟩:=g1 f (hm f (List.mem_cons_self ..))
        have b1:=(ih f (hm f (List.mem_cons_self ..)) k1 hk1 hc y hy).1
        rw [hf,hc] at b1
        refine ⟨?_,?_⟩
        ·rw [List.length_append,List.take_add,List.drop_drop]
         exact aHG b1 a2.1
        ·intro f' hf'
         rcases List.mem_cons.1 hf' with rfl | hf'
         ·exact ⟨k1,hk1,hc⟩
         ·exact a2.2 f' hf'
       ·cases hk2
      ·cases hk
    obtain ⟨o1,o2⟩:=key fs.toList (fun _ h=>h) 0 ks h
    rw [List.drop_zero,← hC,← hl,List.take_length] at o1
    refine ⟨o1,?_,fun W' base' sp' held'=>?_⟩
    ·refine aKb fun y hy=>?_
     obtain ⟨f,hf,e⟩:=g2 y hy
     obtain ⟨k1,hk1,hc⟩:=o2 f hf
     exact (ih f hf k1 hk1 hc y e).2.1
    ·rw [aJZ W' hu,if_pos hl,aFt h1 fun f hf y e=>?_]
     ·rfl
     ·obtain ⟨k1,hk1,hc⟩:=o2 f hf
      exact (ih f hf k1 hk1 hc y e).2.2 W' base' sp' held'
   ·cases hx
  ·rename_i m e hu
   obtain ⟨k1,hk1,h2⟩:=Option.bind_eq_some_iff.1 h
   split at h2
   ·rename_i hc
    obtain rfl:=Option.some.inj h2
    rw [aKa W hu] at hx
    split at hx
    ·rename_i hl
     obtain ⟨xs,h1,rfl⟩:=Option.map_eq_some_iff.1 hx
     obtain ⟨g1,g2⟩:=aGw h1
     have ih:=fun i=>aHH d e k1 hk1 hc n ((cs.drop (i*P.cellsOf e)).take (P.cellsOf e))
     have key:∀ j,j≤m→oks (aCl k1 j) ((cs.drop ((m - j)*k1.length)).take (aCl k1 j).length)=true:=by
      intro j
      induction j with
      | zero=>intro _;rfl
      | succ j ihj =>
       intro hj
       obtain ⟨y,hy⟩:=g1 (m - (j+1)) (List.mem_range.2 (by omega))
       have b1:=(ih _ y hy).1
       have b2:=ihj (by omega)
       rw [hc] at b1
       show oks (k1++aCl k1 j) _=true
       rw [show aCl k1 (j+1)=k1++aCl k1 j from rfl,List.length_append,List.take_add,List.drop_drop]
       have e1:(m - (j+1))*k1.length+k1.length=(m - j)*k1.length:=by
        rw [← Nat.succ_mul]
        congr 1
        omega
       rw [e1]
       exact aHG b1 b2
     have o1:=key m (Nat.le_refl _)
     rw [Nat.sub_self,Nat.zero_mul,List.drop_zero,← hC,← hl,List.take_length] at o1
     refine ⟨o1,?_,fun W' base' sp' held'=>?_⟩
     ·refine aKb fun y hy=>?_
      obtain ⟨i,_,e⟩:=g2 y hy
      exact (ih i y e).2.1
     ·rw [aKa W' hu,if_pos hl,aFt h1 fun i _ y e=>?_]
      ·rfl
      ·exact (ih i y e).2.2 W' base' sp' held'
    ·cases hx
   ·cases h2
  ·cases h
theorem open_pk {d:Nat} {t:TypeId} {ks:List Kc} (h:pk P d t=some ks) (hC:P.cellsOf t=ks.length) {v:Value} {D:DataW H} {p:List MemPlace} (hx:DataW.Trod enc P W base sp held t v D p):oks ks v.cells.toList=true∧p=[]∧∀ W' base' sp' held',DataW.Trod enc P W' base' sp' held' t v D p:=by
 obtain ⟨fuel,hf⟩:=hx
 obtain ⟨h1,h2,h3⟩:=aHH d t ks h hC fuel _ _ hf
 exact ⟨h1,h2,fun W' base' sp' held'=>⟨fuel,h3 W' base' sp' held'⟩⟩
end
theorem blds_agg {n:Nat} {hs:List H1} {c:Array Value} {r:List Value} (h:c.size=n):blds (.agg n::hs) (c.toList++r)=.agg c::blds hs r:=by
 have h:c.toList.length=n:=by rw [Array.length_toList];exact h
 show Value.agg ((c.toList++r).take n).toArray::blds hs ((c.toList++r).drop n)=_
 rw [← h,List.take_left,List.drop_left,Array.toArray_toList]
end Go.Proofs.YtkkjlpfomofiaaaGreatDoor.X
