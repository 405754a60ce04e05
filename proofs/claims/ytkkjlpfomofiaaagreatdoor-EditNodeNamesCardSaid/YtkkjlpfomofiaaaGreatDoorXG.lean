import Derived.Test.YtkkjlpfomofiaaaGreatDoorRows
import Derived.Test.YtkkjlpfomofiaaaGreatDoorXF
import Derived.Lib.LaidTab
import Derived.Lib.LaidU8
import Derived.MakeChecks
import Derived.LaidLaws
import Derived.ChangeBears2
namespace Go.Proofs.YtkkjlpfomofiaaaGreatDoor.X
open Go Go.RowKit
theorem aLX:(Rows.laid_internal_strconv_uint64pow10:DataW Unit)=Lib.tabData .u64 Lib.pow10Tab:=by kernel_rfl
theorem aLY {W : World} {l : List (String × DataW Unit)} (h : laidMetH Tryz.prog l W) (hp : (l.all fun x => x.2.handleName?.isNone) = true) (hm : ("internal/strconv.uint64pow10", (Rows.laid_internal_strconv_uint64pow10 : DataW Unit)) ∈ l) : G0 W := by
 rw [MakeChecks.laidMetH_plain _ _ _ hp] at h
 obtain ⟨g,t,cs,fuel,p,h1,h2,h3,h4⟩:=Lib.laidMet.reads h hm
 obtain rfl := Option.some.inj ((show Tryz.prog.globalNamed "internal/strconv.uint64pow10" = some 4 by kernel_rfl).symm.trans h1)
 obtain rfl:=Option.some.inj ((show (Tryz.prog.globals[4]?).map (·.type)=some 209 by kernel_rfl).symm.trans h2)
 rw [aLX] at h4
 unfold G0 Lib.TabIs
 rw [h3,← Lib.cells_of_tab Tryz.underlying209 Tryz.underlying104 (by kernel_rfl) (by kernel_rfl) h4]
theorem aFS {W:World} {l:List (String × DataW Unit)} {n nm:String} {d:DataW Unit} {g:Nat} {t0:TypeId} {ms:Array (String × TypeId)} (hn:Tryz.prog.globalNamed n=some g) (ht:(Tryz.prog.globals[g]?).map (·.type)=some t0) (hi:Tryz.prog.underlying t0=some (.interface ms)) (h:laidMetH Tryz.prog l W) (hp:(l.all fun x=>x.2.handleName?.isNone)=true) (hm:(n,DataW.iface nm d) ∈ l):ErrAt g W:=by
 rw [MakeChecks.laidMetH_plain _ _ _ hp] at h
 obtain ⟨g',t,cs,fuel,p,h1,h2,h3,h4⟩:=Lib.laidMet.reads h hm
 obtain rfl:=Option.some.inj (hn.symm.trans h1)
 obtain rfl:=Option.some.inj (ht.symm.trans h2)
 obtain ⟨f,u,v,hc,-,-⟩:=iface_of_trod hi h4
 refine ⟨u,v,?_⟩
 rw [var?_cell hn h3 0,← Array.getElem?_toList,hc]
 rfl
theorem G_of_laid {W : World} {l : List (String × DataW Unit)} (h : laidMetH Tryz.prog l W) (hp : (l.all fun x => x.2.handleName?.isNone) = true) (hm : ("internal/strconv.uint64pow10", (Rows.laid_internal_strconv_uint64pow10 : DataW Unit)) ∈ l) (hs : ("strconv.ErrSyntax", (Rows.laid_strconv_ErrSyntax : DataW Unit)) ∈ l) (hr : ("strconv.ErrRange", (Rows.laid_strconv_ErrRange : DataW Unit)) ∈ l) : G W :=
 ⟨aLY h hp hm,aFS (t0:=75) (by kernel_rfl) (by kernel_rfl) Tryz.underlying75 h hp hs,aFS (t0:=75) (by kernel_rfl) (by kernel_rfl) Tryz.underlying75 h hp hr⟩
end Go.Proofs.YtkkjlpfomofiaaaGreatDoor.X
