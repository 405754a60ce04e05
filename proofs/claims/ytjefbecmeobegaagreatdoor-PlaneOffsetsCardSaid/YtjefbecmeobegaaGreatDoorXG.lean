import Derived.Test.YtjefbecmeobegaaGreatDoorRows
import Derived.Test.YtjefbecmeobegaaGreatDoorXF
import Derived.Lib.LaidTab
import Derived.Lib.LaidU8
import Derived.MakeChecks
namespace Go.Proofs.YtjefbecmeobegaaGreatDoor.X
open Go Go.RowKit
theorem aOP:(Rows.laid_internal_strconv_uint64pow10:DataW Unit)=Lib.tabData .u64 Lib.pow10Tab:=by kernel_rfl
theorem G_of_laid {W : World} {l : List (String × DataW Unit)} (h : laidMetH Tryz.prog l W) (hp : (l.all fun x => x.2.handleName?.isNone) = true) (hm : ("internal/strconv.uint64pow10", (Rows.laid_internal_strconv_uint64pow10 : DataW Unit)) ∈ l) : G W := by
 rw [MakeChecks.laidMetH_plain _ _ _ hp] at h
 obtain ⟨g,t,cs,fuel,p,h1,h2,h3,h4⟩:=Lib.laidMet.reads h hm
 obtain rfl := Option.some.inj ((show Tryz.prog.globalNamed "internal/strconv.uint64pow10" = some 2 by kernel_rfl).symm.trans h1)
 obtain rfl:=Option.some.inj ((show (Tryz.prog.globals[2]?).map (·.type)=some 194 by kernel_rfl).symm.trans h2)
 rw [aOP] at h4
 unfold G Lib.TabIs
 rw [h3,<- Lib.cells_of_tab Tryz.underlying194 Tryz.underlying116 kK kK h4]
end Go.Proofs.YtjefbecmeobegaaGreatDoor.X
