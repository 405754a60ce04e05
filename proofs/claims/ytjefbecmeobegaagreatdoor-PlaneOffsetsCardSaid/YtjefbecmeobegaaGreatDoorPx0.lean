import Derived.Test.YtjefbecmeobegaaGreatDoorProg
import Derived.Below
import Derived.Deep.Draws
import Derived.Deep.AppendLies
import Derived.Maps.AppendAt
import Derived.OwnWalk
import Derived.Laws.BytesArg
import Derived.Laws.MakeOwn
import Derived.Laws.OwnMore
import Derived.Deep.OwnRows
import Derived.Tactics
import Derived.Lib.ConvBytes
import Derived.Laws.Slices
import Derived.WalkKit
import Derived.KernelRfl
import Derived.RowKit3
import Derived.Deep.LoopGhost
import Derived.Deep.QuietTactic
import Derived.BigQuiet
import Derived.WideLaws
import Derived.Deep.DeepCutAuto
import Derived.Deep.CutBlock
import Derived.Deep.RegionHeld3
import Derived.Laws.Rows
import Derived.Lib.AppendStr
import Derived.ArgAppend
import Derived.Laws.IdiomCopy
import Derived.OrdersHeld
import Derived.Laws.BitsLemmas
import Derived.RowKit
import Derived.Test.YtjefbecmeobegaaGreatDoorXWords
import Derived.Test.YtjefbecmeobegaaGreatDoorXW
import Derived.Test.YtjefbecmeobegaaGreatDoorX
import Derived.Test.YtjefbecmeobegaaGreatDoorXQ
namespace Go.Proofs.YtjefbecmeobegaaGreatDoor.P
open Go.RowKit Go.Proofs.YtjefbecmeobegaaGreatDoorW.PrintWords Go.Proofs.YtjefbecmeobegaaGreatDoorW.PrintLast Go.Proofs.YtjefbecmeobegaaGreatDoorW.PrintMore
attribute [local go_sem] aDh aDi aDK aDL aCB aCC aDj aDk
attribute [local go_sem] XW.cell_twice
set_option linter.unusedVariables false
set_option linter.unusedSimpArgs false
def errW:Option Int->Value
 | none=>.nilIface
 | some c=>.iface 0 (.int .i64 c)
theorem aAI:errW none=.nilIface:=rfl
theorem aAJ (c:Int):errW (some c)=.iface 0 (.int .i64 c):=rfl
theorem aSj:(Tryz.prog.info? 5).map (λ i=>(i.zero,i.size,i.bytes))=some (some (.int .u8 0),1,1):=by kernel_rfl
theorem aBB:(Tryz.prog.info? 143).map (λ i=>(i.zero,i.size,i.bytes))=some (some (.int .u32 0),1,4):=by kernel_rfl
end Go.Proofs.YtjefbecmeobegaaGreatDoor.P
