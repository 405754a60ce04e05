import Derived.Test.YtkkjlpfomofiaaaGreatDoorProg
import Derived.Below
import Derived.Deep.Draws
import Derived.Deep.AppendLies
import Derived.Maps.AppendAt
import Derived.OwnWalk
import Derived.Laws.BytesArg
import Derived.Laws.MakeOwn
import Derived.Laws.OwnMore
import Derived.Deep.OwnRows
import Derived.Tactics
import Derived.Lib.ConvBytes
import Derived.Laws.Slices
import Derived.WalkKit
import Derived.KernelRfl
import Derived.RowKit3
import Derived.Deep.LoopGhost
import Derived.Deep.QuietTactic
import Derived.BigQuiet
import Derived.WideLaws
import Derived.Deep.DeepCutAuto
import Derived.Deep.CutBlock
import Derived.Deep.RegionHeld3
import Derived.Laws.Rows
import Derived.Lib.AppendStr
import Derived.ArgAppend
import Derived.Laws.IdiomCopy
import Derived.OrdersHeld
import Derived.Laws.BitsLemmas
import Derived.RowKit
import Derived.Test.YtkkjlpfomofiaaaGreatDoorXWords
import Derived.Test.YtkkjlpfomofiaaaGreatDoorXW
import Derived.Test.YtkkjlpfomofiaaaGreatDoorX
import Derived.Test.YtkkjlpfomofiaaaGreatDoorXQ
namespace Go.Proofs.YtkkjlpfomofiaaaGreatDoor.P
open Go.RowKit Go.Proofs.YtkkjlpfomofiaaaGreatDoorW.PrintWords Go.Proofs.YtkkjlpfomofiaaaGreatDoorW.PrintLast Go.Proofs.YtkkjlpfomofiaaaGreatDoorW.PrintMore
attribute [local go_sem] aBK aBL aCg aCh aB0 aB1 aBM aBN
attribute [local go_sem] XW.cell_twice
set_option linter.unusedVariables false
set_option linter.unusedSimpArgs false
def errW:Option Int→Value
 | none=>.nilIface
 | some c=>.iface 0 (.int .i64 c)
theorem aAu:errW none=.nilIface:=rfl
theorem aAv (c:Int):errW (some c)=.iface 0 (.int .i64 c):=rfl
theorem aO5:(Tryz.prog.info? 5).map (fun i=>(i.zero,i.size,i.bytes))=some (some (.int .u8 0),1,1):=by kernel_rfl
theorem aAQ:(Tryz.prog.info? 178).map (fun i=>(i.zero,i.size,i.bytes))=some (some (.int .u32 0),1,4):=by kernel_rfl
end Go.Proofs.YtkkjlpfomofiaaaGreatDoor.P
