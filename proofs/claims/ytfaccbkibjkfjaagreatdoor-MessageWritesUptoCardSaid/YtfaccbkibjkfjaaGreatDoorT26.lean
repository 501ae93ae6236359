import Derived.Test.YtfaccbkibjkfjaaGreatDoorT25
import Derived.Test.YtfaccbkibjkfjaaGreatDoorT41
set_option linter.all false
set_option maxRecDepth 100000
set_option maxHeartbeats 1000000
section
open Go Go.Am Go.Proofs
namespace Go.bW
open Go.ChangeShapes Go.WideShapes Go.ChangeAt Go.RowKit
open Go.Proofs.YtfaccbkibjkfjaaGreatDoor
theorem PH:joinedFacts Tryz.pinned.checked.prog 3 Tryz.f3 (Rows.OpenSpec.upto Rows.messageWritesSpec).bare IH=true:=by
 unfold joinedFacts;rw[II,ab0,ab1,PG,WB]
 kernel_rfl
theorem WC:Tryz.pinned.checked.prog.funcNamed IH.func=some 3:=by kernel_rfl
end Go.bW
end
