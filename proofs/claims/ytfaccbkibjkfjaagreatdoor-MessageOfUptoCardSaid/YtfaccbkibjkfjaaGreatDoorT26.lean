import Derived.Test.YtfaccbkibjkfjaaGreatDoorT25
import Derived.Test.YtfaccbkibjkfjaaGreatDoorT41
set_option linter.all false
set_option maxRecDepth 100000
set_option maxHeartbeats 1000000
section
open Go Go.Am Go.Proofs
namespace Go.b8
open Go.ChangeShapes Go.WideShapes Go.ChangeAt Go.RowKit
open Go.Proofs.YtfaccbkibjkfjaaGreatDoor
theorem PX:joinedFacts Tryz.pinned.checked.prog 5 Tryz.f5 (Rows.OpenSpec.upto Rows.messageOfSpec).bare HC=true:=by
 unfold joinedFacts;rw[HD,ab6,ab7,PW,Wg]
 kernel_rfl
theorem Wh:Tryz.pinned.checked.prog.funcNamed HC.func=some 5:=by kernel_rfl
end Go.b8
end
