import Derived.Test.YtfaccbkibjkfjaaGreatDoorT47
set_option linter.all false
set_option maxRecDepth 100000
set_option maxHeartbeats 1000000
namespace Go.bt
open Go Go.Am Go.Proofs
open Go.ChangeShapes Go.WideShapes Go.ChangeAt Go.RowKit
open Go.Proofs.YtfaccbkibjkfjaaGreatDoor
theorem PX:joinedFacts Tryz.pinned.checked.prog 10 Tryz.f10 (Rows.OpenSpec.upto Rows.messageBackSpec).bare HC=true:=by unfold joinedFacts;rw[HD,ab6,ab7,PW,Wg];kernel_rfl
theorem Wh:Tryz.pinned.checked.prog.funcNamed HC.func=some 10:=k_
end Go.bt
