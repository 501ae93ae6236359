import Derived.Test.YtfaccbkibjkfjaaGreatDoorT50
set_option linter.all false
set_option maxRecDepth 100000
namespace Go.aA
open Go Go.Am Go.Proofs
open Go.ChangeShapes Go.WideShapes Go.ChangeAt Go.RowKit
open Go.Proofs.YtfaccbkibjkfjaaGreatDoor
theorem PX:joinedFacts Tryz.pinned.checked.prog 4 Tryz.f4 (Rows.OpenSpec.upto Rows.messageReadsSpec).bare HC=true:=by unfold joinedFacts;rw[HD,ab6,ab7,PW,Wg];kernel_rfl
theorem Wh:Tryz.pinned.checked.prog.funcNamed HC.func=some 4:=k_
end Go.aA
