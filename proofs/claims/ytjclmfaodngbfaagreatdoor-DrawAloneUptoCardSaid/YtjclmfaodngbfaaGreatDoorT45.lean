import Derived.Test.YtjclmfaodngbfaaGreatDoorT44
set_option linter.all false
set_option maxRecDepth 100000
set_option maxHeartbeats 1000000
namespace Go.bt
open Go Go.Am Go.Proofs
open Go.ChangeShapes Go.WideShapes Go.ChangeAt Go.RowKit
open Go.Proofs.YtjclmfaodngbfaaGreatDoor
theorem PX:joinedFacts Tryz.pinned.checked.prog 4 Tryz.f4 (Rows.OpenSpec.upto Rows.drawAloneSpec).bare HC=true:=by unfold joinedFacts;rw[HF,ab6,ab7,PW,Wg];kernel_rfl
theorem Wh:Tryz.pinned.checked.prog.funcNamed HC.func=some 4:=by kernel_rfl
end Go.bt
