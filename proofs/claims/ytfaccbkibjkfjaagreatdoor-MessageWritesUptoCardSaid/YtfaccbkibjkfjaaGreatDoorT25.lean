import Derived.Test.YtfaccbkibjkfjaaGreatDoorT23
import Derived.Test.YtfaccbkibjkfjaaGreatDoorT41
set_option linter.all false
set_option maxRecDepth 100000
set_option maxHeartbeats 1000000
section
open Go Go.Am Go.Proofs
namespace Go.bW
open Go.ChangeShapes Go.WideShapes Go.ChangeAt Go.RowKit
open Go.Proofs.YtfaccbkibjkfjaaGreatDoor
abbrev IH:=Rows.messageWritesUptoRow
theorem II:(IH.inPlace==Tryz.pinned.checked.prog.inPlace 3)=true:=by kernel_rfl
theorem ab0:(IH.unfollowed==Tryz.pinned.checked.prog.unfollowed 3)=true:=by kernel_rfl
theorem ab1:(IH.recurses==Tryz.pinned.checked.prog.recurses 3)=true:=by kernel_rfl
theorem PG:(IH.named==Tryz.pinned.checked.prog.varsNamed 3)=true:=by kernel_rfl
theorem WB:laidOutB Tryz.pinned.checked.prog=true:=by kernel_rfl
end Go.bW
end
