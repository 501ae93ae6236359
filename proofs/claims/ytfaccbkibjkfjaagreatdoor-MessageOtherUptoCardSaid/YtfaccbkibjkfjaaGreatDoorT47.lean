import Derived.Test.YtfaccbkibjkfjaaGreatDoorT46
set_option linter.all false
set_option maxRecDepth 100000
set_option maxHeartbeats 1000000
section
open Go Go.Am Go.Proofs
namespace Go.bt
open Go.ChangeShapes Go.WideShapes Go.ChangeAt Go.RowKit
open Go.Proofs.YtfaccbkibjkfjaaGreatDoor
abbrev HC:=Rows.messageOtherUptoRow
theorem HD:(HC.inPlace==Tryz.pinned.checked.prog.inPlace 8)=true:=by kernel_rfl
theorem ab6:(HC.unfollowed==Tryz.pinned.checked.prog.unfollowed 8)=true:=by kernel_rfl
theorem ab7:(HC.recurses==Tryz.pinned.checked.prog.recurses 8)=true:=by kernel_rfl
theorem PW:(HC.named==Tryz.pinned.checked.prog.varsNamed 8)=true:=by kernel_rfl
theorem Wg:laidOutB Tryz.pinned.checked.prog=true:=by kernel_rfl
end Go.bt
end
