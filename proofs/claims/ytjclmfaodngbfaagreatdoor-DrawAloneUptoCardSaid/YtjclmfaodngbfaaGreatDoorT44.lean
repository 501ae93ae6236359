import Derived.Test.YtjclmfaodngbfaaGreatDoorT43
set_option linter.all false
set_option maxRecDepth 100000
set_option maxHeartbeats 1000000
namespace Go.bt
open Go Go.Am Go.Proofs
open Go.ChangeShapes Go.WideShapes Go.ChangeAt Go.RowKit
open Go.Proofs.YtjclmfaodngbfaaGreatDoor
abbrev HC:=Rows.drawAloneUptoRow
theorem HF:(HC.inPlace==Tryz.pinned.checked.prog.inPlace 4)=true:=by kernel_rfl
theorem ab6:(HC.unfollowed==Tryz.pinned.checked.prog.unfollowed 4)=true:=by kernel_rfl
theorem ab7:(HC.recurses==Tryz.pinned.checked.prog.recurses 4)=true:=by kernel_rfl
theorem PW:(HC.named==Tryz.pinned.checked.prog.varsNamed 4)=true:=by kernel_rfl
theorem Wg:laidOutB Tryz.pinned.checked.prog=true:=by kernel_rfl
end Go.bt
