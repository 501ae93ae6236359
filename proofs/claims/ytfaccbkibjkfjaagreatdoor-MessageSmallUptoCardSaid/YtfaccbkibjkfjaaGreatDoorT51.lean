import Derived.Test.YtfaccbkibjkfjaaGreatDoorT50
set_option linter.all false
set_option maxRecDepth 100000
set_option maxHeartbeats 1000000
namespace Go.aA
open Go Go.Am Go.Proofs
open Go.ChangeShapes Go.WideShapes Go.ChangeAt Go.RowKit
open Go.Proofs.YtfaccbkibjkfjaaGreatDoor
abbrev HC:=Rows.messageSmallUptoRow
theorem HD:(HC.inPlace==Tryz.pinned.checked.prog.inPlace 6)=true:=k_
theorem ab6:(HC.unfollowed==Tryz.pinned.checked.prog.unfollowed 6)=true:=k_
theorem ab7:(HC.recurses==Tryz.pinned.checked.prog.recurses 6)=true:=k_
theorem PW:(HC.named==Tryz.pinned.checked.prog.varsNamed 6)=true:=k_
theorem Wg:laidOutB Tryz.pinned.checked.prog=true:=k_
end Go.aA
