import Derived.Test.YtfaccbkibjkfjaaGreatDoorT49
set_option linter.all false
set_option maxRecDepth 100000
namespace Go.aA
open Go Go.Am Go.Proofs
open Go.ChangeShapes Go.WideShapes Go.ChangeAt Go.RowKit
open Go.Proofs.YtfaccbkibjkfjaaGreatDoor
abbrev HC:=Rows.messageReadsUptoRow
theorem HD:(HC.inPlace==Tryz.pinned.checked.prog.inPlace 4)=true:=k_
theorem ab6:(HC.unfollowed==Tryz.pinned.checked.prog.unfollowed 4)=true:=k_
theorem ab7:(HC.recurses==Tryz.pinned.checked.prog.recurses 4)=true:=k_
theorem PW:(HC.named==Tryz.pinned.checked.prog.varsNamed 4)=true:=k_
theorem Wg:laidOutB Tryz.pinned.checked.prog=true:=k_
end Go.aA
