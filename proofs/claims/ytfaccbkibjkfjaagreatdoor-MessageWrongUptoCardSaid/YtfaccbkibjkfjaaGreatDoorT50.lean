/- For all columns, covers, boxes and numbers: a plan with a state less, calls that are not right, or a box too much has no sheet (message.Of answers ErrArg and an empty sheet), and what it is given is left as it is; arguments and package variables hold together at most 1048576 values and letters. The names in these texts were made short by a program. -/
import Derived.Test.YtfaccbkibjkfjaaGreatDoorT49
import Derived.Test.YtfaccbkibjkfjaaGreatDoorT44
import Derived.Test.YtfaccbkibjkfjaaGreatDoorT10
set_option linter.all false
set_option maxRecDepth 100000
set_option maxHeartbeats 1000000
section
open Go Go.Am Go.Proofs
namespace Go.Proofs.YtfaccbkibjkfjaaGreatDoor
theorem messageWrong_upto:Rows.MessageWrongUptoCardSaid:=Go.bt.KX fun m=>Go.bt.KZ (mx:=m)
end Go.Proofs.YtfaccbkibjkfjaaGreatDoor
end
