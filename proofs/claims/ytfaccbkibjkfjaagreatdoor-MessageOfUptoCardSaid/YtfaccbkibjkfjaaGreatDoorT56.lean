/- For every ship, calls, boxes, plan and call number, message.Of returns what the document specifies, and leaves what it is given as it is; arguments and package variables hold together at most 1048576 values and letters. The names in these texts were made short by a program. -/
import Derived.Test.YtfaccbkibjkfjaaGreatDoorT28
import Derived.Test.YtfaccbkibjkfjaaGreatDoorT55
import Derived.Test.YtfaccbkibjkfjaaGreatDoorT41
set_option linter.all false
set_option maxRecDepth 100000
set_option maxHeartbeats 1000000
section
open Go Go.Am Go.Proofs
namespace Go.Proofs.YtfaccbkibjkfjaaGreatDoor
theorem messageOf_upto:Rows.MessageOfUptoCardSaid:=Go.b8.KX fun m=>Go.b8.KZ (mx:=m)
end Go.Proofs.YtfaccbkibjkfjaaGreatDoor
end
