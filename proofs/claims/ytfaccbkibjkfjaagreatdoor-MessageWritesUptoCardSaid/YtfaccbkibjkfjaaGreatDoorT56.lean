/- For every ship, reference and sheet, message.Write and message.Right return what the document specifies, and leave the sheet as it is; arguments and package variables hold together at most 1048576 values and letters. The names in these texts were made short by a program. -/
import Derived.Test.YtfaccbkibjkfjaaGreatDoorT28
import Derived.Test.YtfaccbkibjkfjaaGreatDoorT55
import Derived.Test.YtfaccbkibjkfjaaGreatDoorT41
set_option linter.all false
set_option maxRecDepth 100000
set_option maxHeartbeats 1000000
section
open Go Go.Am Go.Proofs
namespace Go.Proofs.YtfaccbkibjkfjaaGreatDoor
theorem messageWrites_upto:Rows.MessageWritesUptoCardSaid:=Go.bW.LG fun m=>Go.bW.L7 (mx:=m)
end Go.Proofs.YtfaccbkibjkfjaaGreatDoor
end
