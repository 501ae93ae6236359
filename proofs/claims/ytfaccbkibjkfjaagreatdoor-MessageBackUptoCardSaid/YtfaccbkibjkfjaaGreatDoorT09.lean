import Derived.Test.YtfaccbkibjkfjaaGreatDoorT08
set_option linter.all false
set_option maxRecDepth 100000
set_option maxHeartbeats 1000000
namespace Go.bt
open Go Go.Am Go.Proofs
theorem U9(v:Value)(w:World):(callFunc 243 #[v]).run Tryz.prog w=.ok (.value v) w:=k_
end Go.bt
