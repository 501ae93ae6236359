import Derived.Test.YtfaccbkibjkfjaaGreatDoorT33
import Derived.Test.YtfaccbkibjkfjaaGreatDoorT34
import Derived.Test.YtfaccbkibjkfjaaGreatDoorT35
import Derived.Test.YtfaccbkibjkfjaaGreatDoorT36
import Derived.Test.YtfaccbkibjkfjaaGreatDoorT37
import Derived.Test.YtfaccbkibjkfjaaGreatDoorT41
set_option linter.all false
set_option maxRecDepth 100000
set_option maxHeartbeats 1000000
section
open Go Go.Am Go.Proofs Go.bW
namespace Go.bW
variable {mx:Int}
def L5:List (Nat×List PV×PV):=[(96,[.str yG],lx0),(96,[.str Mm],lx1),(96,[.str Mn],lx2),(96,[.str Mo],lx3),(96,[.str Mp],lx4)]
theorem I2:eU Tryz.prog (GG mx) L5:=aH lex0 (aH lex1 (aH lex2 (aH lex3 (aH lex4 (rb)))))
noncomputable def B5:BI:=ry Tn (qL (L5++mL)) gQ nH ji 1000000
theorem DU:∀f ps res,B5 f ps=some res→pC mx f ps res:=dG mixed cR (gY (Aq I2 gS)) bY 1000000
end Go.bW
end
