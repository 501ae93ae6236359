import Derived.Test.YtfaccbkibjkfjaaGreatDoorT27
import Derived.Test.YtfaccbkibjkfjaaGreatDoorT28
import Derived.Test.YtfaccbkibjkfjaaGreatDoorT29
import Derived.Test.YtfaccbkibjkfjaaGreatDoorT30
import Derived.Test.YtfaccbkibjkfjaaGreatDoorT31
import Derived.Test.YtfaccbkibjkfjaaGreatDoorT10
set_option linter.all false
set_option maxRecDepth 100000
set_option maxHeartbeats 1000000
section
open Go Go.Am Go.Proofs Go.bt
namespace Go.bt
variable {mx:Int}
def KH:List (Nat×List PV×PV):=[(96,[.str wX],lx0),(96,[.str Ld],lx1),(96,[.str Le],lx2),(96,[.str Lf],lx3),(96,[.str Lg],lx4)]
theorem Hy:eX Tryz.prog (GG mx) KH:=aE lex0 (aE lex1 (aE lex2 (aE lex3 (aE lex4 (pR)))))
noncomputable def B5:BI:=qb Tn (o8 (KH++lK)) gx mB iO 1000000
theorem CF:∀f ps res,B5 f ps=some res→pC mx f ps res:=dE mixed cO (gP (yG Hy gD)) bY 1000000
end Go.bt
end
