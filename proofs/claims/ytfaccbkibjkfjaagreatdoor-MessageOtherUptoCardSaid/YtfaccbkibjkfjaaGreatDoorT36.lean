import Derived.Test.YtfaccbkibjkfjaaGreatDoorT35
import Derived.Test.YtfaccbkibjkfjaaGreatDoorT10
set_option linter.all false
set_option maxRecDepth 100000
set_option maxHeartbeats 1000000
section
open Go Go.Am Go.Proofs Go.bt
namespace Go.bt
variable {mx:Int}
def Gi:List (Nat×List PV×PV):=(39,[.str wX],sg0)::lK
theorem Ep:eX Tryz.prog (GG mx) Gi:=aE VX gD
noncomputable def abN:BI:=upR Tn (o8 Gi) gx (fun _=>false) iO 1000000
theorem Pw:∀f ps res,abN f ps=some res→pC mx f ps res:=dE mixed cO (gP Ep) bY 1000000
noncomputable def abO:BI:=upR Tn abN gx mB iO 1000000
theorem Px:∀f ps res,abO f ps=some res→pC mx f ps res:=dE mixed cO Pw bY 1000000
noncomputable def V2:BI:=upR Tn abO gx mB iO 1000000
theorem Py:∀f ps res,V2 f ps=some res→pC mx f ps res:=dE mixed cO Px bY 1000000
theorem PA:(jB ⟨Tn,V2,gx,mB,iO⟩ 1000000 [.code Ec] (Am.start 178 [fJ,.str wX])).data [(.tmp 4),(.cell 5 (some 4)),(.tmp 6)]=some ms0:=by kernel_rfl
theorem msg0:pC mx 37 [fJ,.str wX] ms0:=
 cI (E:=⟨Tn,V2,gx,mB,iO⟩) mixed (eM mixed cO) Py bY adW rfl 1000000 PA
end Go.bt
end
