import Derived.Test.YtfaccbkibjkfjaaGreatDoorT35
import Derived.Test.YtfaccbkibjkfjaaGreatDoorT10
set_option linter.all false
set_option maxRecDepth 100000
set_option maxHeartbeats 1000000
section
open Go Go.Am Go.Proofs Go.bt
namespace Go.bt
variable {mx:Int}
def Gk:List (Nat×List PV×PV):=(39,[.str Le],sg2)::lK
theorem Es:eX Tryz.prog (GG mx) Gk:=aE VZ gD
noncomputable def abR:BI:=upR Tn (o8 Gk) gx (fun _=>false) iO 1000000
theorem PH:∀f ps res,abR f ps=some res→pC mx f ps res:=dE mixed cO (gP Es) bY 1000000
noncomputable def abS:BI:=upR Tn abR gx mB iO 1000000
theorem PI:∀f ps res,abS f ps=some res→pC mx f ps res:=dE mixed cO PH bY 1000000
noncomputable def V4:BI:=upR Tn abS gx mB iO 1000000
theorem PJ:∀f ps res,V4 f ps=some res→pC mx f ps res:=dE mixed cO PI bY 1000000
theorem PK:(jB ⟨Tn,V4,gx,mB,iO⟩ 1000000 [.code Ec] (Am.start 178 [fJ,.str Le])).data [(.tmp 4),(.cell 5 (some 4)),(.tmp 6)]=some ms2:=by kernel_rfl
theorem msg2:pC mx 37 [fJ,.str Le] ms2:=
 cI (E:=⟨Tn,V4,gx,mB,iO⟩) mixed (eM mixed cO) PJ bY adW rfl 1000000 PK
end Go.bt
end
