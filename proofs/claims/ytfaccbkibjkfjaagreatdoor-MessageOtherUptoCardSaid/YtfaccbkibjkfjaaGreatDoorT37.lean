import Derived.Test.YtfaccbkibjkfjaaGreatDoorT35
import Derived.Test.YtfaccbkibjkfjaaGreatDoorT10
set_option linter.all false
set_option maxRecDepth 100000
set_option maxHeartbeats 1000000
section
open Go Go.Am Go.Proofs Go.bt
namespace Go.bt
variable {mx:Int}
def Gj:List (Nat×List PV×PV):=(39,[.str Ld],sg1)::lK
theorem Er:eX Tryz.prog (GG mx) Gj:=aE VY gD
noncomputable def abP:BI:=upR Tn (o8 Gj) gx (fun _=>false) iO 1000000
theorem PD:∀f ps res,abP f ps=some res→pC mx f ps res:=dE mixed cO (gP Er) bY 1000000
noncomputable def abQ:BI:=upR Tn abP gx mB iO 1000000
theorem PE:∀f ps res,abQ f ps=some res→pC mx f ps res:=dE mixed cO PD bY 1000000
noncomputable def V3:BI:=upR Tn abQ gx mB iO 1000000
theorem PF:∀f ps res,V3 f ps=some res→pC mx f ps res:=dE mixed cO PE bY 1000000
theorem PG:(jB ⟨Tn,V3,gx,mB,iO⟩ 1000000 [.code Ec] (Am.start 178 [fJ,.str Ld])).data [(.tmp 4),(.cell 5 (some 4)),(.tmp 6)]=some ms1:=by kernel_rfl
theorem msg1:pC mx 37 [fJ,.str Ld] ms1:=
 cI (E:=⟨Tn,V3,gx,mB,iO⟩) mixed (eM mixed cO) PF bY adW rfl 1000000 PG
end Go.bt
end
