import Derived.Test.YtfaccbkibjkfjaaGreatDoorT35
import Derived.Test.YtfaccbkibjkfjaaGreatDoorT10
set_option linter.all false
set_option maxRecDepth 100000
set_option maxHeartbeats 1000000
section
open Go Go.Am Go.Proofs Go.bt
namespace Go.bt
variable {mx:Int}
def Gm:List (Nat×List PV×PV):=(39,[.str Lg],sg4)::lK
theorem ED:eX Tryz.prog (GG mx) Gm:=aE V1 gD
noncomputable def ab8:BI:=upR Tn (o8 Gm) gx (fun _=>false) iO 1000000
theorem PY:∀f ps res,ab8 f ps=some res→pC mx f ps res:=dE mixed cO (gP ED) bY 1000000
noncomputable def ab9:BI:=upR Tn ab8 gx mB iO 1000000
theorem PZ:∀f ps res,ab9 f ps=some res→pC mx f ps res:=dE mixed cO PY bY 1000000
noncomputable def Wi:BI:=upR Tn ab9 gx mB iO 1000000
theorem P0:∀f ps res,Wi f ps=some res→pC mx f ps res:=dE mixed cO PZ bY 1000000
theorem P1:(jB ⟨Tn,Wi,gx,mB,iO⟩ 1000000 [.code Ec] (Am.start 178 [fJ,.str Lg])).data [(.tmp 4),(.cell 5 (some 4)),(.tmp 6)]=some ms4:=by kernel_rfl
theorem msg4:pC mx 37 [fJ,.str Lg] ms4:=
 cI (E:=⟨Tn,Wi,gx,mB,iO⟩) mixed (eM mixed cO) P0 bY adW rfl 1000000 P1
end Go.bt
end
