import Derived.Test.YtfaccbkibjkfjaaGreatDoorT35
import Derived.Test.YtfaccbkibjkfjaaGreatDoorT10
set_option linter.all false
set_option maxRecDepth 100000
set_option maxHeartbeats 1000000
section
open Go Go.Am Go.Proofs Go.bt
namespace Go.bt
variable {mx:Int}
def Gl:List (Nat×List PV×PV):=(39,[.str Lf],sg3)::lK
theorem Et:eX Tryz.prog (GG mx) Gl:=aE V0 gD
noncomputable def abT:BI:=upR Tn (o8 Gl) gx (fun _=>false) iO 1000000
theorem V7:∀f ps res,abT f ps=some res→pC mx f ps res:=dE mixed cO (gP Et) bY 1000000
noncomputable def abU:BI:=upR Tn abT gx mB iO 1000000
theorem PM:∀f ps res,abU f ps=some res→pC mx f ps res:=dE mixed cO V7 bY 1000000
noncomputable def V5:BI:=upR Tn abU gx mB iO 1000000
theorem PN:∀f ps res,V5 f ps=some res→pC mx f ps res:=dE mixed cO PM bY 1000000
theorem PO:(jB ⟨Tn,V5,gx,mB,iO⟩ 1000000 [.code Ec] (Am.start 178 [fJ,.str Lf])).data [(.tmp 4),(.cell 5 (some 4)),(.tmp 6)]=some ms3:=by kernel_rfl
theorem msg3:pC mx 37 [fJ,.str Lf] ms3:=
 cI (E:=⟨Tn,V5,gx,mB,iO⟩) mixed (eM mixed cO) PN bY adW rfl 1000000 PO
end Go.bt
end
