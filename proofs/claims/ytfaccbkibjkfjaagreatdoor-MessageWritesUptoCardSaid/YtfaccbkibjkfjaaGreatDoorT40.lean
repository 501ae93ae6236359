import Derived.Test.YtfaccbkibjkfjaaGreatDoorT39
import Derived.Test.YtfaccbkibjkfjaaGreatDoorT41
set_option linter.all false
set_option maxRecDepth 100000
set_option maxHeartbeats 1000000
section
open Go Go.Am Go.Proofs Go.bW
namespace Go.bW
variable {mx:Int}
def HJ:List (Nat×List PV×PV):=(39,[.str yG],sg0)::mL
theorem FR:eU Tryz.prog (GG mx) HJ:=aH WZ gS
noncomputable def acr:BI:=ry Tn (qL HJ) gQ (fun _=>false) ji 1000000
theorem QC:∀f ps res,acr f ps=some res→pC mx f ps res:=dG mixed cR (gY FR) bY 1000000
noncomputable def acs:BI:=ry Tn acr gQ nH ji 1000000
theorem QD:∀f ps res,acs f ps=some res→pC mx f ps res:=dG mixed cR QC bY 1000000
noncomputable def W0:BI:=ry Tn acs gQ nH ji 1000000
theorem QE:∀f ps res,W0 f ps=some res→pC mx f ps res:=dG mixed cR QD bY 1000000
theorem QF:(ke ⟨Tn,W0,gQ,nH,ji⟩ 1000000 [.code FO] (Am.start 178 [fJ,.str yG])).data [(.tmp 4),(.cell 5 (some 4)),(.tmp 6)]=some ms0:=by kernel_rfl
theorem msg0:pC mx 37 [fJ,.str yG] ms0:=
 cM (E:=⟨Tn,W0,gQ,nH,ji⟩) mixed (eJ mixed cR) QE bY uV rfl 1000000 QF
end Go.bW
end
