import Derived.Test.YtfaccbkibjkfjaaGreatDoorT49
import Derived.Test.YtfaccbkibjkfjaaGreatDoorT41
set_option linter.all false
set_option maxRecDepth 100000
set_option maxHeartbeats 1000000
section
open Go Go.Am Go.Proofs Go.bW
namespace Go.bW
variable {mx:Int}
noncomputable def acI:BI:=ry Tn (qL (L6)) gQ (fun _=>false) ji 1000000
theorem Q7:∀f ps res,acI f ps=some res→pC mx f ps res:=dG mixed cR (gY I3) bY 1000000
noncomputable def acJ:BI:=ry Tn acI gQ nH ji 1000000
theorem Q8:∀f ps res,acJ f ps=some res→pC mx f ps res:=dG mixed cR Q7 bY 1000000
noncomputable def Xe:BI:=ry Tn acJ gQ nH ji 1000000
theorem Q9:∀f ps res,Xe f ps=some res→pC mx f ps res:=dG mixed cR Q8 bY 1000000
theorem Ra:(ke ⟨Tn,Xe,gQ,nH,ji⟩ 1000000 [.code K8] (Am.start 83 [W9])).data [(.tmp 2),(.tmp 3)]=some (.ep [.str yG,.int .i64 0]):=by kernel_rfl
theorem wlex:pC mx 169 [W9] (.ep [.str yG,.int .i64 0]):=
 cM (E:=⟨Tn,Xe,gQ,nH,ji⟩) mixed (eJ mixed cR) Q9 bY BF rfl 1000000 Ra
end Go.bW
end
