import Derived.Test.YtfaccbkibjkfjaaGreatDoorT41
import Derived.Test.YtfaccbkibjkfjaaGreatDoorT10
set_option linter.all false
set_option maxRecDepth 100000
set_option maxHeartbeats 1000000
section
open Go Go.Am Go.Proofs Go.bt
namespace Go.bt
variable {mx:Int}
noncomputable def ach:BI:=upR Tn (o8 (KY)) gx (fun _=>false) iO 1000000
theorem V8:∀f ps res,ach f ps=some res→pC mx f ps res:=dE mixed cO (gP HE) bY 1000000
noncomputable def aci:BI:=upR Tn ach gx mB iO 1000000
theorem Qb:∀f ps res,aci f ps=some res→pC mx f ps res:=dE mixed cO V8 bY 1000000
noncomputable def Wo:BI:=upR Tn aci gx mB iO 1000000
theorem Qc:∀f ps res,Wo f ps=some res→pC mx f ps res:=dE mixed cO Qb bY 1000000
theorem Qd:(jB ⟨Tn,Wo,gx,mB,iO⟩ 1000000 [.code Jz] (Am.start 83 [Wj])).data [(.tmp 2),(.tmp 3)]=some (.eN [.str wX,.int .i64 0]):=by kernel_rfl
theorem wlex:pC mx 169 [Wj] (.eN [.str wX,.int .i64 0]):=
 cI (E:=⟨Tn,Wo,gx,mB,iO⟩) mixed (eM mixed cO) Qc bY FU rfl 1000000 Qd
end Go.bt
end
