import Derived.Test.YtfaccbkibjkfjaaGreatDoorT39
import Derived.Test.YtfaccbkibjkfjaaGreatDoorT41
set_option linter.all false
set_option maxRecDepth 100000
set_option maxHeartbeats 1000000
section
open Go Go.Am Go.Proofs Go.bW
namespace Go.bW
variable {mx:Int}
def HK:List (Nat×List PV×PV):=(39,[.str Mm],sg1)::mL
theorem FT:eU Tryz.prog (GG mx) HK:=aH W1 gS
noncomputable def acu:BI:=ry Tn (qL HK) gQ (fun _=>false) ji 1000000
theorem QH:∀f ps res,acu f ps=some res→pC mx f ps res:=dG mixed cR (gY FT) bY 1000000
noncomputable def acv:BI:=ry Tn acu gQ nH ji 1000000
theorem QI:∀f ps res,acv f ps=some res→pC mx f ps res:=dG mixed cR QH bY 1000000
noncomputable def W2:BI:=ry Tn acv gQ nH ji 1000000
theorem QJ:∀f ps res,W2 f ps=some res→pC mx f ps res:=dG mixed cR QI bY 1000000
theorem QK:(ke ⟨Tn,W2,gQ,nH,ji⟩ 1000000 [.code FO] (Am.start 178 [fJ,.str Mm])).data [(.tmp 4),(.cell 5 (some 4)),(.tmp 6)]=some ms1:=by kernel_rfl
theorem msg1:pC mx 37 [fJ,.str Mm] ms1:=
 cM (E:=⟨Tn,W2,gQ,nH,ji⟩) mixed (eJ mixed cR) QJ bY uV rfl 1000000 QK
end Go.bW
end
