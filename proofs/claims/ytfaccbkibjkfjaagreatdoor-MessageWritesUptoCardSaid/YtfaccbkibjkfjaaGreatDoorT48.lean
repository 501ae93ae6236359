import Derived.Test.YtfaccbkibjkfjaaGreatDoorT39
import Derived.Test.YtfaccbkibjkfjaaGreatDoorT41
set_option linter.all false
set_option maxRecDepth 100000
set_option maxHeartbeats 1000000
section
open Go Go.Am Go.Proofs Go.bW
namespace Go.bW
variable {mx:Int}
def HN:List (Nat×List PV×PV):=(39,[.str Mp],sg4)::mL
theorem FW:eU Tryz.prog (GG mx) HN:=aH W7 gS
noncomputable def acA:BI:=ry Tn (qL HN) gQ (fun _=>false) ji 1000000
theorem QW:∀f ps res,acA f ps=some res→pC mx f ps res:=dG mixed cR (gY FW) bY 1000000
noncomputable def acB:BI:=ry Tn acA gQ nH ji 1000000
theorem QX:∀f ps res,acB f ps=some res→pC mx f ps res:=dG mixed cR QW bY 1000000
noncomputable def W8:BI:=ry Tn acB gQ nH ji 1000000
theorem QY:∀f ps res,W8 f ps=some res→pC mx f ps res:=dG mixed cR QX bY 1000000
theorem QZ:(ke ⟨Tn,W8,gQ,nH,ji⟩ 1000000 [.code FO] (Am.start 178 [fJ,.str Mp])).data [(.tmp 4),(.cell 5 (some 4)),(.tmp 6)]=some ms4:=by kernel_rfl
theorem msg4:pC mx 37 [fJ,.str Mp] ms4:=
 cM (E:=⟨Tn,W8,gQ,nH,ji⟩) mixed (eJ mixed cR) QY bY uV rfl 1000000 QZ
end Go.bW
end
