import Derived.Test.YtfaccbkibjkfjaaGreatDoorT39
import Derived.Test.YtfaccbkibjkfjaaGreatDoorT41
set_option linter.all false
set_option maxRecDepth 100000
set_option maxHeartbeats 1000000
section
open Go Go.Am Go.Proofs Go.bW
namespace Go.bW
variable {mx:Int}
def HM:List (Nat×List PV×PV):=(39,[.str Mo],sg3)::mL
theorem FV:eU Tryz.prog (GG mx) HM:=aH W5 gS
noncomputable def acy:BI:=ry Tn (qL HM) gQ (fun _=>false) ji 1000000
theorem QR:∀f ps res,acy f ps=some res→pC mx f ps res:=dG mixed cR (gY FV) bY 1000000
noncomputable def acz:BI:=ry Tn acy gQ nH ji 1000000
theorem QS:∀f ps res,acz f ps=some res→pC mx f ps res:=dG mixed cR QR bY 1000000
noncomputable def W6:BI:=ry Tn acz gQ nH ji 1000000
theorem QT:∀f ps res,W6 f ps=some res→pC mx f ps res:=dG mixed cR QS bY 1000000
theorem QU:(ke ⟨Tn,W6,gQ,nH,ji⟩ 1000000 [.code FO] (Am.start 178 [fJ,.str Mo])).data [(.tmp 4),(.cell 5 (some 4)),(.tmp 6)]=some ms3:=by kernel_rfl
theorem msg3:pC mx 37 [fJ,.str Mo] ms3:=
 cM (E:=⟨Tn,W6,gQ,nH,ji⟩) mixed (eJ mixed cR) QT bY uV rfl 1000000 QU
end Go.bW
end
