import Derived.Test.YtfaccbkibjkfjaaGreatDoorT39
import Derived.Test.YtfaccbkibjkfjaaGreatDoorT41
set_option linter.all false
set_option maxRecDepth 100000
set_option maxHeartbeats 1000000
section
open Go Go.Am Go.Proofs Go.bW
namespace Go.bW
variable {mx:Int}
def HL:List (Nat×List PV×PV):=(39,[.str Mn],sg2)::mL
theorem FU:eU Tryz.prog (GG mx) HL:=aH W3 gS
noncomputable def acw:BI:=ry Tn (qL HL) gQ (fun _=>false) ji 1000000
theorem QM:∀f ps res,acw f ps=some res→pC mx f ps res:=dG mixed cR (gY FU) bY 1000000
noncomputable def acx:BI:=ry Tn acw gQ nH ji 1000000
theorem QN:∀f ps res,acx f ps=some res→pC mx f ps res:=dG mixed cR QM bY 1000000
noncomputable def W4:BI:=ry Tn acx gQ nH ji 1000000
theorem QO:∀f ps res,W4 f ps=some res→pC mx f ps res:=dG mixed cR QN bY 1000000
theorem QP:(ke ⟨Tn,W4,gQ,nH,ji⟩ 1000000 [.code FO] (Am.start 178 [fJ,.str Mn])).data [(.tmp 4),(.cell 5 (some 4)),(.tmp 6)]=some ms2:=by kernel_rfl
theorem msg2:pC mx 37 [fJ,.str Mn] ms2:=
 cM (E:=⟨Tn,W4,gQ,nH,ji⟩) mixed (eJ mixed cR) QO bY uV rfl 1000000 QP
end Go.bW
end
