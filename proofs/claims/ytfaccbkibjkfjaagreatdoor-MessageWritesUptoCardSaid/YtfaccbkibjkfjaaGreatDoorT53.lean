import Derived.Test.YtfaccbkibjkfjaaGreatDoorT52
import Derived.Test.YtfaccbkibjkfjaaGreatDoorT41
set_option linter.all false
set_option maxRecDepth 100000
set_option maxHeartbeats 1000000
section
open Go Go.Am Go.Proofs Go.bW
namespace Go.bW
variable {mx:Int}
def HP:List (Nat×List PV×PV):=(169,[W9],.ep [.str yG,.int .i64 0])::mL
theorem FX:eU Tryz.prog (GG mx) HP:=aH wlex gS
noncomputable def acK:BI:=ry Tn (qL (HP)) gQ (fun _=>false) Mq 1000000
theorem Rb:∀f ps res,acK f ps=some res→pC mx f ps res:=dG mixed cR (gY FX) bY 1000000
noncomputable def acL:BI:=ry Tn acK gQ TJ Mq 1000000
theorem Rc:∀f ps res,acL f ps=some res→pC mx f ps res:=dG mixed cR Rb bY 1000000
noncomputable def Xf:BI:=ry Tn acL gQ TJ Mq 1000000
theorem Rd:∀f ps res,Xf f ps=some res→pC mx f ps res:=dG mixed cR Rc bY 1000000
theorem Re:(ke ⟨Tn,Xf,gQ,TJ,Mq⟩ 1000000 [.code VZ] (Am.start 79 [HO])).data [(.tmp 2),(.tmp 3)]=some (.ep [.str yG,.int .i64 0]):=by kernel_rfl
theorem wseg:pC mx 85 [HO] (.ep [.str yG,.int .i64 0]):=
 cM (E:=⟨Tn,Xf,gQ,TJ,Mq⟩) mixed (eJ mixed cR) Rd bY Fa rfl 1000000 Re
end Go.bW
end
