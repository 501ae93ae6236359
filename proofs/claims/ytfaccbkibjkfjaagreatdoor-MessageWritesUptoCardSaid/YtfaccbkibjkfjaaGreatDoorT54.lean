import Derived.Test.YtfaccbkibjkfjaaGreatDoorT50
import Derived.Test.YtfaccbkibjkfjaaGreatDoorT53
import Derived.Test.YtfaccbkibjkfjaaGreatDoorT41
set_option linter.all false
set_option maxRecDepth 100000
set_option maxHeartbeats 1000000
section
open Go Go.Am Go.Proofs Go.bW
namespace Go.bW
variable {mx:Int}
def HQ:List (Nat×List PV×PV):=(85,[HO],.ep [.str yG,.int .i64 0])::(86,[fJ,.str [82,49],BZ],Xa)::(38,[fJ,BZ],.bool true)::mL
theorem FY:eU Tryz.prog (GG mx) HQ:=aH wseg (aH wmsg (aH Xd gS))
noncomputable def acM:BI:=ry Tn (qL (HQ)) gQ (fun _=>false) Mq 1000000
theorem Rf:∀f ps res,acM f ps=some res→pC mx f ps res:=dG mixed cR (gY FY) bY 1000000
noncomputable def acN:BI:=ry Tn acM gQ TJ Mq 1000000
theorem Rg:∀f ps res,acN f ps=some res→pC mx f ps res:=dG mixed cR Rf bY 1000000
noncomputable def Xg:BI:=ry Tn acN gQ TJ Mq 1000000
theorem Rh:∀f ps res,Xg f ps=some res→pC mx f ps res:=dG mixed cR Rg bY 1000000
theorem Xh:(ke ⟨Tn,Xg,gQ,TJ,Mq⟩ 1000000 [.code V0] (Am.start 26 [fJ,.str [82,49],BZ])).data [(.tmp 6),(.tmp 7)]=some (.ep [.str yG,.int .i64 0]):=by kernel_rfl
theorem wr0:pC mx 36 [fJ,.str [82,49],BZ] (.ep [.str yG,.int .i64 0]):=
 cM (E:=⟨Tn,Xg,gQ,TJ,Mq⟩) mixed (eJ mixed cR) Rh bY Fb rfl 1000000 Xh
end Go.bW
end
