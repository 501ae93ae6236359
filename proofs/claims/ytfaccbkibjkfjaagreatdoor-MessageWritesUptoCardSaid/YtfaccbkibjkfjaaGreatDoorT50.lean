import Derived.Test.YtfaccbkibjkfjaaGreatDoorT49
import Derived.Test.YtfaccbkibjkfjaaGreatDoorT41
set_option linter.all false
set_option maxRecDepth 100000
set_option maxHeartbeats 1000000
section
open Go Go.Am Go.Proofs Go.bW
namespace Go.bW
variable {mx:Int}
noncomputable def acE:BI:=ry Tn (qL (mL)) gQ (fun _=>false) ji 1000000
theorem Q0:∀f ps res,acE f ps=some res→pC mx f ps res:=dG mixed cR (gY gS) bY 1000000
noncomputable def acF:BI:=ry Tn acE gQ nH ji 1000000
theorem Q1:∀f ps res,acF f ps=some res→pC mx f ps res:=dG mixed cR Q0 bY 1000000
noncomputable def Xb:BI:=ry Tn acF gQ nH ji 1000000
theorem Q2:∀f ps res,Xb f ps=some res→pC mx f ps res:=dG mixed cR Q1 bY 1000000
theorem Q3:(ke ⟨Tn,Xb,gQ,nH,ji⟩ 1000000 [.code VY] (Am.start 93 [fJ,.str [82,49],BZ])).data [(.cell 6 (some 3))]=some Xa:=by kernel_rfl
theorem wmsg:pC mx 86 [fJ,.str [82,49],BZ] Xa:=
 cM (E:=⟨Tn,Xb,gQ,nH,ji⟩) mixed (eJ mixed cR) Q2 bY E9 rfl 1000000 Q3
end Go.bW
end
section
open Go Go.Am Go.Proofs Go.bW
namespace Go.bW
variable {mx:Int}
noncomputable def acG:BI:=ry Tn (qL (mL)) gQ (fun _=>false) ji 1000000
theorem Q4:∀f ps res,acG f ps=some res→pC mx f ps res:=dG mixed cR (gY gS) bY 1000000
noncomputable def acH:BI:=ry Tn acG gQ nH ji 1000000
theorem Q5:∀f ps res,acH f ps=some res→pC mx f ps res:=dG mixed cR Q4 bY 1000000
noncomputable def Xc:BI:=ry Tn acH gQ nH ji 1000000
theorem Q6:∀f ps res,Xc f ps=some res→pC mx f ps res:=dG mixed cR Q5 bY 1000000
theorem I4:(ke ⟨Tn,Xc,gQ,nH,ji⟩ 1000000 [.code VA] (Am.start 53 [fJ,BZ])).data [(.tmp 4)]=some (.bool true):=by kernel_rfl
theorem Xd:pC mx 38 [fJ,BZ] (.bool true):=
 cM (E:=⟨Tn,Xc,gQ,nH,ji⟩) mixed (eJ mixed cR) Q6 bY EX rfl 1000000 I4
end Go.bW
end
