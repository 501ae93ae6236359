import Derived.Test.YtfaccbkibjkfjaaGreatDoorT40
import Derived.Test.YtfaccbkibjkfjaaGreatDoorT42
import Derived.Test.YtfaccbkibjkfjaaGreatDoorT10
set_option linter.all false
set_option maxRecDepth 100000
set_option maxHeartbeats 1000000
section
open Go Go.Am Go.Proofs Go.bt
namespace Go.bt
variable {mx:Int}
def Gq:List (Nat×List PV×PV):=(85,[Gn],.eN [.str wX,.int .i64 0])::(86,[fJ,.str [82,49],Ax],Y3)::(38,[fJ,Ax],.bool true)::lK
theorem EF:eX Tryz.prog (GG mx) Gq:=aE wseg (aE wmsg (aE Wn gD))
noncomputable def acm:BI:=qb Tn (o8 (Gq)) gx (fun _=>false) Lh 1000000
theorem Qi:∀f ps res,acm f ps=some res→pC mx f ps res:=dE mixed cO (gP EF) bY 1000000
noncomputable def acn:BI:=qb Tn acm gx SH Lh 1000000
theorem Qj:∀f ps res,acn f ps=some res→pC mx f ps res:=dE mixed cO Qi bY 1000000
noncomputable def Wq:BI:=qb Tn acn gx SH Lh 1000000
theorem Qk:∀f ps res,Wq f ps=some res→pC mx f ps res:=dE mixed cO Qj bY 1000000
theorem Wr:(jB ⟨Tn,Wq,gx,SH,Lh⟩ 1000000 [.code UK] (Am.start 26 [fJ,.str [82,49],Ax])).data [(.tmp 6),(.tmp 7)]=some (.eN [.str wX,.int .i64 0]):=by kernel_rfl
theorem wr0:pC mx 36 [fJ,.str [82,49],Ax] (.eN [.str wX,.int .i64 0]):=
 cI (E:=⟨Tn,Wq,gx,SH,Lh⟩) mixed (eM mixed cO) Qk bY JB rfl 1000000 Wr
end Go.bt
end
