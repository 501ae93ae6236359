import Derived.Test.YtfaccbkibjkfjaaGreatDoorT42
import Derived.Test.YtfaccbkibjkfjaaGreatDoorT10
set_option linter.all false
set_option maxRecDepth 100000
set_option maxHeartbeats 1000000
section
open Go Go.Am Go.Proofs Go.bt
namespace Go.bt
variable {mx:Int}
def Gp:List (Nat×List PV×PV):=(169,[Wj],.eN [.str wX,.int .i64 0])::lK
theorem EE:eX Tryz.prog (GG mx) Gp:=aE wlex gD
noncomputable def acj:BI:=upR Tn (o8 (Gp)) gx (fun _=>false) Lh 1000000
theorem ahY:∀f ps res,acj f ps=some res→pC mx f ps res:=dE mixed cO (gP EE) bY 1000000
noncomputable def ack:BI:=upR Tn acj gx SH Lh 1000000
theorem Qf:∀f ps res,ack f ps=some res→pC mx f ps res:=dE mixed cO ahY bY 1000000
noncomputable def Wp:BI:=upR Tn ack gx SH Lh 1000000
theorem Qg:∀f ps res,Wp f ps=some res→pC mx f ps res:=dE mixed cO Qf bY 1000000
theorem ahZ:(jB ⟨Tn,Wp,gx,SH,Lh⟩ 1000000 [.code UJ] (Am.start 79 [Gn])).data [(.tmp 2),(.tmp 3)]=some (.eN [.str wX,.int .i64 0]):=by kernel_rfl
theorem wseg:pC mx 85 [Gn] (.eN [.str wX,.int .i64 0]):=
 cI (E:=⟨Tn,Wp,gx,SH,Lh⟩) mixed (eM mixed cO) Qg bY JA rfl 1000000 ahZ
end Go.bt
end
