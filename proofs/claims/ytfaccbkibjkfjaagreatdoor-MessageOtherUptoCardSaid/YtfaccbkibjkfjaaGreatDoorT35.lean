import Derived.Test.YtfaccbkibjkfjaaGreatDoorT30
import Derived.Test.YtfaccbkibjkfjaaGreatDoorT31
import Derived.Test.YtfaccbkibjkfjaaGreatDoorT32
import Derived.Test.YtfaccbkibjkfjaaGreatDoorT33
import Derived.Test.YtfaccbkibjkfjaaGreatDoorT34
import Derived.Test.YtfaccbkibjkfjaaGreatDoorT10
set_option linter.all false
set_option maxRecDepth 100000
set_option maxHeartbeats 1000000
section
open Go Go.Am Go.Proofs Go.bt
namespace Go.bt
variable {mx:Int}
def KH:List (Nat×List PV×PV):=[(96,[.str wX],lx0),(96,[.str Ld],lx1),(96,[.str Le],lx2),(96,[.str Lf],lx3),(96,[.str Lg],lx4)]
theorem Hy:eX Tryz.prog (GG mx) KH:=aE lex0 (aE lex1 (aE lex2 (aE lex3 (aE lex4 (pR)))))
noncomputable def B5:BI:=upR Tn (o8 (KH++lK)) gx mB iO 1000000
theorem CF:∀f ps res,B5 f ps=some res→pC mx f ps res:=dE mixed cO (gP (yG Hy gD)) bY 1000000
theorem Pr:(jB ⟨Tn,B5,gx,mB,iO⟩ 1000000 [.code Ed] (Am.start 79 [.str wX])).data [(.tmp 2),(.tmp 3),(.tmp 4)]=some sg0:=by kernel_rfl
theorem VX:pC mx 39 [.str wX] sg0:=
 cI (E:=⟨Tn,B5,gx,mB,iO⟩) mixed (eM mixed cO) CF bY th rfl 1000000 Pr
theorem Ps:(jB ⟨Tn,B5,gx,mB,iO⟩ 1000000 [.code Ed] (Am.start 79 [.str Ld])).data [(.tmp 2),(.tmp 3),(.tmp 4)]=some sg1:=by kernel_rfl
theorem VY:pC mx 39 [.str Ld] sg1:=
 cI (E:=⟨Tn,B5,gx,mB,iO⟩) mixed (eM mixed cO) CF bY th rfl 1000000 Ps
theorem Pt:(jB ⟨Tn,B5,gx,mB,iO⟩ 1000000 [.code Ed] (Am.start 79 [.str Le])).data [(.tmp 2),(.tmp 3),(.tmp 4)]=some sg2:=by kernel_rfl
theorem VZ:pC mx 39 [.str Le] sg2:=
 cI (E:=⟨Tn,B5,gx,mB,iO⟩) mixed (eM mixed cO) CF bY th rfl 1000000 Pt
theorem Pu:(jB ⟨Tn,B5,gx,mB,iO⟩ 1000000 [.code Ed] (Am.start 79 [.str Lf])).data [(.tmp 2),(.tmp 3),(.tmp 4)]=some sg3:=by kernel_rfl
theorem V0:pC mx 39 [.str Lf] sg3:=
 cI (E:=⟨Tn,B5,gx,mB,iO⟩) mixed (eM mixed cO) CF bY th rfl 1000000 Pu
theorem Pv:(jB ⟨Tn,B5,gx,mB,iO⟩ 1000000 [.code Ed] (Am.start 79 [.str Lg])).data [(.tmp 2),(.tmp 3),(.tmp 4)]=some sg4:=by kernel_rfl
theorem V1:pC mx 39 [.str Lg] sg4:=
 cI (E:=⟨Tn,B5,gx,mB,iO⟩) mixed (eM mixed cO) CF bY th rfl 1000000 Pv
end Go.bt
end
