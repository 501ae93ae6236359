import Derived.Test.YtfaccbkibjkfjaaGreatDoorT41
import Derived.Test.YtfaccbkibjkfjaaGreatDoorT10
import Derived.Test.YtfaccbkibjkfjaaGreatDoorT43
set_option linter.all false
set_option maxRecDepth 100000
set_option maxHeartbeats 1000000
section
open Go Go.Am Go.Proofs Go.bt
namespace Go.bt
variable {mx:Int}
noncomputable def acd:BI:=upR Tn (o8 (lK)) gx (fun _=>false) iO 1000000
theorem P2:∀f ps res,acd f ps=some res→pC mx f ps res:=dE mixed cO (gP gD) bY 1000000
noncomputable def ace:BI:=upR Tn acd gx mB iO 1000000
theorem P3:∀f ps res,ace f ps=some res→pC mx f ps res:=dE mixed cO P2 bY 1000000
noncomputable def Wl:BI:=upR Tn ace gx mB iO 1000000
theorem P4:∀f ps res,Wl f ps=some res→pC mx f ps res:=dE mixed cO P3 bY 1000000
theorem P5:(jB ⟨Tn,Wl,gx,mB,iO⟩ 1000000 [.code UH] (Am.start 93 [fJ,.str [82,49],Ax])).data [(.cell 6 (some 3))]=some Y3:=by kernel_rfl
theorem wmsg:pC mx 86 [fJ,.str [82,49],Ax] Y3:=
 cI (E:=⟨Tn,Wl,gx,mB,iO⟩) mixed (eM mixed cO) P4 bY Jy rfl 1000000 P5
noncomputable def acf:BI:=upR Tn (o8 (lK)) gx (fun _=>false) iO 1000000
theorem P6:∀f ps res,acf f ps=some res→pC mx f ps res:=dE mixed cO (gP gD) bY 1000000
noncomputable def acg:BI:=upR Tn acf gx mB iO 1000000
theorem P7:∀f ps res,acg f ps=some res→pC mx f ps res:=dE mixed cO P6 bY 1000000
noncomputable def Wm:BI:=upR Tn acg gx mB iO 1000000
theorem P8:∀f ps res,Wm f ps=some res→pC mx f ps res:=dE mixed cO P7 bY 1000000
theorem HF:(jB ⟨Tn,Wm,gx,mB,iO⟩ 1000000 [.code UE] (Am.start 53 [fJ,Ax])).data [(.tmp 4)]=some (.bool true):=by kernel_rfl
theorem Wn:pC mx 38 [fJ,Ax] (.bool true):=
 cI (E:=⟨Tn,Wm,gx,mB,iO⟩) mixed (eM mixed cO) P8 bY Jw rfl 1000000 HF
def Gq:List (Nat×List PV×PV):=(85,[Gn],.eN [.str wX,.int .i64 0])::(86,[fJ,.str [82,49],Ax],Y3)::(38,[fJ,Ax],.bool true)::lK
theorem EF:eX Tryz.prog (GG mx) Gq:=aE wseg (aE wmsg (aE Wn gD))
noncomputable def acm:BI:=upR Tn (o8 (Gq)) gx (fun _=>false) Lh 1000000
theorem Qi:∀f ps res,acm f ps=some res→pC mx f ps res:=dE mixed cO (gP EF) bY 1000000
noncomputable def acn:BI:=upR Tn acm gx SH Lh 1000000
theorem Qj:∀f ps res,acn f ps=some res→pC mx f ps res:=dE mixed cO Qi bY 1000000
noncomputable def Wq:BI:=upR Tn acn gx SH Lh 1000000
theorem Qk:∀f ps res,Wq f ps=some res→pC mx f ps res:=dE mixed cO Qj bY 1000000
theorem Wr:(jB ⟨Tn,Wq,gx,SH,Lh⟩ 1000000 [.code UK] (Am.start 26 [fJ,.str [82,49],Ax])).data [(.tmp 6),(.tmp 7)]=some (.eN [.str wX,.int .i64 0]):=by kernel_rfl
theorem wr0:pC mx 36 [fJ,.str [82,49],Ax] (.eN [.str wX,.int .i64 0]):=
 cI (E:=⟨Tn,Wq,gx,SH,Lh⟩) mixed (eM mixed cO) Qk bY JB rfl 1000000 Wr
end Go.bt
end
