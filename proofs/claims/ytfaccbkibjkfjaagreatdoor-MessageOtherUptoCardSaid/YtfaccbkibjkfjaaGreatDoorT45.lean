import Derived.Test.YtfaccbkibjkfjaaGreatDoorT36
import Derived.Test.YtfaccbkibjkfjaaGreatDoorT37
import Derived.Test.YtfaccbkibjkfjaaGreatDoorT38
import Derived.Test.YtfaccbkibjkfjaaGreatDoorT39
import Derived.Test.YtfaccbkibjkfjaaGreatDoorT40
import Derived.Test.YtfaccbkibjkfjaaGreatDoorT44
import Derived.Test.YtfaccbkibjkfjaaGreatDoorT10
set_option linter.all false
set_option maxRecDepth 100000
set_option maxHeartbeats 1000000
section
open Go Go.Am Go.Proofs Go.bt
namespace Go.bt
variable {mx:Int}
def txm:List UInt8:=[72,69,68,43,82,49,43,66,65,89,80,76,78,39,86,79,89,43,49,43,68,69,72,65,77,39,76,79,67,43,48,48,50,48,48,56,50,39,69,81,68,43,53,43,67,83,81,85,51,48,53,52,51,56,51,43,52,53,71,49,39,77,69,65,43,57,48,48,48,39,82,70,70,43,48,43,50,39,69,78,68,43,56,43,82,49,39]
def EG:List (Nat×List PV×PV):=[(27,[],fJ),
 (36,[fJ,.str [82,49],Ax],.eN [.str wX,.int .i64 0]),
 (37,[fJ,.str wX],ms0),
 (37,[fJ,.str Ld],ms1),
 (37,[fJ,.str Le],ms2),
 (37,[fJ,.str Lf],ms3),
 (37,[fJ,.str Lg],ms4),
 (41,[.str wX,.str [68,71,83,43,51,39],.str [],.int .i64 1],.str txm),
 (41,[.str txm,.str [69,78,68,43,56],.str [69,78,68,43,55],.int .i64 1],.str Ld),
 (41,[.str wX,.str [48,48,50,48,48,56,50],.str [48,48,50,48,48,56,52],.int .i64 1],.str Le),
 (41,[.str wX,.str [57,48,48,48],.str [48,57,48,48,48],.int .i64 1],.str Lf),
 (41,[.str wX,.str [66,65,89,80,76,78],.str [76,79,65,68,76,83],.int .i64 1],.str Lg)]
theorem HG:eX Tryz.prog (GG mx) EG:=
 aE (sh27) (
 aE (wr0) (
 aE (msg0) (
 aE (msg1) (
 aE (msg2) (
 aE (msg3) (
 aE (msg4) (
 aE (jG (by decide) (by decide) (by decide+kernel) (by decide+kernel)) (
 aE (jG (by decide) (by decide) (by decide+kernel) (by decide+kernel)) (
 aE (jG (by decide) (by decide) (by decide+kernel) (by decide+kernel)) (
 aE (jG (by decide) (by decide) (by decide+kernel) (by decide+kernel)) (
 aE (jG (by decide) (by decide) (by decide+kernel) (by decide+kernel)) (pR))))))))))))
theorem aco:(jB ⟨Tn,o8 EG,gx,xI [27,36,37],iO⟩ 1000000 [.code Vw] (Am.start 100 [])).data [(.tmp 0)]=some (.bool true):=by kernel_rfl
theorem KZ:pC mx 12 [] (.bool true):=
 cI (E:=⟨Tn,o8 EG,gx,xI [27,36,37],iO⟩) mixed (eM mixed cO) (gP HG) bY Kd rfl 1000000 aco
end Go.bt
end
