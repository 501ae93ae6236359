import Derived.Test.YtfaccbkibjkfjaaGreatDoorT40
import Derived.Test.YtfaccbkibjkfjaaGreatDoorT42
import Derived.Test.YtfaccbkibjkfjaaGreatDoorT44
import Derived.Test.YtfaccbkibjkfjaaGreatDoorT46
import Derived.Test.YtfaccbkibjkfjaaGreatDoorT48
import Derived.Test.YtfaccbkibjkfjaaGreatDoorT54
import Derived.Test.YtfaccbkibjkfjaaGreatDoorT41
set_option linter.all false
set_option maxRecDepth 100000
set_option maxHeartbeats 1000000
section
open Go Go.Am Go.Proofs Go.bW
namespace Go.bW
variable {mx:Int}
def txm:List UInt8:=[72,69,68,43,82,49,43,66,65,89,80,76,78,39,86,79,89,43,49,43,68,69,72,65,77,39,76,79,67,43,48,48,50,48,48,56,50,39,69,81,68,43,53,43,67,83,81,85,51,48,53,52,51,56,51,43,52,53,71,49,39,77,69,65,43,57,48,48,48,39,82,70,70,43,48,43,50,39,69,78,68,43,56,43,82,49,39]
def FZ:List (Nat×List PV×PV):=[(27,[],fJ),
 (36,[fJ,.str [82,49],BZ],.ep [.str yG,.int .i64 0]),
 (37,[fJ,.str yG],ms0),
 (37,[fJ,.str Mm],ms1),
 (37,[fJ,.str Mn],ms2),
 (37,[fJ,.str Mo],ms3),
 (37,[fJ,.str Mp],ms4),
 (41,[.str yG,.str [68,71,83,43,51,39],.str [],.int .i64 1],.str txm),
 (41,[.str txm,.str [69,78,68,43,56],.str [69,78,68,43,55],.int .i64 1],.str Mm),
 (41,[.str yG,.str [48,48,50,48,48,56,50],.str [48,48,50,48,48,56,52],.int .i64 1],.str Mn),
 (41,[.str yG,.str [57,48,48,48],.str [48,57,48,48,48],.int .i64 1],.str Mo),
 (41,[.str yG,.str [66,65,89,80,76,78],.str [76,79,65,68,76,83],.int .i64 1],.str Mp)]
theorem I5:eU Tryz.prog (GG mx) FZ:=
 aH (sh27) (
 aH (wr0) (
 aH (msg0) (
 aH (msg1) (
 aH (msg2) (
 aH (msg3) (
 aH (msg4) (
 aH (kf (by decide) (by decide) (by decide+kernel) (by decide+kernel)) (
 aH (kf (by decide) (by decide) (by decide+kernel) (by decide+kernel)) (
 aH (kf (by decide) (by decide) (by decide+kernel) (by decide+kernel)) (
 aH (kf (by decide) (by decide) (by decide+kernel) (by decide+kernel)) (
 aH (kf (by decide) (by decide) (by decide+kernel) (by decide+kernel)) (rb))))))))))))
theorem acO:(ke ⟨Tn,qL FZ,gQ,za [27,36,37],ji⟩ 1000000 [.code WM] (Am.start 100 [])).data [(.tmp 0)]=some (.bool true):=by kernel_rfl
theorem L7:pC mx 12 [] (.bool true):=
 cM (E:=⟨Tn,qL FZ,gQ,za [27,36,37],ji⟩) mixed (eJ mixed cR) (gY I5) bY LZ rfl 1000000 acO
end Go.bW
end
