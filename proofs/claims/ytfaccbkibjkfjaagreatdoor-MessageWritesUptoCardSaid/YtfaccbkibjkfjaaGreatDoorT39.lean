import Derived.Test.YtfaccbkibjkfjaaGreatDoorT38
import Derived.Test.YtfaccbkibjkfjaaGreatDoorT41
set_option linter.all false
set_option maxRecDepth 100000
set_option maxHeartbeats 1000000
section
open Go Go.Am Go.Proofs Go.bW
namespace Go.bW
variable {mx:Int}
theorem QB:(ke ⟨Tn,B5,gQ,nH,ji⟩ 1000000 [.code FP] (Am.start 79 [.str yG])).data [(.tmp 2),(.tmp 3),(.tmp 4)]=some sg0:=by kernel_rfl
theorem WZ:pC mx 39 [.str yG] sg0:=
 cM (E:=⟨Tn,B5,gQ,nH,ji⟩) mixed (eJ mixed cR) DU bY uW rfl 1000000 QB
end Go.bW
end
section
open Go Go.Am Go.Proofs Go.bW
namespace Go.bW
variable {mx:Int}
theorem QG:(ke ⟨Tn,B5,gQ,nH,ji⟩ 1000000 [.code FP] (Am.start 79 [.str Mm])).data [(.tmp 2),(.tmp 3),(.tmp 4)]=some sg1:=by kernel_rfl
theorem W1:pC mx 39 [.str Mm] sg1:=
 cM (E:=⟨Tn,B5,gQ,nH,ji⟩) mixed (eJ mixed cR) DU bY uW rfl 1000000 QG
end Go.bW
end
section
open Go Go.Am Go.Proofs Go.bW
namespace Go.bW
variable {mx:Int}
theorem QL:(ke ⟨Tn,B5,gQ,nH,ji⟩ 1000000 [.code FP] (Am.start 79 [.str Mn])).data [(.tmp 2),(.tmp 3),(.tmp 4)]=some sg2:=by kernel_rfl
theorem W3:pC mx 39 [.str Mn] sg2:=
 cM (E:=⟨Tn,B5,gQ,nH,ji⟩) mixed (eJ mixed cR) DU bY uW rfl 1000000 QL
end Go.bW
end
section
open Go Go.Am Go.Proofs Go.bW
namespace Go.bW
variable {mx:Int}
theorem QQ:(ke ⟨Tn,B5,gQ,nH,ji⟩ 1000000 [.code FP] (Am.start 79 [.str Mo])).data [(.tmp 2),(.tmp 3),(.tmp 4)]=some sg3:=by kernel_rfl
theorem W5:pC mx 39 [.str Mo] sg3:=
 cM (E:=⟨Tn,B5,gQ,nH,ji⟩) mixed (eJ mixed cR) DU bY uW rfl 1000000 QQ
end Go.bW
end
section
open Go Go.Am Go.Proofs Go.bW
namespace Go.bW
variable {mx:Int}
theorem QV:(ke ⟨Tn,B5,gQ,nH,ji⟩ 1000000 [.code FP] (Am.start 79 [.str Mp])).data [(.tmp 2),(.tmp 3),(.tmp 4)]=some sg4:=by kernel_rfl
theorem W7:pC mx 39 [.str Mp] sg4:=
 cM (E:=⟨Tn,B5,gQ,nH,ji⟩) mixed (eJ mixed cR) DU bY uW rfl 1000000 QV
end Go.bW
end
