import Derived.Test.YtfaccbkibjkfjaaGreatDoorT29
import Derived.Test.YtfaccbkibjkfjaaGreatDoorT10
set_option linter.all false
set_option maxRecDepth 100000
set_option maxHeartbeats 1000000
section
open Go Go.Am Go.Proofs Go.bt
namespace Go.bt
variable {mx:Int}
theorem Pm:(jB ⟨Tn,fun _ _=>none,gx,fun _=>false,iO⟩ 1000000 [.code Ee] (Am.start 62 [.str wX])).data [(.tmp 2),(.tmp 3),(.tmp 4)]=some lx0:=by kernel_rfl
theorem lex0:pC mx 96 [.str wX] lx0:=
 cI (E:=⟨Tn,fun _ _=>none,gx,fun _=>false,iO⟩) mixed (eM mixed cO) (fun _ _ _ h=>by cases h) bY tj rfl 1000000 Pm
end Go.bt
end
