import Derived.Test.YtfaccbkibjkfjaaGreatDoorT29
import Derived.Test.YtfaccbkibjkfjaaGreatDoorT10
set_option linter.all false
set_option maxRecDepth 100000
set_option maxHeartbeats 1000000
section
open Go Go.Am Go.Proofs Go.bt
namespace Go.bt
variable {mx:Int}
theorem Pn:(jB ⟨Tn,fun _ _=>none,gx,fun _=>false,iO⟩ 1000000 [.code Ee] (Am.start 62 [.str Ld])).data [(.tmp 2),(.tmp 3),(.tmp 4)]=some lx1:=by kernel_rfl
theorem lex1:pC mx 96 [.str Ld] lx1:=
 cI (E:=⟨Tn,fun _ _=>none,gx,fun _=>false,iO⟩) mixed (eM mixed cO) (fun _ _ _ h=>by cases h) bY tj rfl 1000000 Pn
end Go.bt
end
