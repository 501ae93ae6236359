import Derived.Test.YtfaccbkibjkfjaaGreatDoorT32
import Derived.Test.YtfaccbkibjkfjaaGreatDoorT41
set_option linter.all false
set_option maxRecDepth 100000
set_option maxHeartbeats 1000000
section
open Go Go.Am Go.Proofs Go.bW
namespace Go.bW
variable {mx:Int}
theorem Qw:(ke ⟨Tn,fun _ _=>none,gQ,fun _=>false,ji⟩ 1000000 [.code FQ] (Am.start 62 [.str yG])).data [(.tmp 2),(.tmp 3),(.tmp 4)]=some lx0:=by kernel_rfl
theorem lex0:pC mx 96 [.str yG] lx0:=
 cM (E:=⟨Tn,fun _ _=>none,gQ,fun _=>false,ji⟩) mixed (eJ mixed cR) (fun _ _ _ h=>by cases h) bY uX rfl 1000000 Qw
end Go.bW
end
