import Derived.Test.YtjclmfaodngbfaaGreatDoorT31
import Derived.Test.YtjclmfaodngbfaaGreatDoorT32
import Derived.Test.YtjclmfaodngbfaaGreatDoorT15
import Derived.Test.YtjclmfaodngbfaaGreatDoorT14
import Derived.Test.YtjclmfaodngbfaaGreatDoorT07
import Derived.Test.YtjclmfaodngbfaaGreatDoorT09
set_option linter.all false
set_option maxRecDepth 100000
set_option maxHeartbeats 1000000
namespace Go.bt
open Go Go.Am Go.Proofs
open Classical
attribute [local irreducible] Am.bp.holds bH fw bP ek
variable {mx:Int}
theorem Fv{cl:List aL}{vl:List bz}{l:List aH}(d:ak cl vl l)(e:cl.length<=12){a:Int}(f:a∈a7 cl):∀x∈ar cl vl l a,x.length<=1000:=fun x b=>by have g:=wC d (bay:=a);have h:=kU (cl:=cl) (bay:=a);have i:=zT d.1 f;have c:ar cl vl l a=([98,97,121,32]++digits a.toNat)::(ar cl vl l a).tail:=by{unfold ar;rfl};rw[c]at b;rcases List.mem_cons.1 b with rfl|b;{have:(digits a.toNat).length<=40:=by{have:=wj (k:=2) (n:=a.toNat) (by decide) (by omega);omega};simp;omega};rw[g x b];omega
end Go.bt
