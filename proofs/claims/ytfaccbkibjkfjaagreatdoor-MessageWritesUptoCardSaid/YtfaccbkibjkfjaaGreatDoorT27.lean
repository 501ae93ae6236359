import Derived.Test.YtfaccbkibjkfjaaGreatDoorT26
import Derived.Test.YtfaccbkibjkfjaaGreatDoorT41
set_option linter.all false
set_option maxRecDepth 100000
set_option maxHeartbeats 1000000
section
open Go Go.Am Go.Proofs
namespace Go.bW
open Go.ChangeShapes Go.WideShapes Go.ChangeAt Go.RowKit
open Go.Proofs.YtfaccbkibjkfjaaGreatDoor
theorem LF (K3:∀m,ar Tryz.prog (GG m) 12 [] (.bool true)):Rows.MessageWritesUptoSaid:=
 OpenClaim.holds_of_cond 3 Tryz.f3 rfl rfl rfl rfl rfl rfl rfl ⟨rfl,rfl,rfl,rfl,rfl⟩ rfl rfl rfl rfl rfl WC Tryz.func3 PH
  (of_decide_eq_true (by as_aux_lemma=>kernel_rfl)) (by unfold Func.isWrapper;first|(rw[if_pos (by decide+kernel)];kernel_rfl)|(rw[if_neg (by decide+kernel)];exact⟨rfl,rfl⟩))
  (fun os started H enc _ F=>by rw[OpenClaim.pre_eq_preRow];exact lifted K3 os started H enc F)
end Go.bW
end
