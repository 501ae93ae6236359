import Derived.Test.YtfaccbkibjkfjaaGreatDoorT27
import Derived.Test.YtfaccbkibjkfjaaGreatDoorT41
set_option linter.all false
set_option maxRecDepth 100000
set_option maxHeartbeats 1000000
section
open Go Go.Am Go.Proofs
namespace Go.bW
open Go.ChangeShapes Go.WideShapes Go.ChangeAt Go.RowKit
open Go.Proofs.YtfaccbkibjkfjaaGreatDoor
theorem LG (K3:∀m,ar Tryz.prog (GG m) 12 [] (.bool true)):Rows.MessageWritesUptoCardSaid:=
 Claim7.holds_tied_plain_at .later [] _ _ _ _ (LF K3) (fun _ h=>by cases h) (by as_aux_lemma=>kernel_rfl) (fun _ h=>by cases h) messageWritesUpto_row_tie rfl ⟨rfl,rfl⟩ (by as_aux_lemma=>kernel_rfl) rfl plain (by as_aux_lemma=>kernel_rfl)
end Go.bW
end
