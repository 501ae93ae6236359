import Derived.Test.YtfaccbkibjkfjaaGreatDoorT48
import Derived.Test.YtfaccbkibjkfjaaGreatDoorT10
set_option linter.all false
set_option maxRecDepth 100000
set_option maxHeartbeats 1000000
section
open Go Go.Am Go.Proofs
namespace Go.bt
open Go.ChangeShapes Go.WideShapes Go.ChangeAt Go.RowKit
open Go.Proofs.YtfaccbkibjkfjaaGreatDoor
theorem KX (HB:∀m,bE Tryz.prog (GG m) 12 [] (.bool true)):Rows.MessageWrongUptoCardSaid:=
 Claim7.holds_tied_plain_at .later [] _ _ _ _ (KW HB) (fun _ h=>by cases h) (by as_aux_lemma=>kernel_rfl) (fun _ h=>by cases h) messageWrongUpto_row_tie rfl ⟨rfl,rfl⟩ (by as_aux_lemma=>kernel_rfl) rfl plain (by as_aux_lemma=>kernel_rfl)
end Go.bt
end
