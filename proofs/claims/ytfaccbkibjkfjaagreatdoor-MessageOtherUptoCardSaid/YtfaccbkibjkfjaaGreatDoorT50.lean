/- For all columns, covers, two lists of boxes and numbers: the sheets of the two plans have equal messages exactly if the sheets are equal, another reference makes another message, and what is given is left as it is; arguments and package variables hold together at most 1048576 values and letters. The names in these texts were made short by a program. -/
import Derived.Test.YtfaccbkibjkfjaaGreatDoorT49
import Derived.Test.YtfaccbkibjkfjaaGreatDoorT45
set_option linter.all false
set_option maxRecDepth 100000
set_option maxHeartbeats 1000000
section
open Go Go.Am Go.Proofs
namespace Go.bt
open Go.ChangeShapes Go.WideShapes Go.ChangeAt Go.RowKit
open Go.Proofs.YtfaccbkibjkfjaaGreatDoor
theorem KX (HB:∀m,bE Tryz.prog (GG m) 12 [] (.bool true)):Rows.MessageOtherUptoCardSaid:=
 Claim7.holds_tied_plain_at .later [] _ _ _ _ (KW HB) (fun _ h=>by cases h) (by as_aux_lemma=>kernel_rfl) (fun _ h=>by cases h) messageOtherUpto_row_tie rfl ⟨rfl,rfl⟩ (by as_aux_lemma=>kernel_rfl) rfl plain (by as_aux_lemma=>kernel_rfl)
end Go.bt
end
section
open Go Go.Am Go.Proofs
namespace Go.Proofs.YtfaccbkibjkfjaaGreatDoor
theorem messageOther_upto:Rows.MessageOtherUptoCardSaid:=Go.bt.KX fun m=>Go.bt.KZ (mx:=m)
end Go.Proofs.YtfaccbkibjkfjaaGreatDoor
end
