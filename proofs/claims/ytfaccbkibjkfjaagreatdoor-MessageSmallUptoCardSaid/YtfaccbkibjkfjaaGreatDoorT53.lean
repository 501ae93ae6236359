/- MessageSmall of the message layer holds for every input up to the size bound. The names in these texts were made short by a program. The names in these texts were made short by a program. -/
import Derived.Test.YtfaccbkibjkfjaaGreatDoorT52
set_option linter.all false
set_option maxRecDepth 100000
set_option maxHeartbeats 1000000
namespace Go.aA
open Go Go.Am Go.Proofs
open Go.ChangeShapes Go.WideShapes Go.ChangeAt Go.RowKit
open Go.Proofs.YtfaccbkibjkfjaaGreatDoor
theorem KW:Rows.MessageSmallUptoSaid:=OpenClaim.holds_of_cond 6 Tryz.f6 rfl rfl rfl rfl rfl rfl rfl ⟨rfl,rfl,rfl,rfl,rfl⟩ rfl rfl rfl rfl rfl Wh Tryz.func6 PX (qaZ (by as_aux_lemma=>kernel_rfl)) (by unfold Func.isWrapper;first|(rw[qao v_];kernel_rfl)|(rw[qai v_];exact⟨rfl,rfl⟩)) (fun b a H enc _ F=>by rw[OpenClaim.pre_eq_preRow];exact lifted b a H enc F)
theorem KX:Rows.MessageSmallUptoCardSaid:=Claim7.holds_tied_plain_at .later [] _ _ _ _ KW (fun _ h=>by cases h) (by as_aux_lemma=>kernel_rfl) (fun _ h=>by cases h) messageSmallUpto_row_tie rfl ⟨rfl,rfl⟩ (by as_aux_lemma=>kernel_rfl) rfl plain (by as_aux_lemma=>kernel_rfl)
end Go.aA
namespace Go.Proofs.YtfaccbkibjkfjaaGreatDoor
open Go Go.Am Go.Proofs
theorem messageSmall_upto:Rows.MessageSmallUptoCardSaid:=Go.aA.KX
end Go.Proofs.YtfaccbkibjkfjaaGreatDoor
