/- MessageReads of the message layer holds for every input up to the size bound. The names in these texts were made short by a program. -/
import Derived.Test.YtfaccbkibjkfjaaGreatDoorT51
import Derived.Test.YtfaccbkibjkfjaaGreatDoorT52
set_option linter.all false
set_option maxRecDepth 100000
namespace Go.aA
open Go Go.Am Go.Proofs
open Go.ChangeShapes Go.WideShapes Go.ChangeAt Go.RowKit
open Go.Proofs.YtfaccbkibjkfjaaGreatDoor
theorem KW(b:∀m,bE Tryz.prog (GG m) 12 [] (.bool true)):Rows.MessageReadsUptoSaid:=OpenClaim.holds_of_cond 4 Tryz.f4 rfl rfl rfl rfl rfl rfl rfl ⟨rfl,rfl,rfl,rfl,rfl⟩ rfl rfl rfl rfl rfl Wh Tryz.func4 PX (qaZ (by as_aux_lemma=>kernel_rfl)) (by unfold Func.isWrapper;first|(rw[qao v_];kernel_rfl)|(rw[qai v_];exact⟨rfl,rfl⟩)) (fun c a H enc _ F=>by rw[OpenClaim.pre_eq_preRow];exact lifted b c a H enc F)
theorem KX(a:∀m,bE Tryz.prog (GG m) 12 [] (.bool true)):Rows.MessageReadsUptoCardSaid:=Claim7.holds_tied_plain_at .later [] _ _ _ _ (KW a) (fun _ h=>by cases h) (by as_aux_lemma=>kernel_rfl) (fun _ h=>by cases h) messageReadsUpto_row_tie rfl ⟨rfl,rfl⟩ (by as_aux_lemma=>kernel_rfl) rfl plain (by as_aux_lemma=>kernel_rfl)
end Go.aA
namespace Go.Proofs.YtfaccbkibjkfjaaGreatDoor
open Go Go.Am Go.Proofs
theorem messageReads_upto:Rows.MessageReadsUptoCardSaid:=Go.aA.KX fun m=>Go.aA.aiI (mx:=m)
end Go.Proofs.YtfaccbkibjkfjaaGreatDoor
