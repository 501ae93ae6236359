/- MessageBack of the message layer holds for every input up to the size bound. The names in these texts were made short by a program. The names in these texts were made short by a program. -/
import Derived.Test.YtfaccbkibjkfjaaGreatDoorT48
set_option linter.all false
set_option maxRecDepth 100000
set_option maxHeartbeats 1000000
namespace Go.bt
open Go Go.Am Go.Proofs
open Go.ChangeShapes Go.WideShapes Go.ChangeAt Go.RowKit
open Go.Proofs.YtfaccbkibjkfjaaGreatDoor
theorem KW(b:∀m,bE Tryz.prog (GG m) 12 [] (.bool true)):Rows.MessageBackUptoSaid:=OpenClaim.holds_of_cond 10 Tryz.f10 rfl rfl rfl rfl rfl rfl rfl ⟨rfl,rfl,rfl,rfl,rfl⟩ rfl rfl rfl rfl rfl Wh Tryz.func10 PX (qaZ (by as_aux_lemma=>kernel_rfl)) (by unfold Func.isWrapper;first|(rw[qao v_];kernel_rfl)|(rw[qai v_];exact⟨rfl,rfl⟩)) (fun c a H enc _ F=>by rw[OpenClaim.pre_eq_preRow];exact lifted b c a H enc F)
theorem KX(a:∀m,bE Tryz.prog (GG m) 12 [] (.bool true)):Rows.MessageBackUptoCardSaid:=Claim7.holds_tied_plain_at .later [] _ _ _ _ (KW a) (fun _ h=>by cases h) (by as_aux_lemma=>kernel_rfl) (fun _ h=>by cases h) messageBackUpto_row_tie rfl ⟨rfl,rfl⟩ (by as_aux_lemma=>kernel_rfl) rfl plain (by as_aux_lemma=>kernel_rfl)
end Go.bt
namespace Go.Proofs.YtfaccbkibjkfjaaGreatDoor
open Go Go.Am Go.Proofs
theorem messageBack_upto:Rows.MessageBackUptoCardSaid:=Go.bt.KX fun m=>Go.bt.aiI (mx:=m)
end Go.Proofs.YtfaccbkibjkfjaaGreatDoor
