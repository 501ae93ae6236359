/- DrawAlone of the drawing layer holds for every input up to the size bound. The names in these texts were made short by a program. The names in these texts were made short by a program. -/
import Derived.Test.YtjclmfaodngbfaaGreatDoorT45
set_option linter.all false
set_option maxRecDepth 100000
set_option maxHeartbeats 1000000
namespace Go.bt
open Go Go.Am Go.Proofs
open Go.ChangeShapes Go.WideShapes Go.ChangeAt Go.RowKit
open Go.Proofs.YtjclmfaodngbfaaGreatDoor
theorem KW:Rows.DrawAloneUptoSaid:=OpenClaim.holds_of_cond 4 Tryz.f4 rfl rfl rfl rfl rfl rfl rfl ⟨rfl,rfl,rfl,rfl,rfl⟩ rfl rfl rfl rfl rfl Wh Tryz.func4 PX (of_decide_eq_true (by as_aux_lemma=>kernel_rfl)) (by unfold Func.isWrapper;first|(rw[if_pos (by decide+kernel)];kernel_rfl)|(rw[if_neg (by decide+kernel)];exact⟨rfl,rfl⟩)) (fun b a H enc _ F=>by rw[OpenClaim.pre_eq_preRow];exact lifted b a H enc F)
theorem KX:Rows.DrawAloneUptoCardSaid:=Claim7.holds_tied_plain_at .later [] _ _ _ _ KW (fun _ h=>by cases h) (by as_aux_lemma=>kernel_rfl) (fun _ h=>by cases h) drawAloneUpto_row_tie rfl ⟨rfl,rfl⟩ (by as_aux_lemma=>kernel_rfl) rfl plain (by as_aux_lemma=>kernel_rfl)
end Go.bt
namespace Go.Proofs.YtjclmfaodngbfaaGreatDoor
open Go Go.Am Go.Proofs
theorem drawAlone_upto:Rows.DrawAloneUptoCardSaid:=Go.bt.KX
end Go.Proofs.YtjclmfaodngbfaaGreatDoor
