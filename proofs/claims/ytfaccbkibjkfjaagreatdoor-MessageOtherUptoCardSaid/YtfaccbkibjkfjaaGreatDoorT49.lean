import Derived.Test.YtfaccbkibjkfjaaGreatDoorT48
set_option linter.all false
set_option maxRecDepth 100000
set_option maxHeartbeats 1000000
section
open Go Go.Am Go.Proofs
namespace Go.bt
open Go.ChangeShapes Go.WideShapes Go.ChangeAt Go.RowKit
open Go.Proofs.YtfaccbkibjkfjaaGreatDoor
theorem KW (HB:∀m,bE Tryz.prog (GG m) 12 [] (.bool true)):Rows.MessageOtherUptoSaid:=
 OpenClaim.holds_of_cond 8 Tryz.f8 rfl rfl rfl rfl rfl rfl rfl ⟨rfl,rfl,rfl,rfl,rfl⟩ rfl rfl rfl rfl rfl Wh Tryz.func8 PX
  (qaZ (by as_aux_lemma=>kernel_rfl)) (by unfold Func.isWrapper;first|(rw[qao (by decide+kernel)];kernel_rfl)|(rw[qai (by decide+kernel)];exact⟨rfl,rfl⟩))
  (fun os started H enc _ F=>by rw[OpenClaim.pre_eq_preRow];exact lifted HB os started H enc F)
end Go.bt
end
