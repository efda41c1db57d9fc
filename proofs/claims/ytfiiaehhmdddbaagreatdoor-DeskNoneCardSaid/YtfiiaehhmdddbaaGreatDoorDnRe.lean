/-
  The claim.
-/
import Derived.Test.YtfiiaehhmdddbaaGreatDoorCards
import Derived.Test.YtfiiaehhmdddbaaGreatDoorTie
import Derived.WalkKit
import Derived.ProofKit
import Derived.OpenShut
import Derived.Deep.DeepHandedRow
import Derived.Test.YtfiiaehhmdddbaaGreatDoorDnRb
import Derived.Test.YtfiiaehhmdddbaaGreatDoorDnRc
set_option linter.all false
open Go Go.Dn Go.ChangeShapes Go.WideShapes Go.ChangeAt Go.RowKit
namespace Go.Proofs.YtfiiaehhmdddbaaGreatDoor.deskNone

theorem said : Rows.DeskNoneSaid :=
  OpenClaim.holds_of_cond 8 Tryz.f8 rfl rfl rfl rfl rfl rfl rfl ⟨rfl, rfl, rfl, rfl, rfl⟩ rfl rfl rfl rfl rfl (by kernel_rfl) Tryz.func8 jfacts2
    (of_decide_eq_true (by kernel_rfl)) (by unfold Func.isWrapper; first | (rw [if_pos (by decide +kernel)]; kernel_rfl) | (rw [if_neg (by decide +kernel)]; exact ⟨rfl, rfl⟩))
    (fun os started H enc _ F => by rw [OpenClaim.pre_eq_preRow]; exact lifted os started H enc F)
end Go.Proofs.YtfiiaehhmdddbaaGreatDoor.deskNone

