/-
  The cells, as the claim has them.
-/
import Derived.Test.YtfiiaehhmdddbaaGreatDoorCards
import Derived.Test.YtfiiaehhmdddbaaGreatDoorTie
import Derived.WalkKit
import Derived.ProofKit
import Derived.OpenShut
import Derived.Deep.DeepHandedRow
import Derived.Test.YtfiiaehhmdddbaaGreatDoorDnJe
import Derived.Test.YtfiiaehhmdddbaaGreatDoorDnRb
set_option linter.all false
open Go Go.Dn Go.ChangeShapes Go.WideShapes Go.ChangeAt Go.RowKit
namespace Go.Proofs.YtfiiaehhmdddbaaGreatDoor.deskNone

theorem jfacts2 : joinedFacts Tryz.pinned.checked.prog 8 Tryz.f8 (OpenSpec.ofChange Rows.deskNoneSpec).bare Rows.deskNoneRow = true :=
  (show joinedFacts Tryz.pinned.checked.prog 8 Tryz.f8 (OpenSpec.ofChange Rows.deskNoneSpec).bare Rows.deskNoneRow = joinedFacts Tryz.prog 8 Tryz.f8 Rows.deskNoneSpec Rows.deskNoneRow by kernel_rfl).trans jfacts
end Go.Proofs.YtfiiaehhmdddbaaGreatDoor.deskNone

