/-
  The row's cells.
-/
import Derived.Test.YtfiiaehhmdddbaaGreatDoorCards
import Derived.Test.YtfiiaehhmdddbaaGreatDoorTie
import Derived.WalkKit
import Derived.ProofKit
import Derived.OpenShut
import Derived.Deep.DeepHandedRow
set_option linter.all false
open Go Go.ChangeShapes Go.WideShapes Go.ChangeAt Go.RowKit
namespace Go.Proofs.YtfiiaehhmdddbaaGreatDoor.deskNone
set_option maxRecDepth 100000 in
theorem jf1 : (laidOutB Tryz.prog) = true := by kernel_rfl
set_option maxRecDepth 100000 in
theorem jf12 : ((Rows.deskNoneRow.named == Tryz.prog.varsNamed 8)) = true := by kernel_rfl
end Go.Proofs.YtfiiaehhmdddbaaGreatDoor.deskNone

