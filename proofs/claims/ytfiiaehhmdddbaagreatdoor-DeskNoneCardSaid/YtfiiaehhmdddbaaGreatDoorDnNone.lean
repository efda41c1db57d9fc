/-
  THE STATEMENT DeskNoneCardSaid IS PROVED: a desk that is none has nothing, and does nothing; without conditions of our own.
-/
import Derived.Test.YtfiiaehhmdddbaaGreatDoorCards
import Derived.Test.YtfiiaehhmdddbaaGreatDoorTie
import Derived.WalkKit
import Derived.ProofKit
import Derived.OpenShut
import Derived.Deep.DeepHandedRow
import Derived.Test.YtfiiaehhmdddbaaGreatDoorDnRe
import Derived.Test.YtfiiaehhmdddbaaGreatDoorDnRd
import Derived.Test.YtfiiaehhmdddbaaGreatDoorDnRg
set_option linter.all false
open Go Go.Dn Go.ChangeShapes Go.WideShapes Go.ChangeAt Go.RowKit
namespace Go.Proofs.YtfiiaehhmdddbaaGreatDoor.deskNone

theorem card : Rows.DeskNoneCardSaid :=
  Claim7.holds_tied_plain_at .later [] _ _ _ _ said (fun _ h => by cases h) c1 (fun _ h => by cases h) deskNone_row_tie rfl ⟨rfl, rfl⟩ c2 rfl plain c3
end Go.Proofs.YtfiiaehhmdddbaaGreatDoor.deskNone


namespace Go.Proofs.YtfiiaehhmdddbaaGreatDoor
theorem deskNone_card : Rows.DeskNoneCardSaid := deskNone.card
#print axioms deskNone_card
end Go.Proofs.YtfiiaehhmdddbaaGreatDoor
