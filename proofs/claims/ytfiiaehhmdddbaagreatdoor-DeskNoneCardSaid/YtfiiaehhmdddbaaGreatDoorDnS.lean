/-
  The sum of an empty head.
-/
import Derived.Test.YtfiiaehhmdddbaaGreatDoorDnD
import Derived.Test.YtfiiaehhmdddbaaGreatDoorDnC
set_option linter.all false
open Go Go.Dn Go.Proofs
namespace Go.Dn
def muni (c : Bool) : D := .vs ([77, 85, 78, 73, 0, 0, 0, 0, 0, 0, 0, 0, 0, 0, 0, 0].map fun n => [D.int .u8 n]) c
def muniSum : D := .agg [.int .u8 223, .int .u8 197, .int .u8 13, .int .u8 250, .int .u8 173, .int .u8 184, .int .u8 241, .int .u8 53, .int .u8 187, .int .u8 64, .int .u8 63, .int .u8 182, .int .u8 197, .int .u8 33, .int .u8 12, .int .u8 113, .int .u8 7, .int .u8 183, .int .u8 201, .int .u8 62, .int .u8 221, .int .u8 154, .int .u8 100, .int .u8 202, .int .u8 15, .int .u8 172, .int .u8 110, .int .u8 89, .int .u8 39, .int .u8 236, .int .u8 196, .int .u8 224]
theorem sha_muni : (bodyD An Fn (denF An Fn 90) 90 159 0 [muni false] []).map Prod.fst = some muniSum := by kernel_rfl
end Go.Dn

