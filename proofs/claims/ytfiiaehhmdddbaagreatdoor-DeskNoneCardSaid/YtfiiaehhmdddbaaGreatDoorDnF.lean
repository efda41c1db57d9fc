/-
  The closed example of the statements of layer 20.
-/
import Derived.Test.YtfiiaehhmdddbaaGreatDoorDnS
import Derived.Test.YtfiiaehhmdddbaaGreatDoorDnC
set_option linter.all false
open Go Go.Dn Go.Proofs
namespace Go.Dn
def orc (g : FuncId) (args : List D) : Option D := if g == 159 && D.sameL args [muni false] then some muniSum else none
theorem orc_ok (g : FuncId) (args : List D) (r : D) (h : orc g args = some r) : rb 0 r = true ∧ ∃ k h', bodyD An Fn (Lim An Fn) k g 0 args [] = some (r, h') := by
  unfold orc at h
  split at h
  · rename_i hc
    simp only [Bool.and_eq_true, beq_iff_eq] at hc
    obtain ⟨rfl, hs⟩ := hc
    have := sameL_eq hs
    subst this
    cases h
    have h1 := sha_muni
    simp only [Option.map_eq_some_iff, Prod.exists] at h1
    obtain ⟨a, h', h2, rfl⟩ := h1
    exact ⟨rfl, 90, h', bodyD_mono (le_Lim 90) (Nat.le_refl 90) h2⟩
  · cases h
def isTrueD : Option (D × H) → Bool
  | some (.bool true, _) => true
  | _ => false
theorem fit_den : isTrueD (bodyD An Fn (denO An Fn orc 99) 99 11 0 [] []) = true := by kernel_rfl
theorem fit_ok (f b : Nat) (h : H) : Lim An Fn f b 11 [] h = some (.bool true, h) := by
  have h1 := fit_den
  cases hb : bodyD An Fn (denO An Fn orc 99) 99 11 0 [] [] with
  | none => rw [hb] at h1; cases h1
  | some r =>
    rw [hb] at h1
    obtain ⟨d, h'⟩ := r
    have : d = .bool true := by
      unfold isTrueD at h1
      split at h1
      · rename_i e; simp only [Option.some.injEq, Prod.mk.injEq] at e; exact e.1
      · cases h1
    subst this
    exact Lim_auto' (by kernel_rfl) rfl (bodyD_mono (denO_le orc_ok 99) (Nat.le_refl 99) hb) rfl
end Go.Dn

