/-
  The contract.
-/
import Derived.Test.YtfiiaehhmdddbaaGreatDoorCards
import Derived.Test.YtfiiaehhmdddbaaGreatDoorTie
import Derived.WalkKit
import Derived.ProofKit
import Derived.OpenShut
import Derived.Deep.DeepHandedRow
import Derived.Test.YtfiiaehhmdddbaaGreatDoorDnH
import Derived.Test.YtfiiaehhmdddbaaGreatDoorDnG
set_option linter.all false
open Go Go.Dn Go.ChangeShapes Go.WideShapes Go.ChangeAt Go.RowKit
namespace Go.Proofs.YtfiiaehhmdddbaaGreatDoor.deskNone

theorem own : ownKnob Tryz.prog.godebug = none := by kernel_rfl
def tys : List TypeId := [3, 4, 9, 25, 43, 91, 93, 158]
theorem tys_closed : closedB Tryz.prog tys = true := by kernel_rfl

set_option maxRecDepth 100000 in
theorem contract (H : Type) (enc : TypeId × Value → H) (W : World) (base : Nat) (args : Array Value) (ds gs : List (DataW H)) (before : List MemPlace)
    (hval : ∀ (j : Nat) t v, Tryz.f8.params[j]? = some t → args[j]? = some v → Value.okWide Tryz.prog W .any base t v)
    (hW : DataW.Whole enc Tryz.prog Tryz.f8.params.toList Rows.deskNoneSpec.vars false W args.toList ds gs before) (hL : laidMetH Tryz.prog Rows.deskNoneRow.laid W) :
    Calls Tryz.prog 8 args W fun e W' => ∃ v, e = .returned v ∧ Rows.deskNoneSpec.post enc Tryz.prog Tryz.f8 false true false false W args v W' := by
  have hW' := hW
  obtain ⟨p, q, hA0, hV, rfl, hfz, hnd⟩ := hW
  have hA : DataW.TrodAll enc Tryz.prog W 0 (fun _ => true) true Tryz.f8.params.toList args.toList ds p := hA0
  rw [Tryz.params8] at hA hval
  obtain ⟨v0, vs0, d0, ds0, p0, q0, hargs, rfl, rfl, h0, r0⟩ := trodAll_cons hA
  obtain ⟨v1, vs1, d1, ds1, p1, q1, rfl, rfl, rfl, h1, r1⟩ := trodAll_cons r0
  obtain ⟨rfl, rfl, rfl⟩ := trodAll_nil r1
  obtain rfl : args = #[v0, v1] := by cases args; simp_all
  obtain ⟨rfl, rfl⟩ := trodVars_none hV
  obtain ⟨i, rfl, rfl, rfl, _⟩ := open_int Tryz.underlying3 (hval 0 3 v0 rfl rfl) h0
  obtain ⟨cs, rfl, hsz⟩ := okWide_struct Tryz.underlying43 (hval 1 43 v1 rfl rfl)
  obtain ⟨fu, hfu⟩ := h1
  obtain ⟨dd, t1, t2, t3⟩ := read_ok tys_closed fu 43 _ _ (show tys.contains 43 = true by decide) hfu
  obtain ⟨o1, o2, o3, o4, tg, sr, df, te, oe, ti, se, inl, fi, co, cf, ft, rfl, e1, e2⟩ := ty_rpc t1
  have hden := none_den o1 o2 o3 o4 tg sr df te oe ti se inl fi co cf ft e1 e2 i
  have hv : VL W.cell? (fun _ => False) Rf.nil [D.int .i64 i, .agg (rpc o1 o2 o3 o4 tg sr df te oe ti se inl fi co cf ft)] [Value.int .i64 i, .agg cs] := by
    refine VL.cons (by simp [V]) (VL.single ?_)
    simp only [V]
    exact ⟨cs, rfl, t2.2.2, t2.1⟩
  have hb : rbL 0 [D.int .i64 i, .agg (rpc o1 o2 o3 o4 tg sr df te oe ti se inl fi co cf ft)] = true := by
    simp only [rbL, rb, Bool.true_and, Bool.and_true]
    exact t2.2.1
  refine (law_call hden hL hv hb).mono fun e W' he => ?_
  obtain ⟨rfl, hbl⟩ := he
  exact ⟨_, rfl, law_post rfl rfl rfl rfl rfl rfl (by kernel_rfl) hW' hbl⟩
end Go.Proofs.YtfiiaehhmdddbaaGreatDoor.deskNone

