/-
  From the rows' conditions to the evaluator and back.
-/
import Derived.Test.YtfiiaehhmdddbaaGreatDoorRows
import Derived.Carry
import Derived.Lib.LaidTab
import Derived.Stop.LaidErr
import Derived.MakeChecks
import Derived.OpenShut
import Derived.Test.YtfiiaehhmdddbaaGreatDoorDnE
set_option linter.all false
open Go Go.Dn Go.Proofs Go.RowKit Go.ChangeShapes
namespace Go.Dn
def zsOf (l : List D) : List Int := l.map fun d => match d with | .int _ n => n | _ => 0
theorem gl1_eq : gl1 = (zsOf gl1).map fun z => D.int .u64 z := by kernel_rfl
theorem gl0_eq : gl0 = (zsOf gl0).map fun z => D.int .u64 z := by kernel_rfl
theorem laid1 : YtfiiaehhmdddbaaGreatDoor.Rows.laid_tabulary_digest_steps (H := Unit) = Lib.tabData .u64 (zsOf gl1) := by kernel_rfl
theorem laid0 : YtfiiaehhmdddbaaGreatDoor.Rows.laid_tabulary_digest_starts (H := Unit) = Lib.tabData .u64 (zsOf gl0) := by kernel_rfl
theorem g1N : Tryz.prog.globalNamed "tabulary/digest.steps" = some 1 := by kernel_rfl
theorem g0N : Tryz.prog.globalNamed "tabulary/digest.starts" = some 0 := by kernel_rfl
def arrOf (P : Program) (g : Nat) : Option (Nat × TypeId) := ((P.globals[g]?).map (·.type)).bind fun t => match P.underlying t with | some (.array n e) => some (n, e) | _ => none

def laidAll : List (String × DataW Unit) := [("tabulary/digest.steps", YtfiiaehhmdddbaaGreatDoor.Rows.laid_tabulary_digest_steps), ("tabulary/digest.starts", YtfiiaehhmdddbaaGreatDoor.Rows.laid_tabulary_digest_starts), ("unicode/utf8.acceptRanges", YtfiiaehhmdddbaaGreatDoor.Rows.laid_unicode_utf8_acceptRanges), ("unicode/utf8.first", YtfiiaehhmdddbaaGreatDoor.Rows.laid_unicode_utf8_first)]

theorem tab_VA {W : World} {name : String} {g : Nat} {zs : List Int} {l : List D} (hl : l = zs.map fun z => D.int .u64 z) (hg : Tryz.prog.globalNamed name = some g) (h : Lib.TabIs Tryz.prog W name .u64 zs) {X : Nat → Prop} (hX : ¬ X g) : VA W.cell? X l ⟨g, 0, none⟩ 0 := by
  subst hl
  refine VA.of_get fun i d hd => ?_
  simp only [List.getElem?_map, Option.map_eq_some_iff] at hd
  obtain ⟨z, hz, rfl⟩ := hd
  have hi : i < zs.length := (List.getElem?_eq_some_iff.1 hz).1
  refine ⟨.int .u64 z, ?_, hX, rfl, rfl, by simp [V]⟩
  have h1 := h.cell hg i hi
  have h2 : zs.getD i 0 = z := by simp [List.getD, hz]
  rw [h2] at h1
  rw [← h1]
  congr 1
  unfold Addr.add
  by_cases e : i = 0
  · subst e; rfl
  · simp [e]

theorem glob_ok {W : World} (h : laidMetH Tryz.prog laidAll W) (β : Bt) : GlobOk An (fun _ => False) β [] W := by
  have h : laidMetH Tryz.prog (("tabulary/digest.steps", Lib.tabData .u64 (zsOf gl1)) :: ("tabulary/digest.starts", Lib.tabData .u64 (zsOf gl0)) :: [("unicode/utf8.acceptRanges", YtfiiaehhmdddbaaGreatDoor.Rows.laid_unicode_utf8_acceptRanges), ("unicode/utf8.first", YtfiiaehhmdddbaaGreatDoor.Rows.laid_unicode_utf8_first)]) W := by
    rw [← laid1, ← laid0]
    exact h
  rw [MakeChecks.laidMetH_plain _ _ _ (by kernel_rfl)] at h
  have t1 : Lib.TabIs Tryz.prog W "tabulary/digest.steps" .u64 (zsOf gl1) := Lib.tabIs_of_head (t := 279) (e := 141) (n := 80) g1N (by kernel_rfl) (by kernel_rfl) (by kernel_rfl) (by kernel_rfl) (by kernel_rfl) h
  have t0 : Lib.TabIs Tryz.prog W "tabulary/digest.starts" .u64 (zsOf gl0) := Lib.tabIs_of_head (t := 275) (e := 141) (n := 8) g0N (by kernel_rfl) (by kernel_rfl) (by kernel_rfl) (by kernel_rfl) (by kernel_rfl) h.tail
  have hX : ∀ b, ¬ XX (fun _ => False) β [] b := fun b hb => (XX_nil hb : False)
  intro g cs hg
  have hg : (if g = 1 then some gl1 else if g = 0 then some gl0 else none) = some cs := hg
  split at hg
  · rename_i e
    subst e
    cases hg
    exact tab_VA gl1_eq g1N t1 (hX 1)
  · split at hg
    · rename_i e
      subst e
      cases hg
      exact tab_VA gl0_eq g0N t0 (hX 0)
    · cases hg

/-- From the evaluator's word to the call. -/
theorem law_call {f : FuncId} {args : List Value} {ds : List D} {W : World} (hden : LL0 0 0 f ds [] = some (.bool true, [])) (hl : laidMetH Tryz.prog laidAll W) (hv : VL W.cell? (fun _ => False) Rf.nil ds args) (hb : rbL 0 ds = true) :
    Calls Tryz.prog f args.toArray W fun e W' => e = .returned (.bool true) ∧ Below W.heap.size W W' := by
  have h1 := (lim_ok 0 0 f ds [] (.bool true) [] hden).2 (fun _ => False) (fun _ => (0, 0)) W args (Rel.nil _ _ _) (fun b hb => hb.elim) (glob_ok hl _) (Nat.le_refl _) (rho_freeL hb hv (fun b hx => (XX_nil hx : False).elim) _) hb
  refine h1.mono fun e W' he => ?_
  obtain ⟨v, β', rfl, st, hv', _⟩ := he
  simp only [VW, V] at hv'
  subst hv'
  exact ⟨rfl, st.nx.os, st.nx.tape, st.nx.output, st.nx.size, fun k hk => st.nx.keep k hk fun hx => (XX_nil hx : False)⟩

theorem args_stay {H : Type} {enc : TypeId × Value → H} {P : Program} (hl : laidOutB P = true) {W W' : World} (hb : Below W.heap.size W W') : ∀ {ts : List TypeId} {vs : List Value} {ds : List (DataW H)} {ps : List MemPlace}, (ts.all fun t => P.readableRec t && decide (t < P.types.size)) = true →
    DataW.TrodAll enc P W 0 (fun _ => true) true ts vs ds ps → DataW.TrodAll enc P W' 0 (fun b => decide (b < W.heap.size)) true ts vs ds ps
  | [], [], [], ps, _, h => h
  | t :: ts, v :: vs, d :: ds, ps, ht, h => by
    have hlt := h.lt
    obtain ⟨p, q, h1, h2, rfl⟩ := h
    simp only [List.all_cons, Bool.and_eq_true, decide_eq_true_eq] at ht
    exact ⟨p, q, h1.elim fun fu hfu => Below.trod hl ht.1.1 ht.1.2 ⟨fu, hfu⟩ hb fun x hx => hlt x (List.mem_append_left _ hx), args_stay hl hb (by simpa using ht.2) h2, rfl⟩
  | [], _ :: _, _, _, _, h => by simp [DataW.TrodAll] at h
  | [], [], _ :: _, _, _, h => by simp [DataW.TrodAll] at h
  | _ :: _, [], _, _, _, h => by simp [DataW.TrodAll] at h
  | _ :: _, _ :: _, [], _, _, h => by simp [DataW.TrodAll] at h
theorem laidOut_ok : laidOutB Tryz.prog = true := by kernel_rfl

/-- What a law's row asks behind the call. -/
theorem law_post {H : Type} {enc : TypeId × Value → H} {f : Func} {s : ChangeSpec} {W W' : World} {args : Array Value} {ds gs : List (DataW H)} {before : List MemPlace} (hvars : s.vars = []) (hgs : gs = []) (hr : f.resultTypes = #[4])
    (hres : (s.fn H (ds ++ gs)).results = [.lit (.bool true)]) (hargs : (s.fn H (ds ++ gs)).args = ds) (hvs : (s.fn H (ds ++ gs)).vars = [])
    (hp : (f.params.toList.all fun t => Tryz.prog.readableRec t && decide (t < Tryz.prog.types.size)) = true)
    (hW : DataW.Whole enc Tryz.prog f.params.toList s.vars false W args.toList ds gs before) (hb : Below W.heap.size W W') :
    s.post enc Tryz.prog f false true false false W args (.bool true) W' := by
  have hW0 := hW
  obtain ⟨p, q, hA, hV, hpq, hfz, hnd⟩ := hW
  rw [hvars] at hV
  obtain ⟨_, rfl⟩ := ChangeShapes.trodVars_none hV
  refine ⟨ds, gs, before, [], p, [], hW0, ?_, ?_, ?_, hb.frame _, fun h => by cases h⟩
  · rw [hres, hr]
    exact ChangeShapes.trodAll_mk1 (shut_bool Tryz.underlying4 _)
  · rw [hargs]
    exact args_stay laidOut_ok hb hp hA
  · rw [hvars, hvs]
    rfl
end Go.Dn

