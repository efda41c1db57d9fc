/-
  The program and the annotations are as they must be.
-/
import Derived.Test.YtfiiaehhmdddbaaGreatDoorDnD
import Derived.Test.YtfiiaehhmdddbaaGreatDoorDnC
import Derived.KernelRfl
import Derived.Test.YtfiiaehhmdddbaaGreatDoorDnB
import Derived.ChangeKeysEq
set_option linter.all false
open Go Go.Dn Go.Proofs
namespace Go.Dn
noncomputable def okB (g : Nat) : Bool := match Fn g with | some fn => (match fn.body with | some c => codeOkB An fn.ntmps g c | none => true) | none => true
end Go.Dn

open Go Go.Dn Go.Proofs
namespace Go.Dn
theorem okL0 : ((List.range 100).all fun i => okB (0 * 100 + i)) = true := by kernel_rfl
end Go.Dn

open Go Go.Dn Go.Proofs
namespace Go.Dn
theorem okL1 : ((List.range 100).all fun i => okB (1 * 100 + i)) = true := by kernel_rfl
end Go.Dn

open Go Go.Dn Go.Proofs
namespace Go.Dn
theorem okL2 : ((List.range 100).all fun i => okB (2 * 100 + i)) = true := by kernel_rfl
end Go.Dn

open Go Go.Dn Go.Proofs
namespace Go.Dn
theorem okL3 : ((List.range 100).all fun i => okB (3 * 100 + i)) = true := by kernel_rfl
end Go.Dn

namespace Go.Dn
variable {P : Program}

theorem eqC_ints {k : IntKind} : ∀ {z cs : List D}, (∀ d ∈ z, ∃ n, d = .int k n) → kindsL z cs = true → ∀ d ∈ cs, ∃ n, d = .int k n
  | [], [], _, _, d, hd => by cases hd
  | [], _ :: _, _, hk, d, hd => by simp [kindsL] at hk
  | z :: zs, [], hz, hk, d, hd => by cases hd
  | z :: zs, c :: cs, hz, hk, d, hd => by
    obtain ⟨n, rfl⟩ := hz z (by simp)
    cases c <;> simp only [kindsL, Bool.false_eq_true, Bool.and_eq_true, decide_eq_true_eq] at hk
    obtain ⟨rfl, hk⟩ := hk
    rcases List.mem_cons.1 hd with rfl | hd
    · exact ⟨_, rfl⟩
    · exact eqC_ints (fun d hd => hz d (by simp [hd])) hk d hd
theorem kinds_len : ∀ {z cs : List D}, kindsL z cs = true → cs.length = z.length
  | [], [], _ => rfl
  | [], _ :: _, hk => by simp [kindsL] at hk
  | z :: zs, [], hk => by cases z <;> simp [kindsL] at hk
  | z :: zs, c :: cs, hk => by
    have : kindsL zs cs = true := by cases z <;> cases c <;> simp_all [kindsL]
    simp [kinds_len this]

theorem eqC_get {k : IntKind} : ∀ {cs ds : List D} {b : Bool}, (∀ d ∈ cs, ∃ n, d = .int k n) → (∀ d ∈ ds, ∃ n, d = .int k n) → eqC cs ds = some b → cs.length = ds.length ∧ (b = true ↔ cs = ds)
  | [], [], b, _, _, h => by simp [eqC] at h; simp [h.symm]
  | [], d :: ds, b, _, h2, h => by simp [eqC] at h
  | c :: cs, [], b, h1, _, h => by
    obtain ⟨n, rfl⟩ := h1 c (by simp)
    simp [eqC] at h
  | c :: cs, d :: ds, b, h1, h2, h => by
    obtain ⟨n, rfl⟩ := h1 c (by simp)
    obtain ⟨m, rfl⟩ := h2 d (by simp)
    simp only [eqC, if_true, Option.map_eq_some_iff] at h
    obtain ⟨b', h3, rfl⟩ := h
    obtain ⟨q1, q2⟩ := eqC_get (fun d hd => h1 d (by simp [hd])) (fun d hd => h2 d (by simp [hd])) h3
    refine ⟨by simp [q1], ?_⟩
    simp only [Bool.and_eq_true, beq_iff_eq, List.cons.injEq, D.int.injEq, true_and, q2]

theorem items_ok {e : TypeId} {k : IntKind} (he : P.underlying e = some (.int k)) (hc : P.cellsOf e = 1) (hp : P.plainKey e = true) {w : World} {dd : Nat} (xs ys : Array Value) : ∀ (is : List Nat),
    (∀ i ∈ is, (∃ n, xs[i]? = some (.int k n)) ∧ ∃ n, ys[i]? = some (.int k n)) → ∃ r : Bool, (Op.eqItems (dd + 1) e 1 xs ys is).run P w = .ok r w ∧ (r = true ↔ ∀ i ∈ is, xs[i]? = ys[i]?)
  | [], _ => ⟨true, by simp [Op.eqItems], by simp⟩
  | i :: is, h => by
    obtain ⟨⟨n, hn⟩, m, hm⟩ := h i (by simp)
    obtain ⟨r, h1, h2⟩ := items_ok he hc hp (w := w) (dd := dd) xs ys is fun j hj => h j (by simp [hj])
    have h3 : (Op.equalIn (dd + 1) e (.int k n) (.int k m)).run P w = .ok (n == m) w := by
      simp only [Op.equalIn, Sem.run_bind, run_underlying he, Result.andThen_ok, if_true, Sem.run_pure]
    simp only [Op.eqItems, Nat.mul_one, Sem.run_bind, run_part_plain w hp hn, run_part_plain w hp hm, h3, Result.andThen_ok]
    by_cases hnm : n = m
    · subst hnm
      refine ⟨r, by simpa using h1, ?_⟩
      rw [h2]
      simp [hn, hm]
    · refine ⟨false, by simp [hnm], ?_⟩
      simp [hn, hm, hnm]

theorem ints_val {cl : Addr → Option Value} {X : Nat → Prop} {ρ : Rf} {k : IntKind} {cs : List D} {xs : Array Value} (hi : ∀ d ∈ cs, ∃ n, d = .int k n) (hv : VL cl X ρ cs xs.toList) (j : Nat) (hj : j < cs.length) : ∃ n, cs[j]? = some (.int k n) ∧ xs[j]? = some (.int k n) := by
  obtain ⟨n, hn⟩ := hi cs[j] (List.getElem_mem hj)
  have hc : cs[j]? = some (.int k n) := by rw [List.getElem?_eq_getElem hj, hn]
  obtain ⟨v, h1, h2⟩ := hv.get hc
  simp only [V] at h2
  subst h2
  exact ⟨n, hc, by simpa using h1⟩

theorem eq_arr {A : Ann} {t e : TypeId} {n : Nat} {k : IntKind} {i : TypeInfo} (hu : P.underlying t = some (.array n e)) (he : P.underlying e = some (.int k)) (hi : P.info? e = some i) (hc : P.cellsOf e = 1) (hp : P.plainKey e = true)
    (hz : (A.ty t).zero = List.replicate n (.int k 0)) (w : World) (X0 : Nat → Prop) (β : Bt) (h : H) (xs ys : Array Value) (cs ds : List D) (b : Bool) (hx : VLW X0 β h w cs xs.toList) (hy : VLW X0 β h w ds ys.toList)
    (k1 : kindsL (A.ty t).zero cs = true) (k2 : kindsL (A.ty t).zero ds = true) (hb : eqC cs ds = some b) : (Op.equalIn Op.maxDepth t (.agg xs) (.agg ys)).run P w = .ok b w := by
  have z0 : ∀ d ∈ (A.ty t).zero, ∃ m, d = D.int k m := by
    rw [hz]
    intro d hd
    obtain ⟨_, rfl⟩ := List.mem_replicate.1 hd
    exact ⟨0, rfl⟩
  have i1 := eqC_ints z0 k1
  have i2 := eqC_ints z0 k2
  have l1 := kinds_len k1
  have l2 := kinds_len k2
  rw [hz, List.length_replicate] at l1 l2
  obtain ⟨_, hbe⟩ := eqC_get i1 i2 hb
  have e1 : Op.maxDepth = 9999 + 1 := rfl
  rw [e1, run_equalIn_array w 9999 xs ys hu hi, hc]
  obtain ⟨r, h1, h2⟩ := items_ok (dd := 9998) he hc hp (w := w) xs ys (List.range n) fun j hj => by
    have hj := List.mem_range.1 hj
    obtain ⟨m1, _, q1⟩ := ints_val i1 hx j (by omega)
    obtain ⟨m2, _, q2⟩ := ints_val i2 hy j (by omega)
    exact ⟨⟨m1, q1⟩, m2, q2⟩
  rw [h1]
  have : r = b := by
    rw [Bool.eq_iff_iff, h2, hbe]
    constructor
    · intro hall
      apply List.ext_getElem? 
      intro j
      by_cases hj : j < n
      · have := hall j (List.mem_range.2 hj)
        obtain ⟨m1, p1, q1⟩ := ints_val i1 hx j (by omega)
        obtain ⟨m2, p2, q2⟩ := ints_val i2 hy j (by omega)
        rw [q1, q2] at this
        simp only [Option.some.injEq, Value.int.injEq, true_and] at this
        rw [p1, p2, this]
      · rw [List.getElem?_eq_none (by omega), List.getElem?_eq_none (by omega)]
    · intro he j hj
      have hj := List.mem_range.1 hj
      obtain ⟨m1, p1, q1⟩ := ints_val i1 hx j (by omega)
      obtain ⟨m2, p2, q2⟩ := ints_val i2 hy j (by omega)
      rw [he, p2] at p1
      rw [q1, q2, ← Option.some.inj p1 |> D.int.inj |>.2]
  rw [this]
end Go.Dn

open Go Go.Dn Go.Proofs
namespace Go.Dn
noncomputable abbrev LL0 : CallFn := Lim An Fn
theorem okB_all (g : Nat) : okB g = true := by
  by_cases h0 : g < 100
  · have := List.all_eq_true.1 okL0 g (List.mem_range.2 h0)
    rw [show 0 * 100 + g = g by omega] at this
    exact this
  by_cases h1 : g < 200
  · have := List.all_eq_true.1 okL1 (g - 100) (List.mem_range.2 (by omega))
    rw [show 1 * 100 + (g - 100) = g by omega] at this
    exact this
  by_cases h2 : g < 300
  · have := List.all_eq_true.1 okL2 (g - 200) (List.mem_range.2 (by omega))
    rw [show 2 * 100 + (g - 200) = g by omega] at this
    exact this
  by_cases h3 : g < 400
  · have := List.all_eq_true.1 okL3 (g - 300) (List.mem_range.2 (by omega))
    rw [show 3 * 100 + (g - 300) = g by omega] at this
    exact this
  have hs : Tryz.funcs.size ≤ 400 := Nat.le_of_ble_eq_true (by kernel_rfl)
  have : Fn g = none := by
    unfold Fn
    split
    · rfl
    · exact Array.getElem?_eq_none (by omega)
  unfold okB
  rw [this]

def namesOk (l : List Func) : Bool := l.all fun fn => fn.name != "runtime.NumGoroutine"
theorem names_ok : namesOk Tryz.funcs.toList = true := by kernel_rfl
def typesOkB (P : Program) : Bool := (List.range P.types.size).all fun t =>
  match P.underlying t with
  | some (.slice e) => (P.underlying e).isSome
  | some (.array _ e) => (P.underlying e).isSome
  | some (.struct fs) => fs.toList.all fun f => (P.underlying f.type).isSome
  | _ => true
theorem types_okB : typesOkB Tryz.prog = true := by kernel_rfl
theorem meth_blocks (v : Value) (w : World) : (method (Tryz.prog.types.size + Made.depth) 35 v "Blocks").run Tryz.prog w = .ok (353, v) w := by kernel_rfl
theorem meth_read (v : Value) (w : World) : (method (Tryz.prog.types.size + Made.depth) 35 v "Read").run Tryz.prog w = .ok (354, v) w := by kernel_rfl
theorem meth_write (v : Value) (w : World) : (method (Tryz.prog.types.size + Made.depth) 35 v "Write").run Tryz.prog w = .ok (355, v) w := by kernel_rfl
theorem meth_ok (t : TypeId) (name : String) (g : FuncId) (h : An.meth t name = some g) (v : Value) (w : World) : (method (Tryz.prog.types.size + Made.depth) t v name).run Tryz.prog w = .ok (g, v) w := by
  have h2 : (if t = 35 then (if name = "Blocks" then some 353 else if name = "Read" then some 354 else if name = "Write" then some 355 else none) else none) = some g := h
  clear h
  split at h2
  · rename_i e
    subst e
    split at h2
    · rename_i e; subst e; cases h2; exact meth_blocks v w
    split at h2
    · rename_i e; subst e; cases h2; exact meth_read v w
    split at h2
    · rename_i e; subst e; cases h2; exact meth_write v w
    cases h2
  · cases h2

theorem types_ok : TypesOk Tryz.prog where
  elem := fun t e hlt he => by
    have := List.all_eq_true.1 types_okB t (List.mem_range.2 hlt)
    rcases he with he | ⟨n, he⟩
    · rw [he] at this; exact Option.isSome_iff_exists.1 this
    · rw [he] at this; exact Option.isSome_iff_exists.1 this
  field := fun t F hlt hF f hf => by
    have := List.all_eq_true.1 types_okB t (List.mem_range.2 hlt)
    rw [hF] at this
    exact Option.isSome_iff_exists.1 (List.all_eq_true.1 this f (Array.mem_toList_iff.2 hf))

theorem eq_ok : EqOk Tryz.prog An := fun t ht => by
  have ht : (t == 185) = true := ht
  have ht : t = 185 := by simpa using ht
  subst ht
  refine ⟨by kernel_rfl, fun w X0 β h xs ys cs ds b hx hy k1 k2 hb => ?_⟩
  exact eq_arr (n := 64) (e := 5) (k := .u8) (i := (Tryz.prog.info? 5).getD default) (by kernel_rfl) (by kernel_rfl) (by kernel_rfl) (by kernel_rfl) (by kernel_rfl) (by kernel_rfl) w X0 β h xs ys cs ds b hx hy k1 k2 hb

theorem prog_ok : ProgOk Tryz.prog An where
  ty := rfl
  types := types_ok
  eq := eq_ok
  name := fun f fn hf => by
    have := List.all_eq_true.1 names_ok fn (Array.mem_toList_iff.2 (Array.mem_of_getElem? hf))
    simpa using this
  meth := meth_ok

theorem follows_ok : Tryz.prog.follows .mixedOrders = true := by kernel_rfl
theorem funs_ok : FunsOk Tryz.prog An Fn where
  here := fun g fn hf => by
    unfold Fn at hf
    split at hf
    · cases hf
    · exact hf
  code := fun g fn c hf hc => by
    refine ⟨by show (match Fn g with | some fn => fn.ntmps | none => 0) = _; rw [hf], codeOk_of follows_ok prog_ok ?_⟩
    have := okB_all g
    unfold okB at this
    rw [hf] at this
    simp only [hc] at this
    exact this
theorem lim_ok : CallOk Tryz.prog An LL0 := callOk_lim prog_ok funs_ok
end Go.Dn

