/-
  Each operation, code and calls: what the evaluator says holds of the machine.
-/
import Derived.Test.YtfiiaehhmdddbaaGreatDoorDnA
import Derived.Laws.Strings
import Derived.Laws.StructEq
import Derived.Lib.ConvBytes
import Derived.Laws.IdiomStrings
import Derived.Laws.BytesArg
import Derived.Tactics
import Derived.LoopN
set_option linter.all false
namespace Go.Dn
variable {X0 : Nat → Prop} {β β' β'' : Bt} {h h' h'' : H} {w w' w'' : World} {P : Program} {A : Ann}

theorem Did.mono {base : Nat} {s s' : Sem Value} {d : D} (e : s'.run P w = s.run P w) (hd : Did P X0 base β h w s d h') : Did P X0 base β h w s' d h' := by
  obtain ⟨v, β', w', h1, h2⟩ := hd
  exact ⟨v, β', w', e.trans h1, h2⟩

theorem copy_ok (hA : A.ty = tyOf P) (hT : TypesOk P) (r : Rel X0 β h w) {base : Nat} {t t2 ty : TypeId} {d s x : D} {vd vs : Value} (hl : copyD A base h t d s = some (x, h')) (hvd : VW X0 β h w d vd) (hvs : VW X0 β h w s vs) :
    Did P X0 base β h w (Builtin.copy_ #[t, t2] ty #[vd, vs]) x h' := by
  unfold copyD at hl
  cases hk : (A.ty t).kd <;> rw [hk] at hl <;> (first | (cases hl; done) | skip)
  rename_i esz eb ez by_
  obtain ⟨e, hu, rfl, rfl, hez, _⟩ := slice_kd hA hk
  obtain ⟨de, hue⟩ := hT.elem t e (lt_slice hA hk) (.inl hu)
  simp only [Option.bind_eq_bind] at hl
  cases hs : srcC h (sizeP P e) s with
  | none => simp [hs] at hl
  | some cs =>
  cases hm : lenD s with
  | none => simp [hs, hm] at hl
  | some m =>
  cases hn : lenS d with
  | none => simp [hs, hm, hn] at hl
  | some n =>
  simp only [hs, hm, hn, Option.bind_some] at hl
  obtain ⟨l, so⟩ := src_ok (P := P) r hs hm hvs
  have hln : ∀ w2 : World, (Builtin.lenOf vs).run P w2 = .ok m w2 := so.len
  have hf := so.first (min m n) (Nat.min_le_left _ _) w rfl
  have hvl : ∃ a c, vd = .slice a n c ∧ (a = none → n = 0) := by
    cases d <;> simp only [lenS] at hn <;> (first | (cases hn; done) | skip)
    case nils => simp only [Option.some.injEq] at hn; subst hn; simp only [VW, V] at hvd; exact ⟨none, 0, hvd, fun _ => rfl⟩
    case vs xs clip => simp only [Option.some.injEq] at hn; subst hn; simp only [VW, V] at hvd; obtain ⟨a, c, sz, e, _⟩ := hvd; exact ⟨some a, c, e, fun e => by cases e⟩
    case rs id ver off len cap sz clip => simp only [Option.some.injEq] at hn; subst hn; simp only [VW, V] at hvd; obtain ⟨a, c, e, _⟩ := hvd; exact ⟨some a, c, e, fun e => by cases e⟩
  obtain ⟨a, c, rfl, ha⟩ := hvl
  have hll : l.length = m * sizeP P e := by rw [so.val.length, so.size]
  have hrun : ∀ w2, (match a with | some a => (storeCells a (l.take (min m n * sizeP P e))).run P w = .ok () w2 | none => w2 = w) → (Builtin.copy_ #[t, t2] ty #[.slice a n c, vs]).run P w = .ok (.int .i64 (min m n : Nat)) w2 := by
    intro w2 hst
    have e1 : Nat.min m n = min m n := rfl
    cases a with
    | some a =>
      simp only at hst
      simp [Builtin.copy_, Sem.run_bind, run_underlying hu, hln, run_sizeOfP hue, e1, hf, hst, goInt]
    | none =>
      simp only at hst
      subst hst
      simp [Builtin.copy_, Sem.run_bind, run_underlying hu, hln, run_sizeOfP hue, e1, hf, goInt]
  split at hl
  · rename_i h0
    simp only [Option.some.injEq, Prod.mk.injEq] at hl
    obtain ⟨rfl, rfl⟩ := hl
    refine Did.value r (hrun w ?_) (by simp only [VW, V]; rw [h0]; rfl) rfl
    cases a with
    | some a => rw [h0]; simp [storeCells]
    | none => rfl
  · rename_i h0
    cases d <;> simp only [] at hl <;> (first | (cases hl; done) | skip)
    case rs id ver off len cap sz clip =>
      simp only [lenS, Option.some.injEq] at hn
      subst hn
      split at hl
      · rename_i hc
        obtain ⟨rfl, hk0⟩ := hc
        cases hw : wrC h id ver off (cs.take (min m len * sizeP P e)) with
        | none => simp [hw] at hl
        | some hh =>
          simp only [hw, Option.bind_some, Option.some.injEq, Prod.mk.injEq] at hl
          obtain ⟨rfl, rfl⟩ := hl
          obtain ⟨k, hg, hkv, hkl, rfl⟩ := wrC_some hw
          simp only [VW, V] at hvd
          obtain ⟨a', c', e1, v0, v1, v2, v3⟩ := hvd
          simp only [Value.slice.injEq] at e1
          obtain ⟨rfl, _, rfl⟩ := e1
          obtain ⟨ea, _⟩ := v3.2 ⟨k, hg, hkv⟩
          obtain ⟨w2, hst, st⟩ := Step.write P r base hg hkl (rbL_sub so.rb fun d hd => List.mem_of_mem_take hd) (List.all_eq_true.2 fun d hd => List.all_eq_true.1 so.flat d (List.mem_of_mem_take hd))
            (hk0.imp (fun h => h) fun h1 => rbL_sub h1 fun d hd => List.mem_of_mem_take hd) (so.val.take _)
          exact ⟨_, β, w2, hrun w2 (by simp only [ea]; exact hst), st, by simp only [VW, V], rfl⟩
      · cases hl

theorem makeSlice_ok (hA : A.ty = tyOf P) (r : Rel X0 β h w) (hx : XLow X0 w) {base : Nat} {t : TypeId} {dl dc x : D} {vl vc : Value} (hl : makeSliceD A h t dl dc = some (x, h')) (hvl : VW X0 β h w dl vl) (hvc : VW X0 β h w dc vc) :
    Did P X0 base β h w (Instr.makeSlice t vl vc) x h' := by
  unfold makeSliceD at hl
  cases hk : (A.ty t).kd <;> rw [hk] at hl <;> (first | (cases hl; done) | skip)
  rename_i esz eb ez by_
  obtain ⟨e, hu, rfl, rfl, hez, _⟩ := slice_kd hA hk
  cases h1 : natOf dl with
  | none => simp [h1] at hl
  | some l =>
  cases h2 : natOf dc with
  | none => simp [h1, h2] at hl
  | some c =>
  simp only [h1, h2] at hl
  split at hl
  · rename_i hc
    obtain ⟨hlc, hzl, hb, hm, hz0⟩ := hc
    simp only [Option.some.injEq, Prod.mk.injEq] at hl
    obtain ⟨rfl, rfl⟩ := hl
    obtain ⟨k1, rfl⟩ := natOf_ok h1 hvl
    obtain ⟨k2, rfl⟩ := natOf_ok h2 hvc
    obtain ⟨i, zv, hi, hzv, zval, zrb, zfl⟩ := zero_ok hez hzl hz0 X0 β h w
    have hby : P.bytesOf e = i.bytes := by simp [Program.bytesOf, hi]
    have hzz := zero_len (P := P) (t := e) zval hzl
    obtain ⟨de, i', hue, hi', _⟩ := sizeP_some hz0
    rw [hby] at hb
    have hwr : ∀ n : Nat, n ≤ maxN → IntKind.i64.wrap (n : Int) = n := fun n hn => by
      simp [maxN] at hn
      simp [IntKind.wrap, IntKind.bits, IntKind.signed]
      omega
    have hl1 := hwr l (by omega)
    have hc1 := hwr c hm
    have hnb : ¬ ((i.bytes : Int) * (c : Int) > 2 ^ 48) := by
      have : ((c * i.bytes : Nat) : Int) ≤ ((maxN : Nat) : Int) := Int.ofNat_le.2 hb
      rw [Int.natCast_mul] at this
      have e1 : ((maxN : Nat) : Int) = 1099511627776 := rfl
      have e2 : (2 : Int) ^ 48 = 281474976710656 := by decide
      rw [Int.mul_comm]
      omega
    have hti : ∀ w2 : World, (typeInfo e).run P w2 = .ok i w2 := fun w2 => by simp [typeInfo, hi]
    have hai : ∀ (k : IntKind) (n : Nat) (w2 : World), (asInt (.int k (n : Int))).run P w2 = .ok (n : Int) w2 := fun k n w2 => by simp [asInt, asIntOf]
    have hzvr : ∀ w2 : World, (zeroValue e).run P w2 = .ok zv w2 := fun w2 => by simp [zeroValue, typeInfo, hi, hzv]
    have hsz : ∀ w2 : World, (sizeOf e).run P w2 = .ok (sizeP P e) w2 := fun w2 => run_sizeOfP hue w2
    have hrow : ((Array.range (c * sizeP P e)).map fun i => (if c * sizeP P e = 0 then #[] else zv.cells)[i % (if c * sizeP P e = 0 then #[] else zv.cells).size]!) = (List.replicate c zv.cells.toList).flatten.toArray := by
      by_cases h0 : c * sizeP P e = 0
      · rcases Nat.mul_eq_zero.1 h0 with rfl | h1
        · simp
        · exact absurd h1 hz0
      · simp only [h0, if_false]
        have := rep_cells zv.cells c (by omega)
        rw [hzz] at this
        rw [hzz]
        apply Array.ext'
        rw [this]
    have hrun : (Instr.makeSlice t (.int k1 (l : Int)) (.int k2 (c : Int))).run P w = .ok (.slice (some ⟨w.heap.size, 0, none⟩) l c) { w with heap := w.heap.push (.cells (List.replicate c zv.cells.toList).flatten.toArray e) } := by
      unfold Instr.makeSlice
      simp only [Sem.run_bind, run_underlying hu, Result.andThen_ok, hai, hti, hl1, hc1]
      rw [if_neg (by
        simp only [Bool.or_eq_true, decide_eq_true_eq, not_or]
        exact ⟨⟨⟨by omega, hnb⟩, by omega⟩, by omega⟩)]
      simp only [Sem.run_bind, run_askRoom, Result.andThen_ok, hsz, Int.toNat_natCast]
      by_cases h0 : c * sizeP P e = 0
      · rw [if_pos h0]
        have h2 := hrow
        rw [if_pos h0] at h2
        simp only [Sem.run_bind, Sem.run_pure, Result.andThen_ok, h2]
        rfl
      · rw [if_neg h0]
        have h2 := hrow
        rw [if_neg h0] at h2
        simp only [Sem.run_bind, Sem.run_pure, Result.andThen_ok, hzvr, h2]
        rfl
    have hrv := VL.replicate zval c
    have st := Step.alloc (l := (List.replicate c zv.cells.toList).flatten.toArray) (extra := #[]) r base e hx (rbL_mono (by omega) (rbL_flat zrb c)) (all_flat zfl c) (by simpa using hrv)
    simp only [Array.append_empty] at st
    refine ⟨_, _, _, hrun, st, ?_, by simp [rb]⟩
    simp only [VW, V]
    refine ⟨_, c, rfl, hlc, Nat.le_refl _, fun e => by simp at e; exact e.symm, fun k hk => by rw [get_append_new] at hk; simp only [Option.some.injEq] at hk; subst hk; exact Nat.zero_le _, fun _ => ⟨by simp, _, e, (0, 0), by simp only [if_true]; exact Array.getElem?_push_size, ?_⟩⟩
    have hlen := hrv.length
    simp only [List.size_toArray, hlen, if_true, Nat.zero_add]
    simp [List.length_flatten, hzl]
  · cases hl
end Go.Dn

namespace Go.Dn
variable {X0 : Nat → Prop} {β β' β'' : Bt} {h h' h'' : H} {w w' w'' : World} {P : Program} {A : Ann}

theorem undef_ok : VW X0 β h w undefD (.tuple #[]) := by simp [undefD, VW, V, VL]
theorem undef_rb (m : Nat) : rb m undefD = true := rfl

theorem clear_ok (hA : A.ty = tyOf P) (r : Rel X0 β h w) {base : Nat} {t ty : TypeId} {d : D} {vd : Value} (hl : clearD A h t d = some h') (hvd : VW X0 β h w d vd) :
    Did P X0 base β h w (Builtin.clear_ #[t] ty #[vd]) undefD h' := by
  unfold clearD at hl
  cases hk : (A.ty t).kd <;> rw [hk] at hl <;> (first | (cases hl; done) | skip)
  rename_i esz eb ez by_
  obtain ⟨e, hu, rfl, rfl, hez, _⟩ := slice_kd hA hk
  cases d <;> (try simp only [] at hl) <;> (first | (cases hl; done) | skip)
  case nils =>
    simp only [Option.some.injEq] at hl
    subst hl
    simp only [VW, V] at hvd
    subst hvd
    exact Did.value r (v := .tuple #[]) (by simp [Builtin.clear_, run_underlying hu]) undef_ok (undef_rb _)
  case vs xs clip =>
    cases xs with
    | cons x xs => simp at hl
    | nil =>
      simp only [Option.some.injEq] at hl
      subst hl
      simp only [VW, V] at hvd
      obtain ⟨a, c, sz, rfl, _⟩ := hvd
      exact Did.value r (v := .tuple #[]) (by simp [Builtin.clear_, run_underlying hu]) undef_ok (undef_rb _)
  case rs id ver off len cap sz clip =>
    split at hl
    · rename_i hc
      obtain ⟨rfl, hzl, hz0⟩ := hc
      obtain ⟨i, zv, hi, hzv, zval, zrb, zfl⟩ := zero_ok hez hzl hz0 X0 β h w
      have hzz := zero_len (P := P) (t := e) zval hzl
      obtain ⟨k, hg, hkv, hkl, rfl⟩ := wrC_some hl
      simp only [VW, V] at hvd
      obtain ⟨a, c, rfl, v0, v1, v2, v3⟩ := hvd
      obtain ⟨ea, _⟩ := v3.2 ⟨k, hg, hkv⟩
      have hrv := VL.replicate zval len
      obtain ⟨w2, hst, st⟩ := Step.write P r base hg hkl (rbL_mono (by omega) (rbL_flat zrb len)) (all_flat zfl len) (.inr (rbL_mono (by omega) (rbL_flat zrb len))) hrv
      have hzc : (Builtin.zeroCells zv.cells len).toList = (List.replicate len zv.cells.toList).flatten := by
        unfold Builtin.zeroCells
        exact rep_cells zv.cells len (by omega)
      refine ⟨.tuple #[], β, w2, ?_, st, undef_ok, undef_rb _⟩
      have hzvr : ∀ w2 : World, (zeroValue e).run P w2 = .ok zv w2 := fun w2 => by simp [zeroValue, typeInfo, hi, hzv]
      have hzc' : (storeCells a (Builtin.zeroCells zv.cells len).toList).run P w = .ok () w2 := by rw [hzc, ea]; exact hst
      cases len with
      | zero =>
        simp only [List.replicate_zero, List.flatten_nil, storeCells] at hst
        have : w2 = w := by simpa using hst.symm
        subst this
        simp [Builtin.clear_, run_underlying hu]
      | succ n =>
        simp [Builtin.clear_, Sem.run_bind, run_underlying hu, hzvr, hzc']
    · cases hl

theorem fold_set (off : Nat) : ∀ (cs : List Value) (k : Nat) (arr : Array Value), off + k + cs.length ≤ arr.size →
    ((cs.zipIdx k).foldl (fun a (x : Value × Nat) => a.setIfInBounds (off + x.2) x.1) arr).toList = arr.toList.take (off + k) ++ cs ++ arr.toList.drop (off + k + cs.length)
  | [], k, arr, h => by simp
  | c :: cs, k, arr, h => by
    simp only [List.length_cons] at h
    have := fold_set off cs (k + 1) (arr.setIfInBounds (off + k) c) (by simp; omega)
    simp only [List.zipIdx_cons, List.foldl_cons]
    rw [this]
    have e := list_seg_step arr.toList (off + k) c cs (by simp; omega)
    simpa [Array.toList_setIfInBounds, Nat.add_assoc] using e

/-- Parts laid over cells. -/
theorem fill_ok {cl : Addr → Option Value} {X : Nat → Prop} {ρ : Rf} {place : Nat → Option (Nat × Nat)} : ∀ {ps : List (Nat × D)} {cells out : List D} {qs : List (Nat × Value)} {arr : Array Value}, fillD place cells ps = some out →
    (qs.map (·.1) = ps.map (·.1) ∧ VL cl X ρ (ps.map (·.2)) (qs.map (·.2))) → VL cl X ρ cells arr.toList → cells.all D.isCell = true →
      ∃ arr', Instr.fill place arr qs = some arr' ∧ VL cl X ρ out arr'.toList ∧ out.all D.isCell = true ∧ (∀ m, rbL m cells = true → rbL m (ps.map (·.2)) = true → rbL m out = true) ∧ out.length = cells.length
  | [], cells, out, qs, arr, hf, hq, hv, hfl => by
    simp only [fillD, Option.some.injEq] at hf
    subst hf
    have : qs = [] := by simpa using hq.1
    subst this
    exact ⟨arr, rfl, hv, hfl, fun m h _ => h, rfl⟩
  | (i, d) :: ps, cells, out, qs, arr, hf, hq, hv, hfl => by
    match qs, hq with
    | [], hq => simp at hq
    | (j, v) :: qs, hq =>
      simp only [List.map_cons, List.cons.injEq] at hq
      obtain ⟨⟨rfl, hq1⟩, hq2⟩ := hq
      obtain ⟨_, _, e, hv1, hq2⟩ := hq2.uncons
      simp only [List.cons.injEq] at e
      obtain ⟨rfl, rfl⟩ := e
      simp only [fillD] at hf
      cases hp : place j with
      | none => simp [hp] at hf
      | some q =>
        obtain ⟨off, size⟩ := q
        simp only [hp] at hf
        split at hf
        · rename_i hc
          obtain ⟨hok, hsz, hlen⟩ := hc
          obtain ⟨hvc, hfc⟩ := V.toCells hok hv1
          have hvs : v.cells.size = size := by have := hvc.length; simp at this; omega
          have hal : arr.size = cells.length := by have := hv.length; simpa using this
          have hfold : (v.cells.zipIdx.foldl (fun cs (c, j) => cs.setIfInBounds (off + j) c) arr).toList = arr.toList.take off ++ v.cells.toList ++ arr.toList.drop (off + v.cells.size) := by
            have := fold_set off v.cells.toList 0 arr (by simp; omega)
            simp only [Nat.add_zero, Array.length_toList] at this
            rw [← this, ← Array.foldl_toList, Array.toList_zipIdx]
          have hnew : VL cl X ρ (splice cells off d.cells) (v.cells.zipIdx.foldl (fun cs (c, j) => cs.setIfInBounds (off + j) c) arr).toList := by
            rw [hfold]
            unfold splice
            rw [hvs, ← hsz]
            exact ((hv.take off).append hvc).append (hv.drop _)
          have hfl' : (splice cells off d.cells).all D.isCell = true := List.all_eq_true.2 fun x hx => (mem_splice hx).elim (List.all_eq_true.1 hfl x) (List.all_eq_true.1 hfc x)
          obtain ⟨arr', h1, h2, h3, h4, h5⟩ := fill_ok hf ⟨hq1, hq2⟩ hnew hfl'
          refine ⟨arr', ?_, h2, h3, fun m hm hps => ?_, by rw [h5, splice_length (by omega)]⟩
          · simp only [Instr.fill, hp]
            rw [if_neg (by simp; omega)]
            exact h1
          · simp only [List.map_cons, rbL, Bool.and_eq_true] at hps
            exact h4 m (rbL_iff.2 fun x hx => (mem_splice hx).elim (rbL_iff.1 hm x) (rbL_iff.1 (rb_cells.2 hps.1) x)) hps.2
        · cases hf
end Go.Dn

namespace Go.Dn
variable {X0 : Nat → Prop} {β β' β'' : Bt} {h h' h'' : H} {w w' w'' : World} {P : Program} {A : Ann}

theorem alloc_ok (hA : A.ty = tyOf P) (r : Rel X0 β h w) (hx : XLow X0 w) {base : Nat} {t : TypeId} (h0 : 0 < (A.ty t).size) (hz : (A.ty t).zero.length = (A.ty t).size) :
    Did P X0 base β h w (Instr.alloc t true (.tuple #[])) (allocD h (A.ty t).zero).1 (allocD h (A.ty t).zero).2 := by
  rw [hA] at h0 hz ⊢
  simp only [tyOf] at h0 hz ⊢
  obtain ⟨i, zv, hi, hzv, zval, zrb, zfl⟩ := zero_ok rfl hz (by omega) X0 β h w
  have hzvr : ∀ w2 : World, (zeroValue t).run P w2 = .ok zv w2 := fun w2 => by simp [zeroValue, typeInfo, hi, hzv]
  have st := Step.alloc (l := zv.cells) (extra := #[]) r base t hx (rbL_mono (by omega) zrb) zfl zval
  simp only [Array.append_empty] at st
  refine ⟨.pointer (some ⟨w.heap.size, 0, none⟩), _, _, ?_, st, ?_, by simp [allocD, rb]⟩
  · simp only [Instr.alloc, Sem.run_bind, hzvr, Result.andThen_ok]
    rfl
  · simp only [allocD, VW, V]
    exact ⟨_, rfl, fun k hk => by rw [get_append_new] at hk; simp only [Option.some.injEq] at hk; subst hk; exact Nat.zero_le _, fun _ => by simp⟩

theorem box_ok (r : Rel X0 β h w) (hx : XLow X0 w) {base : Nat} {t : TypeId} {d : D} {v : Value} (hk : d.okc = true) (hv : VW X0 β h w d v) (hb : rb h.length d = true) :
    Did P X0 base β h w (Instr.box t v) (allocD h d.cells).1 (allocD h d.cells).2 := by
  obtain ⟨vc, fc⟩ := V.toCells hk hv
  have st := Step.alloc (l := v.cells) (extra := #[]) r base t hx (rb_cells.2 hb) fc vc
  simp only [Array.append_empty] at st
  refine ⟨.pointer (some ⟨w.heap.size, 0, none⟩), _, _, ?_, st, ?_, by simp [allocD, rb]⟩
  · rfl
  · simp only [allocD, VW, V]
    exact ⟨_, rfl, fun k hk => by rw [get_append_new] at hk; simp only [Option.some.injEq] at hk; subst hk; exact Nat.zero_le _, fun _ => by simp⟩

/-- A new row of cells that nobody writes. -/
theorem row_VA {cs : List D} {l : Array Value} (t : TypeId) {w2 : World} (hw : w2.heap = w.heap.push (.cells l t)) (hv : VLW X0 β h w cs l.toList) (hx : XLow X0 w)
    (hlive : ∀ id k, h.get id = some k → (β id).1 < w.heap.size) (hfl : cs.all D.isCell = true) (hb : rbL 0 cs = true) (nx : Nx X0 β h w β h w2) :
    VA w2.cell? (XX X0 β h) cs ⟨w.heap.size, 0, none⟩ 0 :=
  VA.of_get fun i d hd => by
    obtain ⟨u, h1, h2⟩ := hv.get hd
    refine ⟨u, ?_, ?_, rbL_iff.1 hb d (List.mem_of_getElem? hd), List.all_eq_true.1 hfl d (List.mem_of_getElem? hd), ?_⟩
    · rw [add_plain]
      simp only [World.cell?, hw, Array.getElem?_push_size, Option.isSome_none, Bool.false_eq_true, if_false, Nat.zero_add]
      rw [← Array.getElem?_toList]
      exact h1
    · simp only
      rintro (h0 | ⟨id, k, hk, e⟩)
      · have := hx _ h0
        omega
      · have := hlive id k hk
        omega
    · exact V.free (rbL_iff.1 hb d (List.mem_of_getElem? hd)) (VW.next nx (rb_mono (by omega) (rbL_iff.1 hb d (List.mem_of_getElem? hd))) h2)

theorem box_ro_ok (r : Rel X0 β h w) (hx : XLow X0 w) {base : Nat} {t : TypeId} {d : D} {v : Value} (hk : d.okc = true) (hv : VW X0 β h w d v) (hb : rbL 0 d.cells = true) :
    Did P X0 base β h w (Instr.box t v) (.iptr d.cells) h := by
  obtain ⟨vc, fc⟩ := V.toCells hk hv
  have st := Step.junk (base := base) (w2 := { w with heap := w.heap.push (.cells v.cells t) }) r _ rfl rfl rfl rfl
  refine ⟨.pointer (some ⟨w.heap.size, 0, none⟩), β, _, rfl, st, ?_, rfl⟩
  simp only [VW, V]
  exact ⟨_, rfl, row_VA t rfl vc hx r.low fc hb st.nx⟩

/-- Operands of a literal. -/
def PV (X0 : Nat → Prop) (β : Bt) (h : H) (w : World) (ps : List (Nat × D)) (qs : List (Nat × Value)) : Prop := qs.map (·.1) = ps.map (·.1) ∧ VLW X0 β h w (ps.map (·.2)) (qs.map (·.2))

theorem run_placesP (w : World) : ∀ (fs : List Field), (∀ f ∈ fs, ∃ d, P.underlying f.type = some d) → (fs.mapM (fun f => do pure (f.offset, ← sizeOf f.type) : Field → Sem (Nat × Nat))).run P w = .ok (fs.map fun f => (f.offset, sizeP P f.type)) w
  | [], _ => by simp
  | f :: fs, hf => by
    obtain ⟨d, hd⟩ := hf f (by simp)
    have ih := run_placesP w fs (fun g hg => hf g (by simp [hg]))
    simp only [List.mapM_cons, Sem.run_bind, run_sizeOfP hd, Result.andThen_ok, Sem.run_pure, List.map_cons]
    rw [ih]
    rfl

theorem build_ok (hA : A.ty = tyOf P) (hT : TypesOk P) {t : TypeId} {ps : List (Nat × D)} {qs : Array (Nat × Value)} {x : D} (hl : buildD A t ps = some x) (hp : PV X0 β h w ps qs.toList) :
    ∃ v, (Instr.build t qs).run P w = .ok v w ∧ VW X0 β h w x v ∧ (∀ m, rbL m (ps.map (·.2)) = true → rb m x = true) := by
  unfold buildD at hl
  split at hl
  · cases hl
  rename_i hz
  simp only [not_or, Decidable.not_not] at hz
  obtain ⟨hs0, hzl⟩ := hz
  rw [hA] at hs0 hzl
  simp only [tyOf] at hs0 hzl
  obtain ⟨i, zv, hi, hzv, zval, zrb, zfl⟩ := zero_ok rfl hzl hs0 X0 β h w
  have hzvr : ∀ w2 : World, (zeroValue t).run P w2 = .ok zv w2 := fun w2 => by simp [zeroValue, typeInfo, hi, hzv]
  cases hk : (A.ty t).kd <;> rw [hk] at hl <;> (first | (cases hl; done) | skip)
  case struct fs =>
    obtain ⟨F, hu, rfl⟩ := struct_kd hA hk
    simp only [Option.map_eq_some_iff] at hl
    obtain ⟨out, hf, rfl⟩ := hl
    rw [hA] at hf
    simp only [tyOf] at hf
    have hpl : (F.mapM (fun f => do pure (f.offset, ← sizeOf f.type) : Field → Sem (Nat × Nat))).run P w = .ok (F.toList.map fun f => (f.offset, sizeP P f.type)).toArray w := by
      rw [Array.mapM_eq_mapM_toList, Sem.run_map, run_placesP w F.toList (fun f hf => hT.field t F (lt_struct hA hk) hu f (by simpa using hf))]
      rfl
    have hfun : (fun i => ((F.toList.map fun f => (f.offset, sizeP P f.type, isAggP P f.type))[i]?).map fun (f : Nat × Nat × Bool) => (f.1, f.2.1)) = fun (i : Nat) => (F.toList.map fun f => (f.offset, sizeP P f.type)).toArray[i]? := by
      funext i
      simp only [List.getElem?_map, List.getElem?_toArray]
      cases F.toList[i]? <;> rfl
    rw [hfun] at hf
    obtain ⟨arr', h1, h2, h3, h4, h5⟩ := fill_ok hf hp zval zfl
    refine ⟨.agg arr', ?_, ?_, fun m hm => by simpa [rb] using h4 m (rbL_mono (by omega) zrb) hm⟩
    · simp only [Instr.build, Sem.run_bind, hzvr, Result.andThen_ok, run_underlying hu, hpl, h1, Sem.run_pure]
    · simp only [VW, V]
      exact ⟨arr', rfl, h3, h2⟩
  case arr n esz ag =>
    obtain ⟨e, hu, rfl, rfl⟩ := arr_kd hA hk
    obtain ⟨de, hue⟩ := hT.elem t e (lt_arr hA hk) (.inr ⟨n, hu⟩)
    simp only [Option.map_eq_some_iff] at hl
    obtain ⟨out, hf, rfl⟩ := hl
    rw [hA] at hf
    simp only [tyOf] at hf
    obtain ⟨arr', h1, h2, h3, h4, h5⟩ := fill_ok hf hp zval zfl
    refine ⟨.agg arr', ?_, ?_, fun m hm => by simpa [rb] using h4 m (rbL_mono (by omega) zrb) hm⟩
    · simp only [Instr.build, Sem.run_bind, hzvr, Result.andThen_ok, run_underlying hu, run_sizeOfP hue, h1, Sem.run_pure]
    · simp only [VW, V]
      exact ⟨arr', rfl, h3, h2⟩

theorem buildSlice_ok (hA : A.ty = tyOf P) (r : Rel X0 β h w) (hx : XLow X0 w) {base : Nat} {ro : Bool} {t : TypeId} {n : Nat} {ps : List (Nat × D)} {qs : Array (Nat × Value)} {x : D} (hl : buildSliceD A ro h t n ps = some (x, h')) (hp : PV X0 β h w ps qs.toList)
    (hpb : rbL h.length (ps.map (·.2)) = true) : Did P X0 base β h w (Instr.buildSlice t n qs) x h' := by
  unfold buildSliceD at hl
  cases hk : (A.ty t).kd <;> rw [hk] at hl <;> (first | (cases hl; done) | skip)
  rename_i esz eb ez by_
  obtain ⟨e, hu, rfl, rfl, hez, _⟩ := slice_kd hA hk
  simp only at hl
  split at hl
  · rename_i hc
    obtain ⟨hzl, hs0, hlim⟩ := hc
    obtain ⟨i, zv, hi, hzv, zval, zrb, zfl⟩ := zero_ok hez hzl hs0 X0 β h w
    have hzvr : ∀ w2 : World, (zeroValue e).run P w2 = .ok zv w2 := fun w2 => by simp [zeroValue, typeInfo, hi, hzv]
    have hzz := zero_len (P := P) (t := e) zval hzl
    obtain ⟨de, i', hue, hi', _⟩ := sizeP_some hs0
    cases hf : fillD (fun i => some (i * sizeP P e, sizeP P e)) (List.replicate n ez).flatten ps with
    | none => simp [hf] at hl
    | some cs =>
    simp only [hf, Option.bind_eq_bind, Option.bind_some] at hl
    have hrv := VL.replicate zval n
    have hrl : ((Array.range (n * sizeP P e)).map fun i => zv.cells[i % zv.cells.size]!) = (List.replicate n zv.cells.toList).flatten.toArray := by
      have := rep_cells zv.cells n (by omega)
      rw [hzz] at this
      rw [hzz]
      apply Array.ext'
      rw [this]
    obtain ⟨arr', h1, h2, h3, h4, h5⟩ := fill_ok (arr := (List.replicate n zv.cells.toList).flatten.toArray) hf hp (by simpa using hrv) (all_flat zfl n)
    have hcl : cs.length = n * sizeP P e := by rw [h5]; simp [List.length_flatten, hzl]
    have hcrb : rbL h.length cs = true := h4 _ (rbL_mono (by omega) (rbL_flat zrb n)) hpb
    have hrun : (Instr.buildSlice t n qs).run P w = .ok (.slice (some ⟨w.heap.size, 0, none⟩) n n) { w with heap := w.heap.push (.cells arr' e) } := by
      unfold Instr.buildSlice
      simp only [Sem.run_bind, run_underlying hu, Result.andThen_ok, run_sizeOfP hue]
      rw [if_neg (by omega)]
      by_cases h0 : n * sizeP P e = 0
      · have hn0 : n = 0 := by
          rcases Nat.mul_eq_zero.1 h0 with h | h
          · exact h
          · exact absurd h hs0
        rw [if_pos h0]
        simp only [Sem.run_bind, Sem.run_pure, Result.andThen_ok]
        have e0 : ((Array.range (n * sizeP P e)).map fun x => (#[] : Array Value)[x % (#[] : Array Value).size]!) = (List.replicate n zv.cells.toList).flatten.toArray := by
          rw [h0, hn0]; simp
        rw [e0, h1]
        simp only [Sem.run_bind, Sem.run_pure, Result.andThen_ok]
        rfl
      · rw [if_neg h0]
        simp only [Sem.run_bind, Sem.run_pure, Result.andThen_ok, hzvr, hrl, h1]
        rfl
    split at hl
    · rename_i hro
      simp only [Bool.and_eq_true] at hro
      simp only [Option.some.injEq, Prod.mk.injEq] at hl
      obtain ⟨rfl, rfl⟩ := hl
      have st := Step.junk (base := base) (w2 := { w with heap := w.heap.push (.cells arr' e) }) r _ rfl rfl rfl rfl
      refine ⟨_, β, _, hrun, st, ?_, rfl⟩
      exact row_vs (l := arr') (extra := #[]) (fr := (0, 0)) e (by simp) rfl h2 hx r.low h3 hro.2 (by omega) (Nat.le_refl _) true (fun _ => rfl) st.nx
    · simp only [Option.some.injEq, Prod.mk.injEq] at hl
      obtain ⟨rfl, rfl⟩ := hl
      have st := Step.alloc (l := arr') (extra := #[]) r base e hx hcrb h3 h2
      simp only [Array.append_empty] at st
      refine ⟨_, _, _, hrun, st, ?_, by simp [rb]⟩
      simp only [VW, V]
      refine ⟨_, n, rfl, Nat.le_refl _, Nat.le_refl _, fun _ => rfl, fun k hk => by rw [get_append_new] at hk; simp only [Option.some.injEq] at hk; subst hk; exact Nat.zero_le _, fun _ => ⟨by simp, arr', e, (0, 0), by simp only [if_true]; exact Array.getElem?_push_size, ?_⟩⟩
      have := h2.length
      simp only [Array.length_toList] at this
      simp only [if_true]
      omega
  · cases hl
end Go.Dn

namespace Go.Dn
variable {X0 : Nat → Prop} {β β' β'' : Bt} {h h' h'' : H} {w w' w'' : World} {P : Program} {A : Ann}

theorem intOp_ok {op : BinOp} {k : IntKind} {a b : Int} {x : D} (hl : intOp op k a b = some x) (hs : op ≠ .shl) (hs' : op ≠ .shr) {t : TypeId} (w : World) :
    ∃ v, (binOp op t (.int k a) (.int k b)).run P w = .ok v w ∧ VW X0 β h w x v ∧ (∀ m, rb m x = true) := by
  cases op <;> simp only [intOp] at hl <;> (first | (cases hl; done) | skip)
  case quo =>
    split at hl
    · cases hl
    · rename_i hb
      simp only [Option.some.injEq] at hl
      subst hl
      exact ⟨_, by simp [binOp, Op.intDiv, hb]; rfl, by simp only [VW, V], fun _ => rfl⟩
  case rem =>
    split at hl
    · cases hl
    · rename_i hb
      simp only [Option.some.injEq] at hl
      subst hl
      exact ⟨_, by simp [binOp, Op.intDiv, hb]; rfl, by simp only [VW, V], fun _ => rfl⟩
  all_goals
    simp only [Option.some.injEq] at hl
    subst hl
    exact ⟨_, by simp only [binOp, ne_eq, not_true_eq_false, if_false]; rfl, by simp only [VW, V], fun _ => rfl⟩

theorem str_toList (l : List UInt8) : (ByteArray.mk l.toArray).toList = l := ByteArray.toList_mk l

theorem strOp_ok {op : BinOp} {a b : List UInt8} {x : D} (hl : strOp op a b = some x) {t : TypeId} (w : World) :
    ∃ v, (binOp op t (.string ⟨a.toArray⟩) (.string ⟨b.toArray⟩)).run P w = .ok v w ∧ VW X0 β h w x v ∧ (∀ m, rb m x = true) := by
  cases op <;> simp only [strOp] at hl <;> (first | (cases hl; done) | skip)
  case add =>
    split at hl
    · rename_i hc
      simp only [Option.some.injEq] at hl
      subst hl
      have h1 : ¬ (((ByteArray.mk a.toArray).size + (ByteArray.mk b.toArray).size : Nat) : Int) > IntKind.i64.max := by
        simp [maxN] at hc
        simp [ByteArray.size, IntKind.max, IntKind.bits, IntKind.signed]
        omega
      refine ⟨.string ((ByteArray.mk a.toArray) ++ ⟨b.toArray⟩), ?_, ?_, fun _ => rfl⟩
      · simp only [binOp, Op.stringOp]
        rw [if_neg h1]
        rfl
      · simp only [VW, V]
        congr 1
    · cases hl
  all_goals
    simp only [Option.some.injEq] at hl
    subst hl
    refine ⟨_, by simp only [binOp, Op.stringOp, str_toList]; rfl, by simp only [VW, V], fun _ => rfl⟩
end Go.Dn

namespace Go.Dn
variable {X0 : Nat → Prop} {β β' β'' : Bt} {h h' h'' : H} {w w' w'' : World} {P : Program} {A : Ann}

/-- '==' of the aggregates that are flagged goes by their cells. -/
def EqOk (P : Program) (A : Ann) : Prop := ∀ t, A.eqT t = true → P.eqGuardType P.depth t = false ∧
  ∀ (w : World) (X0 : Nat → Prop) (β : Bt) (h : H) (xs ys : Array Value) (cs ds : List D) (b : Bool), VLW X0 β h w cs xs.toList → VLW X0 β h w ds ys.toList → kindsL (A.ty t).zero cs = true → kindsL (A.ty t).zero ds = true → eqC cs ds = some b → (Op.equalIn Op.maxDepth t (.agg xs) (.agg ys)).run P w = .ok b w

theorem kd_underlying (hA : A.ty = tyOf P) {t : TypeId} : (∀ d, P.underlying t = some d →
    ((A.ty t).kd = .bool → d = .bool) ∧ ((A.ty t).kd = .ptr → ∃ e, d = .pointer e) ∧ ((A.ty t).kd = .iface → ∃ e, d = .interface e)) ∧ ((A.ty t).kd = .bool ∨ (A.ty t).kd = .ptr ∨ (A.ty t).kd = .iface → ∃ d, P.underlying t = some d) := by
  rw [hA]
  simp only [tyOf]
  cases hu : P.underlying t with
  | none => simp
  | some d =>
    refine ⟨fun d' hd' => ?_, fun _ => ⟨d, rfl⟩⟩
    simp only [Option.some.injEq] at hd'
    subst hd'
    cases d <;> simp <;> (try (split <;> simp))

/-- The two operands' own guard, and the comparison. -/
def Eqs (P : Program) (w : World) (cst : Bool) (t : TypeId) (x y : Value) (b : Bool) : Prop :=
  (∀ op ox oy, (Region.isConst ox || Region.isConst oy) = cst → (eqGuard op t ox oy x y).run P w = .ok () w) ∧ (Op.equal t x y).run P w = .ok b w ∧
    binOp .eql t x y = (do pure (.bool (← Op.equal t x y))) ∧ binOp .neq t x y = (do pure (.bool (!(← Op.equal t x y))))

theorem nilPtr_ok {x : D} {b : Bool} {v : Value} (hn : nilPtr x = some b) (hv : VW X0 β h w x v) : ∃ a : Option Addr, v = .pointer a ∧ a.isNone = b := by
  cases x <;> simp only [nilPtr] at hn <;> (first | (cases hn; done) | skip) <;> simp only [Option.some.injEq] at hn <;> subst hn <;> simp only [VW, V] at hv
  · exact ⟨none, hv, rfl⟩
  · obtain ⟨a, e, _⟩ := hv; exact ⟨some a, e, rfl⟩
  · obtain ⟨a, e, _⟩ := hv; exact ⟨some a, e, rfl⟩
theorem nilSl_ok {x : D} {b : Bool} {v : Value} (hn : nilSl x = some b) (hv : VW X0 β h w x v) : ∃ (a : Option Addr) (n c : Nat), v = .slice a n c ∧ a.isNone = b := by
  cases x <;> simp only [nilSl] at hn <;> (first | (cases hn; done) | skip) <;> simp only [Option.some.injEq] at hn <;> subst hn <;> simp only [VW, V] at hv
  · exact ⟨none, _, _, hv, rfl⟩
  · obtain ⟨a, c, sz, e, _⟩ := hv; exact ⟨some a, _, _, e, rfl⟩
  · obtain ⟨a, c, e, _⟩ := hv; exact ⟨some a, _, _, e, rfl⟩
theorem nilIf_ok {x : D} {b : Bool} {v : Value} (hn : nilIf x = some b) (hv : VW X0 β h w x v) : (b = true ∧ v = .nilIface) ∨ (b = false ∧ ∃ t u, v = .iface t u) := by
  cases x <;> simp only [nilIf] at hn <;> (first | (cases hn; done) | skip) <;> simp only [Option.some.injEq] at hn <;> subst hn <;> simp only [VW, V] at hv
  · exact .inl ⟨rfl, hv⟩
  · obtain ⟨u, e, _⟩ := hv; exact .inr ⟨rfl, _, u, e⟩
theorem nilEq_ok {a b : Option Bool} {r : Bool} (hn : nilEq a b = some r) : ∃ x y, a = some x ∧ b = some y ∧ r = (x && y) ∧ (x = true ∨ y = true) := by
  unfold nilEq at hn
  split at hn
  · simp only [Option.some.injEq] at hn; subst hn; exact ⟨_, _, rfl, rfl, by simp, .inl rfl⟩
  · simp only [Option.some.injEq] at hn; subst hn; exact ⟨_, _, rfl, rfl, by simp, .inr rfl⟩
  · cases hn

theorem eqIn_ptr (d : Nat) {t e : TypeId} (hu : P.underlying t = some (.pointer e)) (a b : Option Addr) (hab : a.isNone = true ∨ b.isNone = true) : (Op.equalIn (d + 1) t (.pointer a) (.pointer b)).run P w = .ok (a.isNone && b.isNone) w := by
  cases a <;> cases b <;> simp at hab <;> simp [Op.equalIn, run_underlying hu]
theorem eqIn_slice (d : Nat) {t e : TypeId} (hu : P.underlying t = some (.slice e)) (a b : Option Addr) (n c n' c' : Nat) (hab : a.isNone = true ∨ b.isNone = true) : (Op.equalIn (d + 1) t (.slice a n c) (.slice b n' c')).run P w = .ok (a.isNone && b.isNone) w := by
  cases a <;> cases b <;> simp at hab <;> simp [Op.equalIn, run_underlying hu]
theorem eqIn_nil (d : Nat) {t : TypeId} {ms : Array (String × TypeId)} (hu : P.underlying t = some (.interface ms)) : (Op.equalIn (d + 1) t .nilIface .nilIface).run P w = .ok true w := by simp [Op.equalIn, run_underlying hu]
theorem eqIn_held (d : Nat) {t : TypeId} {ms : Array (String × TypeId)} (hu : P.underlying t = some (.interface ms)) (u : TypeId) (x : Value) : (Op.equalIn (d + 1) t (.iface u x) .nilIface).run P w = .ok false w := by simp [Op.equalIn, run_underlying hu]
theorem eqIn_held' (d : Nat) {t : TypeId} {ms : Array (String × TypeId)} (hu : P.underlying t = some (.interface ms)) (u : TypeId) (x : Value) : (Op.equalIn (d + 1) t .nilIface (.iface u x)).run P w = .ok false w := by simp [Op.equalIn, run_underlying hu]
theorem guard_nil {op : BinOp} {t : TypeId} {ox oy : Operand} (hc : (Region.isConst ox || Region.isConst oy) = true) : (eqGuard op t ox oy .nilIface .nilIface).run P w = .ok () w := by
  cases ox <;> cases oy <;> simp [Region.isConst] at hc <;> cases op <;> rfl

theorem eqD_ok (hA : A.ty = tyOf P) (hE : EqOk P A) {cst : Bool} {t : TypeId} {x y : D} {b : Bool} {vx vy : Value} (hl : eqD A cst t x y = some b) (hx : VW X0 β h w x vx) (hy : VW X0 β h w y vy) :
    Eqs P w cst t vx vy b := by
  have hku := kd_underlying hA (t := t)
  unfold eqD at hl
  cases hk : (A.ty t).kd <;> simp only [hk] at hl <;> (first | (cases hl; done) | skip)
  case bool =>
    obtain ⟨d, hu⟩ := hku.2 (.inl hk)
    have := (hku.1 d hu).1 hk
    subst this
    cases x <;> cases y <;> simp only [] at hl <;> (first | (cases hl; done) | skip)
    simp only [Option.some.injEq] at hl
    subst hl
    simp only [VW, V] at hx hy
    subst hx; subst hy
    refine ⟨fun op ox oy _ => ?_, run_equalIn_bool' w 9999 t _ _ hu, rfl, rfl⟩
    unfold eqGuard; cases op <;> rfl
  case ptr =>
    obtain ⟨d, hu⟩ := hku.2 (.inr (.inl hk))
    obtain ⟨e, rfl⟩ := (hku.1 d hu).2.1 hk
    obtain ⟨p, q, h1, h2, rfl, hpq⟩ := nilEq_ok hl
    obtain ⟨a, rfl, rfl⟩ := nilPtr_ok h1 hx
    obtain ⟨a', rfl, rfl⟩ := nilPtr_ok h2 hy
    refine ⟨fun op ox oy _ => ?_, eqIn_ptr 9999 hu a a' hpq, rfl, rfl⟩
    unfold eqGuard; cases op <;> rfl
  case iface =>
    obtain ⟨d, hu⟩ := hku.2 (.inr (.inr hk))
    obtain ⟨e, rfl⟩ := (hku.1 d hu).2.2 hk
    split at hl
    · rename_i hc
      subst hc
      obtain ⟨p, q, h1, h2, rfl, hpq⟩ := nilEq_ok hl
      rcases nilIf_ok h1 hx with ⟨rfl, rfl⟩ | ⟨rfl, u, v, rfl⟩ <;> rcases nilIf_ok h2 hy with ⟨rfl, rfl⟩ | ⟨rfl, u', v', rfl⟩
      · exact ⟨fun op ox oy hc => guard_nil hc, eqIn_nil 9999 hu, rfl, rfl⟩
      · exact ⟨fun op ox oy hc => by unfold eqGuard; cases op <;> rfl, eqIn_held' 9999 hu _ _, rfl, rfl⟩
      · exact ⟨fun op ox oy hc => by unfold eqGuard; cases op <;> rfl, eqIn_held 9999 hu _ _, rfl, rfl⟩
      · simp at hpq
    · cases hl
  case slice esz eb ez by_ =>
    obtain ⟨e, hu, _⟩ := slice_kd hA hk
    obtain ⟨p, q, h1, h2, rfl, hpq⟩ := nilEq_ok hl
    obtain ⟨a, n, c, rfl, rfl⟩ := nilSl_ok h1 hx
    obtain ⟨a', n', c', rfl, rfl⟩ := nilSl_ok h2 hy
    refine ⟨fun op ox oy _ => ?_, eqIn_slice 9999 hu a a' n c n' c' hpq, rfl, rfl⟩
    unfold eqGuard; cases op <;> rfl
  all_goals
    cases x <;> cases y <;> simp only [] at hl <;> (first | (cases hl; done) | skip)
    split at hl
    · rename_i hq
      obtain ⟨hq, hq1, hq2⟩ := hq
      obtain ⟨e1, e2⟩ := hE t hq
      simp only [VW, V] at hx hy
      obtain ⟨xs, rfl, _, hx⟩ := hx
      obtain ⟨ys, rfl, _, hy⟩ := hy
      refine ⟨fun op ox oy _ => run_eqGuard_agg w op t ox oy xs ys e1, e2 w X0 β h xs ys _ _ b hx hy hq1 hq2 hl, rfl, rfl⟩
    · cases hl
end Go.Dn

namespace Go.Dn
variable {X0 : Nat → Prop} {β β' β'' : Bt} {h h' h'' : H} {w w' w'' : World} {P : Program} {A : Ann}

theorem guard_skip {op : BinOp} (h1 : op ≠ .eql) (h2 : op ≠ .neq) (t : TypeId) (ox oy : Operand) (a b : Value) (w : World) : (eqGuard op t ox oy a b).run P w = .ok () w := by
  unfold eqGuard
  cases op <;> first | rfl | (exfalso; first | exact h1 rfl | exact h2 rfl)
theorem guard_int (op : BinOp) (t : TypeId) (ox oy : Operand) (k k' : IntKind) (a b : Int) (w : World) : (eqGuard op t ox oy (.int k a) (.int k' b)).run P w = .ok () w := by
  unfold eqGuard; cases op <;> rfl
theorem guard_str (op : BinOp) (t : TypeId) (ox oy : Operand) (a b : ByteArray) (w : World) : (eqGuard op t ox oy (.string a) (.string b)).run P w = .ok () w := by
  unfold eqGuard; cases op <;> rfl

/-- An operation on two operands. -/
def binS (op : BinOp) (t : TypeId) (ox oy : Operand) (x y : Value) : Sem Value := do eqGuard op t ox oy x y; binOp op t x y
theorem bin_ok (hA : A.ty = tyOf P) (hE : EqOk P A) {op : BinOp} {t : TypeId} {ox oy : Operand} {x y r : D} {vx vy : Value} (hl : binD A (Region.isConst ox || Region.isConst oy) op t x y = some r) (hx : VW X0 β h w x vx) (hy : VW X0 β h w y vy) :
    ∃ v, (binS op t ox oy vx vy).run P w = .ok v w ∧ VW X0 β h w r v ∧ (∀ m, rb m r = true) := by
  have shifts : ∀ (op : BinOp) (k k2 : IntKind) (a b : Int), op = .shl ∨ op = .shr → vx = .int k a → vy = .int k2 b → (binS op t ox oy vx vy).run P w = (Op.shift op k a k2 b).run P w := by
    rintro op k k2 a b hop rfl rfl
    unfold binS
    rw [Sem.run_bind, guard_int]
    rcases hop with rfl | rfl <;> rfl
  have ints : ∀ (op : BinOp) (k : IntKind) (a b : Int), op ≠ .shl → op ≠ .shr → x = .int k a → y = .int k b → intOp op k a b = some r → ∃ v, (binS op t ox oy vx vy).run P w = .ok v w ∧ VW X0 β h w r v ∧ (∀ m, rb m r = true) := by
    rintro op k a b h1 h2 rfl rfl hr
    simp only [VW, V] at hx hy
    subst hx; subst hy
    obtain ⟨v, hv⟩ := intOp_ok (P := P) (X0 := X0) (β := β) (h := h) hr h1 h2 (t := t) w
    refine ⟨v, ?_, hv.2⟩
    unfold binS
    rw [Sem.run_bind, guard_int]
    exact hv.1
  have strs : ∀ (op : BinOp) (a b : List UInt8), x = .str a → y = .str b → strOp op a b = some r → ∃ v, (binS op t ox oy vx vy).run P w = .ok v w ∧ VW X0 β h w r v ∧ (∀ m, rb m r = true) := by
    rintro op a b rfl rfl hr
    simp only [VW, V] at hx hy
    subst hx; subst hy
    obtain ⟨v, hv⟩ := strOp_ok (P := P) (X0 := X0) (β := β) (h := h) hr (t := t) w
    refine ⟨v, ?_, hv.2⟩
    unfold binS
    rw [Sem.run_bind, guard_str]
    exact hv.1
  have eqs : ∀ (b : Bool), eqD A (Region.isConst ox || Region.isConst oy) t x y = some b → (binS .eql t ox oy vx vy).run P w = .ok (.bool b) w ∧ (binS .neq t ox oy vx vy).run P w = .ok (.bool (!b)) w := by
    intro b hb
    obtain ⟨e1, e2, e3, e4⟩ := eqD_ok hA hE hb hx hy
    unfold binS
    refine ⟨?_, ?_⟩
    · rw [Sem.run_bind, e1 _ _ _ rfl, e3]
      simp [Sem.run_bind, e2]
    · rw [Sem.run_bind, e1 _ _ _ rfl, e4]
      simp [Sem.run_bind, e2]
  unfold binD at hl
  split at hl
  · split at hl
    · rename_i k a k2 b
      simp only [VW, V] at hx hy
      split at hl
      · cases hl
      · rename_i hb
        simp only [Option.some.injEq] at hl
        subst hl
        refine ⟨.int k (k.wrap (a * 2 ^ (min b.toNat k.bits))), ?_, by simp only [VW, V], fun _ => rfl⟩
        rw [shifts _ k k2 a b (.inl rfl) hx hy]
        simp [Op.shift, hb]
    · cases hl
  · split at hl
    · rename_i k a k2 b
      simp only [VW, V] at hx hy
      split at hl
      · cases hl
      · rename_i hb
        simp only [Option.some.injEq] at hl
        subst hl
        refine ⟨.int k (a.fdiv (2 ^ (min b.toNat k.bits))), ?_, by simp only [VW, V], fun _ => rfl⟩
        rw [shifts _ k k2 a b (.inr rfl) hx hy]
        simp [Op.shift, hb]
    · cases hl
  · rename_i h1 h2
    split at hl
    · rename_i k a k' b
      split at hl
      · rename_i hk
        subst hk
        exact ints op k a b h1 h2 rfl rfl hl
      · cases hl
    · exact strs op _ _ rfl rfl hl
    · split at hl
      · simp only [Option.map_eq_some_iff] at hl
        obtain ⟨b, hb, rfl⟩ := hl
        exact ⟨_, (eqs b hb).1, by simp only [VW, V], fun _ => rfl⟩
      · simp only [Option.map_eq_some_iff] at hl
        obtain ⟨b, hb, rfl⟩ := hl
        exact ⟨_, (eqs b hb).2, by simp only [VW, V], fun _ => rfl⟩
      · cases hl

theorem un_ok {op : UnOp} {x r : D} {vx : Value} (hl : unD op x = some r) (hx : VW X0 β h w x vx) : ∃ v, (Op.unary op vx).run P w = .ok v w ∧ VW X0 β h w r v ∧ (∀ m, rb m r = true) := by
  unfold unD at hl
  split at hl
  · simp only [Option.some.injEq] at hl
    subst hl
    simp only [VW, V] at hx
    subst hx
    exact ⟨_, rfl, by simp only [VW, V], fun _ => rfl⟩
  · simp only [VW, V] at hx
    subst hx
    simp only [intOp, Option.some.injEq] at hl
    subst hl
    exact ⟨_, rfl, by simp only [VW, V], fun _ => rfl⟩
  · simp only [Option.some.injEq] at hl
    subst hl
    simp only [VW, V] at hx
    subst hx
    exact ⟨_, rfl, by simp only [VW, V], fun _ => rfl⟩
  · cases hl
end Go.Dn

namespace Go.Dn
variable {X0 : Nat → Prop} {β β' β'' : Bt} {h h' h'' : H} {w w' w'' : World} {P : Program} {A : Ann}

/-- A live block is marked behind its end. -/
theorem Step.mark {base : Nat} (r : Rel X0 β h w) {id : Nat} {k : Blk} (hg : h.get id = some k) {cs : Array Value} {t : TypeId} {fr fr' : Nat × Nat} (hb : w.heap[(β id).1]? = some (.cells cs t fr)) {w2 : World} (hw : w2.heap = w.heap.setIfInBounds (β id).1 (.cells cs t fr')) (h1 : w2.os = w.os) (h2 : w2.tape = w.tape) (h3 : w2.output = w.output) (hfr : FrOk cs fr → FrOk cs fr') :
    Step X0 base β h w β h w2 := by
  obtain ⟨cs0, t0, fr0, hc0, ok0⟩ := r.blk id k hg
  rw [hb] at hc0
  simp only [Option.some.injEq, Obj.cells.injEq] at hc0
  obtain ⟨rfl, rfl, rfl⟩ := hc0
  have hoth : ∀ c, c ≠ (β id).1 → w2.heap[c]? = w.heap[c]? := fun c hc => by rw [hw]; simp [Array.getElem?_setIfInBounds_ne (Ne.symm hc)]
  have hlt : (β id).1 < w.heap.size := (Array.getElem?_eq_some_iff.1 hb).1
  have hat : w2.heap[(β id).1]? = some (.cells cs t fr') := by rw [hw]; simp [hlt]
  have nx : Nx X0 β h w β h w2 := by
    refine ⟨by simp [hw], h1, h2, h3, fun c hc h0 => hoth c (fun e => ok0.out (e ▸ h0)), fun c hc hcX => hoth c (fun e => hcX (.inr ⟨id, k, hg, e.symm⟩)), Nat.le_refl _, fun j k' _ hk => ⟨k', hk, Nat.le_refl _, fun _ => ⟨rfl, fun n hr => ?_⟩⟩, fun c hl => .inr hl⟩
    obtain ⟨c, t', fr2, hc, hn⟩ := hr
    by_cases e : (β j).1 = (β id).1
    · rw [e] at hc ⊢
      rw [hb] at hc
      simp only [Option.some.injEq, Obj.cells.injEq] at hc
      obtain ⟨rfl, rfl, rfl⟩ := hc
      exact ⟨cs, t, fr', hat, hn⟩
    · exact ⟨c, t', fr2, (hoth _ e).trans hc, hn⟩
  refine ⟨⟨fun j k' hk => ?_, r.inj⟩, nx, Keeps.refl _ _⟩
  obtain ⟨c, t', fr2, hc, ok⟩ := r.blk j k' hk
  by_cases e : (β j).1 = (β id).1
  · have hc2 := hc
    rw [e, hb] at hc2
    simp only [Option.some.injEq, Obj.cells.injEq] at hc2
    obtain ⟨rfl, rfl, rfl⟩ := hc2
    exact ⟨cs, t, fr', by rw [e]; exact hat, ⟨hfr ok.frz, ok.len, VLW.next nx ok.rb ok.val, ok.out, ok.rb, ok.flat⟩⟩
  · exact ⟨c, t', fr2, (hoth _ e).trans hc, ⟨ok.frz, ok.len, VLW.next nx ok.rb ok.val, ok.out, ok.rb, ok.flat⟩⟩

theorem bytes_ok : ∀ {cs : List D} {l : List Value} {bs : List UInt8}, bytesOf cs = some bs → VLW X0 β h w cs l → l = bs.map fun c => Value.int .u8 (c.toNat : Int)
  | [], l, bs, hb, hv => by
    simp only [bytesOf, Option.some.injEq] at hb
    subst hb
    simp only [VLW, VL] at hv
    subst hv
    rfl
  | d :: cs, l, bs, hb, hv => by
    obtain ⟨v, r, rfl, h1, h2⟩ := hv.uncons
    unfold bytesOf at hb
    split at hb
    · exact absurd ‹_ :: _ = []› (by simp)
    · rename_i n r' e
      simp only [List.cons.injEq] at e
      obtain ⟨rfl, rfl⟩ := e
      split at hb
      · rename_i hn
        simp only [Option.map_eq_some_iff] at hb
        obtain ⟨bs', hb', rfl⟩ := hb
        have ih := bytes_ok hb' h2
        subst ih
        simp only [V] at h1
        subst h1
        simp only [List.map_cons, List.cons.injEq, Value.int.injEq, true_and, and_true]
        have e1 : (UInt8.ofNat n.toNat).toNat = n.toNat := by
          rw [UInt8.toNat_ofNat']
          exact Nat.mod_eq_of_lt (by omega)
        rw [e1]
        omega
      · cases hb
    · cases hb

theorem byte_elem {e : TypeId} (hb : (match P.underlying e with | some (.int .u8) => true | _ => false) = true) : P.underlying e = some (.int .u8) := by
  split at hb
  · assumption
  · cases hb

theorem conv_ok (hA : A.ty = tyOf P) (hT : TypesOk P) (r : Rel X0 β h w) (hx : XLow X0 w) {base : Nat} {fz : Bool} {src dst : TypeId} {d x : D} {v : Value} (hl : convD A fz h src dst d = some (x, h')) (hv : VW X0 β h w d v) (hbd : rb h.length d = true) :
    Did P X0 base β h w (convert src dst v) x h' := by
  unfold convD at hl
  split at hl
  · rename_i k k' hk1 hk2
    have u1 := int_kd hA hk1
    have u2 := int_kd hA hk2
    split at hl
    · simp only [Option.some.injEq, Prod.mk.injEq] at hl
      obtain ⟨rfl, rfl⟩ := hl
      simp only [VW, V] at hv
      subst hv
      exact Did.value r (by simp [convert, Sem.run_bind, run_underlying u1, run_underlying u2, Conv.intToInt]; rfl) (by simp only [VW, V]) rfl
    · cases hl
  · rename_i hk1 hk2
    have u1 := str_kd hA hk1
    have u2 := str_kd hA hk2
    split at hl
    · simp only [Option.some.injEq, Prod.mk.injEq] at hl
      obtain ⟨rfl, rfl⟩ := hl
      simp only [VW, V] at hv
      subst hv
      exact Did.value r (by simp [convert, Sem.run_bind, run_underlying u1, run_underlying u2]; rfl) (by simp only [VW, V]) rfl
    · cases hl
  · rename_i hk1 hk2
    obtain ⟨e1, u1, z1, _, _, b1⟩ := slice_kd hA hk1
    obtain ⟨e2, u2, z2, _, _, b2⟩ := slice_kd hA hk2
    split at hl
    · rename_i id ver off len cap sz clip
      cases hg : h.get id with
      | none => simp [hg] at hl
      | some k =>
      simp only [hg] at hl
      split at hl
      · rename_i hc
        obtain ⟨hver, rfl, hb1, hb2⟩ := hc
        simp only [Option.some.injEq, Prod.mk.injEq] at hl
        obtain ⟨rfl, rfl⟩ := hl
        rw [u1] at u2
        simp only [Option.some.injEq, TypeDesc.slice.injEq] at u2
        subst u2
        rw [b1] at hb1
        have ue := byte_elem hb1
        have hv' := hv
        simp only [VW, V] at hv
        obtain ⟨a, c, rfl, v0, v1, v2, v3⟩ := hv
        obtain ⟨ea, _⟩ := v3.2 ⟨k, hg, hver⟩
        subst ea
        obtain ⟨cs, t, fr, hblk, ok⟩ := r.blk id k hg
        have hsh : w.shape? (β id).1 = some (t, cs.size) := by simp [World.shape?, hblk]
        have hlt : (β id).1 < w.heap.size := (Array.getElem?_eq_some_iff.1 hblk).1
        have hfz : ∃ fr', (w.freeze { block := (β id).1, off := cs.size } 1).heap = w.heap.setIfInBounds (β id).1 (.cells cs t fr') ∧ (FrOk cs fr → FrOk cs fr') := by
          refine ⟨if fr.1 == fr.2 then (cs.size, cs.size + 1) else (min fr.1 cs.size, max fr.2 (cs.size + 1)), ?_, fun f => ?_⟩
          rotate_left
          · unfold FrOk at *
            by_cases e : fr.1 = fr.2
            · simp [e]
            · have : (fr.1 == fr.2) = false := by simp [e]
              simp only [this, Bool.false_eq_true, if_false]
              right
              omega
          unfold World.freeze
          simp only [Nat.one_ne_zero, if_false]
          apply Array.ext_getElem?
          intro j
          by_cases e : (β id).1 = j
          · subst e
            simp only [Array.getElem?_modify, if_true, hblk, Option.map_some]
            rw [Array.getElem?_setIfInBounds_self_of_lt hlt]
          · simp [Array.getElem?_modify, e, Array.getElem?_setIfInBounds_ne e]
        obtain ⟨fr', hfz, hfr'⟩ := hfz
        have st := Step.mark (base := base) (w2 := w.freeze { block := (β id).1, off := cs.size } 1) r hg hblk hfz (by unfold World.freeze; simp) (by unfold World.freeze; simp) (by unfold World.freeze; simp) hfr'
        refine ⟨_, β, _, ?_, st, VW.next st.nx hbd hv', hbd⟩
        simp [convert, Sem.run_bind, run_underlying u1, run_underlying ue, markStringish, hsh]
      · cases hl
    · cases hl
  · rename_i hk1 hk2
    have u1 := str_kd hA hk1
    obtain ⟨e, u2, z2, _, _, b2⟩ := slice_kd hA hk2
    split at hl
    · rename_i s
      split at hl
      · rename_i hc
        obtain ⟨hb2, rfl⟩ := hc
        rw [b2] at hb2
        have ue := byte_elem hb2
        simp only [VW, V] at hv
        subst hv
        have hrun := Lib.run_convert_string_bytes (P := P) w src dst e ⟨s.toArray⟩ u1 u2 ue
        have hs : (ByteArray.mk s.toArray).size = s.length := by simp [ByteArray.size]
        rw [hs] at hrun
        have hcap : s.length ≤ grownCap w s.length 0 e := by
          unfold grownCap
          simp only [Question.cut]
          omega
        have hh : (Lib.bytesWorld w e ⟨s.toArray⟩).heap = w.heap.push (.cells ((s.map fun c => Value.int .u8 (c.toNat : Int)).toArray ++ Array.replicate (grownCap w s.length 0 e - s.length) (.int .u8 0)) e ((Lib.bytesCells w e ⟨s.toArray⟩).size, (Lib.bytesCells w e ⟨s.toArray⟩).size + 1)) := by
          have hbc : Lib.bytesCells w e ⟨s.toArray⟩ = (s.map fun c => Value.int .u8 (c.toNat : Int)).toArray ++ Array.replicate (grownCap w s.length 0 e - s.length) (.int .u8 0) := by
            simp [Lib.bytesCells, hs]
          apply Array.ext_getElem?
          intro j
          rcases Nat.lt_trichotomy j w.heap.size with hj | hj | hj
          · rw [Lib.bytesWorld_at_old w e _ j hj]
            simp [Array.getElem?_push, Nat.ne_of_lt hj]
          · subst hj
            rw [Lib.bytesWorld_at_new, Array.getElem?_push_size, hbc]
          · rw [Array.getElem?_eq_none (by rw [Lib.bytesWorld_size]; omega), Array.getElem?_eq_none (by simp; omega)]
        have hvl : ∀ (s : List UInt8), VLW X0 β h w (s.map fun c => D.int .u8 (c.toNat : Int)) (s.map fun c => Value.int .u8 (c.toNat : Int)) := by
          intro s
          induction s with
          | nil => exact VL.nil
          | cons c s ih => exact VL.cons (by simp only [V]) ih
        have hbsz : (Lib.bytesCells w e ⟨s.toArray⟩).size = s.length + (grownCap w s.length 0 e - s.length) := by simp [Lib.bytesCells, hs]
        obtain ⟨β', st, hvv, hbb⟩ := newRow_ok (base := base) (c := grownCap w s.length 0 e) (l := (s.map fun c => Value.int .u8 (c.toNat : Int)).toArray) (extra := Array.replicate (grownCap w s.length 0 e - s.length) (.int .u8 0)) r hx e
          (.inr (by simp only [hbsz, Array.size_append, List.size_toArray, List.length_map, Array.size_replicate]; exact Nat.le_refl _)) hh (by unfold Lib.bytesWorld World.freeze; rfl) (by unfold Lib.bytesWorld World.freeze; rfl) (by unfold Lib.bytesWorld World.freeze; rfl) hl (by simpa using hvl s)
          (by simp [D.isCell]) (rbL_iff.2 fun d hd => by obtain ⟨c, _, rfl⟩ := List.mem_map.1 hd; rfl) (by simp) hcap (by simp; omega)
        exact ⟨_, β', _, hrun, st, hvv, hbb⟩
      · cases hl
    · cases hl
  · rename_i hk1 hk2
    obtain ⟨e, u1, z1, _, _, b1⟩ := slice_kd hA hk1
    have u2 := str_kd hA hk2
    split at hl
    · rename_i hc
      obtain ⟨hb1, rfl⟩ := hc
      rw [b1] at hb1
      have ue := byte_elem hb1
      split at hl
      · rename_i cs n hsrc hlen
        simp only [Option.map_eq_some_iff] at hl
        obtain ⟨bs, hbs, hq⟩ := hl
        simp only [Prod.mk.injEq] at hq
        obtain ⟨rfl, rfl⟩ := hq
        have hlD : lenD d = some n := by cases d <;> simp only [lenS] at hlen <;> (first | (cases hlen; done) | exact hlen)
        obtain ⟨l, so⟩ := src_ok (P := P) r hsrc hlD hv
        have hlb := bytes_ok hbs so.val
        have hnb : n = bs.length := by
          have h1 := so.val.length
          have h2 := so.size
          rw [hlb] at h1
          simp at h1
          omega
        refine Did.value r (v := .string ⟨bs.toArray⟩) ?_ (by simp only [VW, V]) rfl
        cases d <;> simp only [lenS] at hlen <;> (first | (cases hlen; done) | skip)
        case nils =>
          simp only [VW, V] at hv
          subst hv
          simp only [Option.some.injEq] at hlen
          have : bs = [] := List.eq_nil_of_length_eq_zero (by omega)
          subst this
          exact run_convert_bytes_nil w src e u1 ue 0 0 dst u2
        case vs xs clip =>
          simp only [VW, V] at hv
          obtain ⟨a, c, sz, rfl, v1, v2, v3⟩ := hv
          simp only [Option.some.injEq] at hlen
          rw [hlen, hnb]
          refine run_convert_bytes_back w src dst e a c bs u1 ue u2 fun j hj => ?_
          simp only [srcC] at hsrc
          split at hsrc
          · rename_i hh
            simp only [Option.some.injEq] at hsrc
            obtain ⟨f1, f2⟩ := v3.flatten
            obtain ⟨l2, hc⟩ := Cellsat.ofVA f1
            simp only [Addr.add, if_true] at hc
            rw [hsrc] at hc
            have := bytes_ok hbs hc.val
            exact hc.at_ j _ (by rw [this]; simp [hj])
          · cases hsrc
        case rs id ver off len cap sz clip =>
          simp only [VW, V] at hv
          obtain ⟨a, c, rfl, v0, v1, v2, v3⟩ := hv
          simp only [Option.some.injEq] at hlen
          rw [hlen, hnb]
          refine run_convert_bytes_back w src dst e a c bs u1 ue u2 fun j hj => ?_
          simp only [srcC] at hsrc
          split at hsrc
          · rename_i hz
            subst hz
            obtain ⟨k, hg, hk, hkl, rfl⟩ := rdC_some hsrc
            obtain ⟨l2, hc⟩ := r.cellsat hg hkl
            rw [← (v3.2 ⟨k, hg, hk⟩).1] at hc
            have := bytes_ok hbs hc.val
            exact hc.at_ j _ (by rw [this]; simp [hj])
          · cases hsrc
      · cases hl
    · cases hl
  · cases hl
end Go.Dn

namespace Go.Dn
variable {X0 : Nat → Prop} {β β' β'' : Bt} {h h' h'' : H} {w w' w'' : World} {P : Program} {A : Ann} {fz : Bool} {base : Nat}

/-- Package-level variables that nobody writes. -/
def GlobOk (A : Ann) (X0 : Nat → Prop) (β : Bt) (h : H) (w : World) : Prop := ∀ g cs, A.glob g = some cs → VA w.cell? (XX X0 β h) cs ⟨g, 0, none⟩ 0
theorem GlobOk.next (g : GlobOk A X0 β h w) (n : Nx X0 β h w β' h' w') : GlobOk A X0 β' h' w' := fun i cs hi => VA.mono n.hc (g i cs hi)

/-- What is asked of calls. -/
def CallOk (P : Program) (A : Ann) (call : CallFn) : Prop := ∀ f base g args h r h', call f base g args h = some (r, h') → (∃ fn, P.funcs[g]? = some fn ∧ fn.body.isSome = true) ∧
  ∀ X0 β w (vs : List Value), Rel X0 β h w → XLow X0 w → GlobOk A X0 β h w → base ≤ h.length → VLW X0 β h w args vs → rbL h.length args = true →
    Calls P g vs.toArray w fun e w' => ∃ v β', e = .returned v ∧ Step X0 base β h w β' h' w' ∧ VW X0 β' h' w' r v ∧ rb h'.length r = true

/-- What is asked of the program and the annotations. -/
structure ProgOk (P : Program) (A : Ann) : Prop where
  ty : A.ty = tyOf P
  types : TypesOk P
  eq : EqOk P A
  name : ∀ (f : Nat) fn, P.funcs[f]? = some fn → fn.name ≠ "runtime.NumGoroutine"
  meth : ∀ t name g, A.meth t name = some g → ∀ (v : Value) (w : World), (method (P.types.size + Made.depth) t v name).run P w = .ok (g, v) w

/-- Operands. -/
def EvOk (X0 : Nat → Prop) (β : Bt) (h : H) (w : World) (ev : Operand → Option D) (ρ : Operand → Value) : Prop := ∀ x d, ev x = some d → VW X0 β h w d (ρ x) ∧ rb h.length d = true

theorem parts_ok {ev : Operand → Option D} {ρ : Operand → Value} (he : EvOk X0 β h w ev ρ) : ∀ {l : List (Nat × Operand)} {ps : List (Nat × D)}, partsD ev l = some ps → PV X0 β h w ps (l.map fun x => (x.1, ρ x.2)) ∧ rbL h.length (ps.map (·.2)) = true
  | [], ps, hp => by
    simp only [partsD, Option.some.injEq] at hp
    subst hp
    exact ⟨⟨rfl, VL.nil⟩, rfl⟩
  | (i, x) :: l, ps, hp => by
    simp only [partsD, Option.bind_eq_bind, Option.bind_eq_some_iff] at hp
    obtain ⟨d, h1, ps', h2, h3⟩ := hp
    simp only [Option.some.injEq] at h3
    subst h3
    obtain ⟨v1, r1⟩ := he x d h1
    obtain ⟨⟨p1, p2⟩, p3⟩ := parts_ok he h2
    exact ⟨⟨by simpa using p1, VL.cons v1 p2⟩, by simp [rbL, r1, p3]⟩
theorem args_ok {ev : Operand → Option D} {ρ : Operand → Value} (he : EvOk X0 β h w ev ρ) : ∀ {l : List Operand} {ds : List D}, argsD ev l = some ds → VLW X0 β h w ds (l.map ρ) ∧ rbL h.length ds = true
  | [], ps, hp => by
    simp only [argsD, Option.some.injEq] at hp
    subst hp
    exact ⟨VL.nil, rfl⟩
  | x :: l, ps, hp => by
    simp only [argsD, Option.bind_eq_bind, Option.bind_eq_some_iff] at hp
    obtain ⟨d, h1, ps', h2, h3⟩ := hp
    simp only [Option.some.injEq] at h3
    subst h3
    obtain ⟨v1, r1⟩ := he x d h1
    obtain ⟨p2, p3⟩ := args_ok he h2
    exact ⟨VL.cons v1 p2, by simp [rbL, r1, p3]⟩
theorem opt_ok {ev : Operand → Option D} {ρ : Operand → Value} (he : EvOk X0 β h w ev ρ) {o : Option Operand} {d : Option D} (ho : optD ev o = some d) : OV X0 β h w d (o.map ρ) := by
  cases o with
  | none => simp only [optD, Option.some.injEq] at ho; subst ho; rfl
  | some x =>
    simp only [optD, Option.map_eq_some_iff] at ho
    obtain ⟨d', h1, rfl⟩ := ho
    exact ⟨ρ x, rfl, (he x d' h1).1⟩

/-- What an operation hands on. -/
def Goes (X0 : Nat → Prop) (base : Nat) (β : Bt) (h : H) (w : World) (d : D) (h' : H) (o : Oper) (a : Act) (K : Act → World → Prop) : Prop :=
  ∀ v β' w', Step X0 base β h w β' h' w' → VW X0 β' h' w' d v → rb h'.length d = true → K (a.put o.dst v) w'

theorem wp_did {base : Nat} {o : Oper} {a : Act} {s : Sem Value} {d : D} {K : Act → World → Prop} {Q : Exit → Act → World → Prop} (he : execOp a.eval o = (do pure (.value (← s)))) (hd : Did P X0 base β h w s d h') (hK : Goes X0 base β h w d h' o a K) : o.wp P a w K Q := by
  obtain ⟨v, β', w', h1, h2, h3, h4⟩ := hd
  unfold Oper.wp
  rw [he]
  simp only [Sem.run_bind, h1, Result.andThen_ok, Sem.run_pure, Oper.upon]
  exact hK v β' w' h2 h3 h4
theorem wp_val {base : Nat} {o : Oper} {a : Act} {v : Value} {d : D} {K : Act → World → Prop} {Q : Exit → Act → World → Prop} (r : Rel X0 β h w) (he : execOp a.eval o = pure (.value v)) (hv : VW X0 β h w d v) (hb : rb h.length d = true) (hK : Goes X0 base β h w d h o a K) : o.wp P a w K Q := by
  unfold Oper.wp
  rw [he]
  simp only [Sem.run_pure, Oper.upon]
  exact hK v β w (.refl r) hv hb

theorem callFunc_run (hP : ProgOk P A) {g : FuncId} {vs : Array Value} (hg : ∃ fn, P.funcs[g]? = some fn ∧ fn.body.isSome = true) (w : World) : (callFunc g vs).run P w = .ok (.enter g vs) w := by
  obtain ⟨fn, hf, hb⟩ := hg
  have hn := hP.name g fn hf
  have hn' : (fn.name == "runtime.NumGoroutine") = false := by simpa using hn
  have hb' : fn.body.isNone = false := by
    cases hbb : fn.body with
    | none => rw [hbb] at hb; cases hb
    | some c => rfl
  unfold callFunc
  rw [Sem.run_bind, run_program]
  simp only [Result.andThen_ok, hf, hn', hb', Bool.false_eq_true, if_false]
  rfl

theorem notIface_ok (hA : A.ty = tyOf P) {t : TypeId} (hk : ¬ ((A.ty t).size = 0 ∨ (A.ty t).isIface = true)) : ∃ d, P.underlying t = some d ∧ ∀ ms, d ≠ .interface ms := by
  rw [hA] at hk
  simp only [not_or] at hk
  obtain ⟨d, i, hu, _⟩ := sizeP_some (P := P) (t := t) hk.1
  refine ⟨d, hu, fun ms e => hk.2 ?_⟩
  subst e
  simp [TyI.isIface, tyOf, hu]

theorem store_ok (hA : A.ty = tyOf P) (r : Rel X0 β h w) {base : Nat} {t : TypeId} {x y : D} {vx vy : Value} (hl : storeD A base h t x y = some h') (hx : VW X0 β h w x vx) (hy : VW X0 β h w y vy) (hyb : rb h.length y = true) :
    ∃ w', (Instr.storeAt t vx vy).run P w = .ok () w' ∧ Step X0 base β h w β h' w' := by
  unfold storeD at hl
  cases x <;> simp only [] at hl <;> (first | (cases hl; done) | skip)
  rename_i id ver off
  split at hl
  · rename_i hc
    obtain ⟨hk, hs, hs0, hb⟩ := hc
    rw [hA] at hs hs0
    simp only [tyOf] at hs hs0
    obtain ⟨vc, fc⟩ := V.toCells hk hy
    obtain ⟨k, hg, hkv, hkl, rfl⟩ := wrC_some hl
    simp only [VW, V] at hx
    obtain ⟨ad, rfl, hp⟩ := hx
    have ea := hp.2 ⟨k, hg, hkv⟩
    obtain ⟨w', hst, st⟩ := Step.write P r base hg hkl (rb_cells.2 hyb) fc hb vc
    refine ⟨w', ?_, st⟩
    have hsz : (sizeOf t).run P w = .ok (sizeP P t) w := by
      obtain ⟨d, i, hu, _⟩ := sizeP_some (P := P) (t := t) hs0
      exact run_sizeOfP hu w
    have hvl : vy.cells.size = sizeP P t := by have := vc.length; simp at this; omega
    simp only [Instr.storeAt, Instr.sureAddr, Sem.run_bind, Sem.run_pure, Result.andThen_ok, storeVar, hsz, ea]
    rw [if_neg (by omega)]
    exact hst
  · cases hl

theorem map_kd (hA : A.ty = tyOf P) {t : Nat} (hk : (A.ty t).kd = .map) : ∃ k e, P.underlying t = some (.map k e) := by
  rw [hA] at hk
  simp only [tyOf] at hk
  cases hu : P.underlying t with
  | none => simp [hu] at hk
  | some d =>
    rw [hu] at hk
    cases d <;> simp only [] at hk <;> (first | (cases hk; done) | (split at hk <;> cases hk; done) | exact ⟨_, _, rfl⟩)
theorem natOf_val {x : D} {m : Nat} {u : Value} (hn : natOf x = some m) (hu : VW X0 β h w x u) : ∃ k, u = .int k (m : Int) := by
  cases x <;> simp only [natOf] at hn <;> (first | (cases hn; done) | skip)
  split at hn
  · simp only [Option.some.injEq] at hn
    subst hn
    simp only [VW, V] at hu
    rename_i h0
    exact ⟨_, by rw [hu, Int.toNat_of_nonneg (by omega)]⟩
  · cases hn

theorem isSlice_of {s : D} {v : Value} {n : Nat} (hn : lenS s = some n) (hv : VW X0 β h w s v) : ∃ a c, v = .slice a n c := by
  cases s <;> simp only [lenS] at hn <;> (first | (cases hn; done) | skip) <;> simp only [Option.some.injEq] at hn <;> subst hn <;> simp only [VW, V] at hv
  · exact ⟨_, _, hv⟩
  · obtain ⟨a, c, sz, rfl, _⟩ := hv; exact ⟨_, _, rfl⟩
  · obtain ⟨a, c, rfl, _⟩ := hv; exact ⟨_, _, rfl⟩

theorem len_ok (hA : A.ty = tyOf P) {t ty : TypeId} {x d : D} {v : Value} {b : Nat} (r : Rel X0 β h w)
    (hl : builtinD A fz b h .len [t] [x] = some (d, h')) (hv : VW X0 β h w x v) : Did P X0 base β h w (Builtin.len_ #[t] ty #[v]) d h' := by
  unfold builtinD at hl
  simp only [] at hl
  split at hl
  · rename_i n esz ag hk
    simp only [Option.some.injEq, Prod.mk.injEq] at hl
    obtain ⟨rfl, rfl⟩ := hl
    obtain ⟨e, hu, _⟩ := arr_kd hA hk
    refine Did.value r (v := .int .i64 n) ?_ (by simp [VW, V]) rfl
    simp [Builtin.len_, Sem.run_bind, run_underlying hu, goInt]
  · rename_i l hk
    simp only [Option.some.injEq, Prod.mk.injEq] at hl
    obtain ⟨rfl, rfl⟩ := hl
    have hu := str_kd hA hk
    simp only [VW, V] at hv
    subst hv
    refine Did.value r (v := .int .i64 l.length) ?_ (by simp [VW, V]) rfl
    simp only [Builtin.len_, List.getElem?_toArray, List.getElem?_cons_zero, Sem.run_bind, run_underlying hu, Result.andThen_ok, Sem.run_pure, goInt]
    rfl
  · rename_i hk
    split at hl
    · rename_i n h1
      simp only [Option.some.injEq, Prod.mk.injEq] at hl
      obtain ⟨rfl, rfl⟩ := hl
      obtain ⟨e, hu, _⟩ := slice_kd hA hk
      obtain ⟨a, c, rfl⟩ := isSlice_of h1 hv
      refine Did.value r (v := .int .i64 n) ?_ (by simp [VW, V]) rfl
      simp [Builtin.len_, Sem.run_bind, run_underlying hu, goInt]
    · cases hl
  · rename_i hk
    simp only [Option.some.injEq, Prod.mk.injEq] at hl
    obtain ⟨rfl, rfl⟩ := hl
    obtain ⟨k, e, hu⟩ := map_kd hA hk
    simp only [VW, V] at hv
    subst hv
    refine Did.value r (v := .int .i64 0) ?_ (by simp [VW, V]) rfl
    simp [Builtin.len_, Sem.run_bind, run_underlying hu, goInt]
  · cases hl

theorem VLW.one {x : D} {vs : List Value} (h1 : VLW X0 β h w [x] vs) : ∃ v, vs = [v] ∧ VW X0 β h w x v := by
  simp only [VLW, VL] at h1
  obtain ⟨v, r, rfl, h2, rfl⟩ := h1
  exact ⟨v, rfl, h2⟩
theorem VLW.two {x y : D} {vs : List Value} (h1 : VLW X0 β h w [x, y] vs) : ∃ v u, vs = [v, u] ∧ VW X0 β h w x v ∧ VW X0 β h w y u := by
  simp only [VLW, VL] at h1
  obtain ⟨v, r, rfl, h2, u, r', rfl, h3, rfl⟩ := h1
  exact ⟨v, u, rfl, h2, h3⟩

theorem appendC_fits {t esz eb : Nat} {ez : List D} {by_ : Bool} {s d : D} {src : List D} {m : Nat} (hk : (A.ty t).kd = .slice esz eb ez by_) (hl : appendC A fz base h t s src m = some (d, h')) : esz ≠ 0 ∧ ez.length = esz ∧ m * eb ≤ maxN ∧ m ≤ maxN ∧ (∃ n, lenS s = some n) := by
  unfold appendC at hl
  rw [hk] at hl
  simp only [] at hl
  cases hn : lenD s with
  | none => simp [hn] at hl
  | some n =>
    simp only [hn] at hl
    split at hl
    · cases hl
    rename_i h0
    simp only [not_or, Nat.not_lt, Decidable.not_not] at h0
    refine ⟨h0.1, h0.2.1, Nat.le_trans (Nat.mul_le_mul_right _ (Nat.le_add_left m n)) h0.2.2.1, by omega, ?_⟩
    cases s <;> simp only [] at hl <;> (first | (cases hl; done) | skip) <;> exact ⟨_, rfl⟩

theorem appendD_ok (hP : ProgOk P A) (r : Rel X0 β h w) (hx : XLow X0 w) {t t' ty : TypeId} {s x d : D} {v u : Value} (hl : appendD A fz base h t s x = some (d, h')) (hv : VW X0 β h w s v) (hu : VW X0 β h w x u) (hb : rb h.length s = true)
    (hxt : ∃ dx, P.underlying t' = some dx ∧ ∀ k, dx ≠ .int k) : Did P X0 base β h w (Builtin.append_ #[t, t'] ty #[v, u]) d h' := by
  unfold appendD at hl
  cases hk : (A.ty t).kd <;> rw [hk] at hl <;> (first | (cases hl; done) | skip)
  rename_i esz eb ez by_
  simp only [] at hl
  cases hs : srcC h esz x with
  | none => simp [hs] at hl
  | some src =>
  cases hn : lenD x with
  | none => simp [hs, hn] at hl
  | some m =>
  simp only [hs, hn] at hl
  obtain ⟨h0, h1, h2, h3, n, hns⟩ := appendC_fits hk hl
  obtain ⟨e, hue, rfl, rfl, rfl, _⟩ := slice_kd hP.ty hk
  obtain ⟨de, hde⟩ := hP.types.elem t e (lt_slice hP.ty hk) (.inl hue)
  obtain ⟨l, hsrc⟩ := src_ok (P := P) r hs hn hu
  obtain ⟨dx, hdx, hz⟩ := hxt
  have hll : l.length = m * sizeP P e := by have := hsrc.val.length; have := hsrc.size; omega
  refine appendC_ok (zs := false) (vx := u) (l := l) hP.ty hP.types r hx hue hl hv hb hsrc.size hsrc.val hsrc.flat hsrc.rb (fun a n c ev => ?_) (fun w2 hw2 => ?_)
  · subst ev
    exact run_append_false hue hde hdx (by cases dx <;> first | rfl | exact absurd rfl (hz _)) ty a n c m u (hsrc.len w)
  · have := hsrc.first m (Nat.le_refl _) w2 hw2
    rw [List.take_of_length_le (by omega)] at this
    simpa [appSrc] using this

theorem appendZ_ok (hP : ProgOk P A) (r : Rel X0 β h w) (hx : XLow X0 w) {t t' ty : TypeId} {s x d : D} {v u : Value} (hl : appendZ A fz base h t s x = some (d, h')) (hv : VW X0 β h w s v) (hu : VW X0 β h w x u) (hb : rb h.length s = true)
    {k : IntKind} (hxt : P.underlying t' = some (.int k)) : Did P X0 base β h w (Builtin.append_ #[t, t'] ty #[v, u]) d h' := by
  unfold appendZ at hl
  cases hk : (A.ty t).kd <;> rw [hk] at hl <;> (first | (cases hl; done) | (simp at hl; done) | skip)
  rename_i esz eb ez by_
  cases hm : natOf x with
  | none => simp [hm] at hl
  | some m =>
  simp only [hm] at hl
  split at hl
  · rename_i hc
    obtain ⟨hc1, hc2⟩ := hc
    obtain ⟨h0, h1, h2, h3, n, hns⟩ := appendC_fits hk hl
    obtain ⟨e, hue, rfl, rfl, rfl, _⟩ := slice_kd hP.ty hk
    obtain ⟨de, hde⟩ := hP.types.elem t e (lt_slice hP.ty hk) (.inl hue)
    obtain ⟨i, zv, hi, hzv, zval, zrb, zfl⟩ := zero_ok rfl h1 h0 X0 β h w
    obtain ⟨k', rfl⟩ := natOf_val hm hu
    have hbig : m * P.bytesOf e ≤ 2 ^ 48 := Nat.le_trans h2 (by decide)
    have hzl := zero_len zval h1
    have hpos : 0 < sizeP P e := Nat.pos_of_ne_zero h0
    refine appendC_ok (zs := true) (vx := .int k' (m : Int)) (l := (List.replicate m zv.cells.toList).flatten) hP.ty hP.types r hx hue hl hv hb ?_ (VL.replicate zval m) (all_flat zfl m) (rbL_mono (Nat.zero_le _) (rbL_flat zrb m)) (fun a n c ev => ?_) (fun w2 hw2 => ?_)
    · simp [h1]
    · subst ev
      exact run_append_true hue hde hxt ty a n c m h3 hbig
    · have hzr : (zeroValue e).run P w2 = .ok zv w2 := by simp [zeroValue, typeInfo, hi, hzv]
      unfold appSrc
      by_cases hm0 : m = 0
      · subst hm0; simp
      · have : ¬ (m * sizeP P e = 0) := Nat.mul_ne_zero hm0 h0
        simp only [Bool.not_true, Bool.false_eq_true, if_false, if_neg this, Sem.run_bind, hzr, Result.andThen_ok, Sem.run_pure]
        congr 1
        rw [← Array.toList_inj]
        simp only [Builtin.zeroCells]
        exact rep_cells _ m (by omega)
  · cases hl

theorem builtin_ok (hP : ProgOk P A) (r : Rel X0 β h w) (hx : XLow X0 w) {b : Builtin} {ts : Array TypeId} {ty : TypeId} {args : List D} {vs : List Value} {d : D} (hl : builtinD A fz base h b ts.toList args = some (d, h')) (hv : VLW X0 β h w args vs) (hb : rbL h.length args = true) :
    ∃ s, Did P X0 base β h w s d h' ∧ ∀ cst, builtin b ts ty cst vs.toArray = (do pure (.value (← s))) := by
  have hA := hP.ty
  have hT := hP.types
  generalize hts : ts.toList = tl at hl
  have hts' : ts = tl.toArray := by rw [← hts]
  subst hts'
  unfold builtinD at hl
  split at hl
  · rename_i t x
    obtain ⟨v, rfl, hv1⟩ := hv.one
    exact ⟨_, len_ok (fz := fz) (b := base) (ty := ty) hA r (by unfold builtinD; exact hl) hv1, fun _ => rfl⟩
  · rename_i t t' s x
    obtain ⟨v, u, rfl, hv, hu⟩ := hv.two
    simp only [rbL, Bool.and_eq_true] at hb
    refine ⟨_, ?_, fun _ => rfl⟩
    split at hl
    · rename_i k hk
      exact appendZ_ok hP r hx hl hv hu hb.1 (int_kd hA hk)
    · rename_i hk
      obtain ⟨e, hu', _⟩ := slice_kd hA hk
      exact appendD_ok hP r hx hl hv hu hb.1 ⟨_, hu', fun _ => nofun⟩
    · rename_i hk
      exact appendD_ok hP r hx hl hv hu hb.1 ⟨_, str_kd hA hk, fun _ => nofun⟩
    · cases hl
  · rename_i t t' d' s'
    obtain ⟨v, u, rfl, hv, hu⟩ := hv.two
    exact ⟨_, copy_ok hA hT r hl hv hu, fun _ => rfl⟩
  · rename_i t x
    simp only [Option.map_eq_some_iff, Prod.mk.injEq] at hl
    obtain ⟨h2, h3, rfl, rfl⟩ := hl
    obtain ⟨v, rfl, hv1⟩ := hv.one
    exact ⟨_, clear_ok hA r h3 hv1, fun _ => rfl⟩
  · simp only [Option.map_eq_some_iff, Prod.mk.injEq] at hl
    obtain ⟨d', h1, rfl, rfl⟩ := hl
    unfold minD at h1
    split at h1
    · rename_i k a k' b'
      split at h1
      · rename_i hkk
        subst hkk
        simp only [Option.some.injEq] at h1
        subst h1
        obtain ⟨v, u, rfl, hv, hu⟩ := hv.two
        simp only [VW, V] at hv hu
        subst hv; subst hu
        refine ⟨_, Did.value r (v := .int k (if b' < a then b' else a)) ?_ (by simp [VW, V]) rfl, fun _ => rfl⟩
        simp [Builtin.min_, Builtin.min2]
      · cases h1
    · cases h1
  · simp only [Option.map_eq_some_iff, Prod.mk.injEq] at hl
    obtain ⟨d', h1, rfl, rfl⟩ := hl
    unfold maxD at h1
    split at h1
    · rename_i k a k' b'
      split at h1
      · rename_i hkk
        subst hkk
        simp only [Option.some.injEq] at h1
        subst h1
        obtain ⟨v, u, rfl, hv, hu⟩ := hv.two
        simp only [VW, V] at hv hu
        subst hv; subst hu
        refine ⟨_, Did.value r (v := .int k (if b' > a then b' else a)) ?_ (by simp [VW, V]) rfl, fun _ => rfl⟩
        simp [Builtin.max_, Builtin.max2]
      · cases h1
    · cases h1
  · cases hl

theorem enter_ok {call : CallFn} (hC : CallOk P A call) (r : Rel X0 β h w) (hx : XLow X0 w) (hG : GlobOk A X0 β h w) {f : FuncId} (hbase : base ≤ h.length) {g : FuncId} {args : List D} {vs : List Value} {o : Oper} {a : Act} {d : D}
    (hl : call f base g args h = some (d, h')) (hv : VLW X0 β h w args vs) (hb : rbL h.length args = true) (hr : (∃ fn, P.funcs[g]? = some fn ∧ fn.body.isSome = true) → (execOp a.eval o).run P w = .ok (.enter g vs.toArray) w)
    {K : Act → World → Prop} {Q : Exit → Act → World → Prop} (hK : Goes X0 base β h w d h' o a K) : o.wp P a w K Q := by
  obtain ⟨h1, h2⟩ := hC f base g args h d h' hl
  unfold Oper.wp
  rw [hr h1, Oper.upon_enter]
  refine (h2 X0 β w vs r hx hG hbase hv hb).mono fun e w' he => ?_
  obtain ⟨v, β', rfl, h3, h4, h5⟩ := he
  exact hK v β' w' h3 h4 h5

theorem denOp_wp (hP : ProgOk P A) {call : CallFn} (hC : CallOk P A call) (r : Rel X0 β h w) (hx : XLow X0 w) (hG : GlobOk A X0 β h w) {f : FuncId} {base : Nat} (hbase : base ≤ h.length) {ev : Operand → Option D} {o : Oper} {a : Act} {d : D} (hl : denOp A call f base ev o h = some (d, h')) (he : EvOk X0 β h w ev a.eval)
    {K : Act → World → Prop} {Q : Exit → Act → World → Prop} (hK : Goes X0 base β h w d h' o a K) : o.wp P a w K Q := by
  unfold denOp at hl
  have hA := hP.ty
  cases hop : o.op <;> simp only [hop] at hl <;> (first | (cases hl; done) | skip)
  case move x =>
    simp only [Option.bind_eq_bind, Option.bind_eq_some_iff, Option.some.injEq, Prod.mk.injEq] at hl
    obtain ⟨d', h1, rfl, rfl⟩ := hl
    exact wp_val r (by simp only [execOp, hop]) (he x _ h1).1 (he x _ h1).2 hK
  case assign x =>
    simp only [Option.bind_eq_bind, Option.bind_eq_some_iff, Option.some.injEq, Prod.mk.injEq] at hl
    obtain ⟨d', h1, rfl, rfl⟩ := hl
    exact wp_val r (by simp only [execOp, hop]) (he x _ h1).1 (he x _ h1).2 hK
  case pick c x y =>
    simp only [Option.bind_eq_bind, Option.bind_eq_some_iff] at hl
    obtain ⟨dc, h1, hl⟩ := hl
    have hc := (he c _ h1).1
    cases dc <;> (try simp only [] at hl) <;> (first | (cases hl; done) | skip)
    rename_i b
    simp only [VW, V] at hc
    cases b
    · simp only [Option.bind_eq_some_iff, Option.some.injEq, Prod.mk.injEq] at hl
      obtain ⟨d', h2, rfl, rfl⟩ := hl
      exact wp_val r (by simp only [execOp, hop, hc]; rfl) (he y _ h2).1 (he y _ h2).2 hK
    · simp only [Option.bind_eq_some_iff, Option.some.injEq, Prod.mk.injEq] at hl
      obtain ⟨d', h2, rfl, rfl⟩ := hl
      exact wp_val r (by simp only [execOp, hop, hc]; rfl) (he x _ h2).1 (he x _ h2).2 hK
  case alloc t =>
    split at hl
    · rename_i hc
      simp only [Option.some.injEq] at hl
      have := alloc_ok (base := base) hA r hx hc.1 hc.2
      rw [hl] at this
      exact wp_did (by simp only [execOp, hop]) this hK
    · cases hl
  case box t x =>
    simp only [Option.bind_eq_bind, Option.bind_eq_some_iff] at hl
    obtain ⟨dv, h1, hl⟩ := hl
    obtain ⟨hv, hb⟩ := he x _ h1
    have hro : ∀ hc2 : rbL 0 dv.cells = true, dv.okc = true → some (D.iptr dv.cells, h) = some (d, h') → o.wp P a w K Q := by
      intro hc2 hk hl
      simp only [Option.some.injEq, Prod.mk.injEq] at hl
      obtain ⟨rfl, rfl⟩ := hl
      exact wp_did (by simp only [execOp, hop]) (box_ro_ok (base := base) (t := t) r hx hk hv hc2) hK
    have hrw : dv.okc = true → some (allocD h dv.cells) = some (d, h') → o.wp P a w K Q := by
      intro hk hl
      simp only [Option.some.injEq] at hl
      have := box_ok (P := P) (base := base) (t := t) r hx hk hv hb
      rw [hl] at this
      exact wp_did (by simp only [execOp, hop]) this hK
    have hk : dv.okc = true := by
      cases hk : dv.okc with
      | true => rfl
      | false => rw [hk] at hl; simp at hl
    cases hdst : o.dst with
    | none =>
      simp only [hdst, Bool.false_and, Bool.false_eq_true, if_false] at hl
      split at hl
      · cases hl
      · exact hrw hk hl
    | some td =>
      simp only [hdst] at hl
      split at hl
      · cases hl
      · split at hl
        · rename_i hc
          simp only [Bool.and_eq_true] at hc
          exact hro hc.2 hk hl
        · exact hrw hk hl
  case build t ps =>
    simp only [Option.bind_eq_bind, Option.bind_eq_some_iff, Option.some.injEq, Prod.mk.injEq] at hl
    obtain ⟨qs, h1, d', h2, rfl, rfl⟩ := hl
    obtain ⟨p1, p2⟩ := parts_ok he h1
    obtain ⟨v, q1, q2, q3⟩ := build_ok (qs := ps.map fun x => (x.1, a.eval x.2)) hA hP.types h2 (by simpa using p1)
    exact wp_did (by simp only [execOp, hop]) (Did.value r q1 q2 (q3 _ p2)) hK
  case buildSlice t n ps =>
    simp only [Option.bind_eq_bind, Option.bind_eq_some_iff] at hl
    obtain ⟨qs, h1, hl⟩ := hl
    obtain ⟨p1, p2⟩ := parts_ok he h1
    exact wp_did (by simp only [execOp, hop]) (buildSlice_ok (qs := ps.map fun x => (x.1, a.eval x.2)) hA r hx hl (by simpa using p1) p2) hK
  case load t x =>
    simp only [Option.bind_eq_bind, Option.bind_eq_some_iff, Option.some.injEq, Prod.mk.injEq] at hl
    obtain ⟨dx, h1, d', h2, rfl, rfl⟩ := hl
    obtain ⟨v, q1, q2, q3⟩ := load_ok hA r h2 (he x _ h1).1
    exact wp_did (by simp only [execOp, hop]) (Did.value r q1 q2 q3) hK
  case store t x y =>
    simp only [Option.bind_eq_bind, Option.bind_eq_some_iff, Option.some.injEq, Prod.mk.injEq] at hl
    obtain ⟨dx, h1, dy, h2, hh, h3, rfl, rfl⟩ := hl
    obtain ⟨hvx, hbx⟩ := he x _ h1
    obtain ⟨hvy, hby⟩ := he y _ h2
    obtain ⟨w', q1, q2⟩ := store_ok (base := base) hA r h3 hvx hvy hby
    unfold Oper.wp
    have e1 : execOp a.eval o = (do Instr.storeAt t (a.eval x) (a.eval y); pure .skip) := by simp only [execOp, hop]
    rw [e1]
    simp only [Sem.run_bind, q1, Result.andThen_ok, Sem.run_pure, Oper.upon]
    exact hK undef β w' q2 undef_ok (undef_rb _)
  case nilCheck x =>
    simp only [Option.bind_eq_bind, Option.bind_eq_some_iff] at hl
    obtain ⟨dx, h1, hl⟩ := hl
    obtain ⟨hv, hb⟩ := he x _ h1
    split at hl
    · simp only [Option.some.injEq, Prod.mk.injEq] at hl
      obtain ⟨rfl, rfl⟩ := hl
      have hv' := hv
      simp only [VW, V] at hv
      obtain ⟨b, e, _⟩ := hv
      exact wp_val (v := .pointer (some b)) r (by simp only [execOp, hop, e]) (by rw [← e]; exact hv') hb hK
    · simp only [Option.some.injEq, Prod.mk.injEq] at hl
      obtain ⟨rfl, rfl⟩ := hl
      have hv' := hv
      simp only [VW, V] at hv
      obtain ⟨b, e, _⟩ := hv
      exact wp_val (v := .pointer (some b)) r (by simp only [execOp, hop, e]) (by rw [← e]; exact hv') hb hK
    · split at hl
      · rename_i fi
        simp only [Option.some.injEq, Prod.mk.injEq] at hl
        obtain ⟨rfl, rfl⟩ := hl
        have hv' := hv
        simp only [VW, V] at hv
        obtain ⟨b, b', e, _⟩ := hv
        exact wp_val (v := .func (.func fi) b b') r (by simp only [execOp, hop, e]) (by rw [← e]; exact hv') hb hK
      · cases hl
    · cases hl
  case binOp op t x y t2 =>
    simp only [Option.bind_eq_bind, Option.bind_eq_some_iff, Option.some.injEq, Prod.mk.injEq] at hl
    obtain ⟨dx, h1, dy, h2, d', h3, rfl, rfl⟩ := hl
    obtain ⟨v, q1, q2, q3⟩ := bin_ok hA hP.eq h3 (he x _ h1).1 (he y _ h2).1
    exact wp_did (s := binS op t x y (a.eval x) (a.eval y)) (by simp only [execOp, hop]; rfl) (Did.value r q1 q2 (q3 _)) hK
  case unOp op t x =>
    simp only [Option.bind_eq_bind, Option.bind_eq_some_iff, Option.some.injEq, Prod.mk.injEq] at hl
    obtain ⟨dx, h1, d', h3, rfl, rfl⟩ := hl
    obtain ⟨v, q1, q2, q3⟩ := un_ok (P := P) h3 (he x _ h1).1
    exact wp_did (by simp only [execOp, hop]) (Did.value r q1 q2 (q3 _)) hK
  case convert s t x =>
    simp only [Option.bind_eq_bind, Option.bind_eq_some_iff] at hl
    obtain ⟨dx, h1, hl⟩ := hl
    exact wp_did (by simp only [execOp, hop]) (conv_ok hA hP.types r hx hl (he x _ h1).1 (he x _ h1).2) hK
  case makeInterface t x =>
    split at hl
    · cases hl
    rename_i hk
    simp only [Option.bind_eq_bind, Option.bind_eq_some_iff, Option.some.injEq, Prod.mk.injEq] at hl
    obtain ⟨dx, h1, rfl, rfl⟩ := hl
    obtain ⟨hv, hb⟩ := he x _ h1
    obtain ⟨dd, hu, hni⟩ := notIface_ok hA hk
    refine wp_did (s := Instr.makeInterface t (a.eval x)) (by simp only [execOp, hop]) (Did.value r (v := .iface t (a.eval x)) ?_ ?_ (by simpa [rb] using hb)) hK
    · simp only [Instr.makeInterface, Sem.run_bind, run_underlying hu, Result.andThen_ok]
      cases dd <;> first | rfl | exact absurd rfl (hni _)
    · simp only [VW, V]
      exact ⟨_, rfl, hv⟩
  case makeFunc fn x y =>
    simp only [Option.bind_eq_bind, Option.bind_eq_some_iff, Option.some.injEq, Prod.mk.injEq] at hl
    obtain ⟨dx, h1, dy, h2, rfl, rfl⟩ := hl
    obtain ⟨p1, p2⟩ := args_ok he h1
    obtain ⟨q1, q2⟩ := args_ok he h2
    refine wp_val (v := .func fn (x.map a.eval) (y.map a.eval)) r (by simp only [execOp, hop]; rfl) ?_ (by simp [rb, p2, q2]) hK
    simp only [VW, V]
    exact ⟨_, _, rfl, by simpa using p1, by simpa using q1⟩
  case makeSlice t x y =>
    simp only [Option.bind_eq_bind, Option.bind_eq_some_iff] at hl
    obtain ⟨dx, h1, dy, h2, hl⟩ := hl
    exact wp_did (by simp only [execOp, hop]) (makeSlice_ok hA r hx hl (he x _ h1).1 (he y _ h2).1) hK
  case slice t x lo hi mx =>
    simp only [Option.bind_eq_bind, Option.bind_eq_some_iff, Option.some.injEq, Prod.mk.injEq] at hl
    obtain ⟨dx, h1, d1, h2, d2, h3, d3, h4, d', h5, rfl, rfl⟩ := hl
    obtain ⟨v, q1, q2, q3⟩ := slice_ok hA hP.types r h5 (he x _ h1).1 (opt_ok he h2) (opt_ok he h3) (opt_ok he h4)
    exact wp_did (by simp only [execOp, hop]) (Did.value r q1 q2 (q3 _ (he x _ h1).2)) hK
  case fieldAddr s x i =>
    simp only [Option.bind_eq_bind, Option.bind_eq_some_iff, Option.some.injEq, Prod.mk.injEq] at hl
    obtain ⟨dx, h1, d', h3, rfl, rfl⟩ := hl
    obtain ⟨v, q1, q2, q3⟩ := fieldAddr_ok hA h3 (he x _ h1).1
    exact wp_did (by simp only [execOp, hop]) (Did.value r q1 q2 (q3 _ (he x _ h1).2)) hK
  case field s x i =>
    simp only [Option.bind_eq_bind, Option.bind_eq_some_iff, Option.some.injEq, Prod.mk.injEq] at hl
    obtain ⟨dx, h1, d', h3, rfl, rfl⟩ := hl
    obtain ⟨v, q1, q2, q3⟩ := field_ok hA h3 (he x _ h1).1 hP.types
    exact wp_did (by simp only [execOp, hop]) (Did.value r q1 q2 (q3 _ (he x _ h1).2)) hK
  case indexAddr t x i =>
    simp only [Option.bind_eq_bind, Option.bind_eq_some_iff, Option.some.injEq, Prod.mk.injEq] at hl
    obtain ⟨dx, h1, di, h2, d', h3, rfl, rfl⟩ := hl
    obtain ⟨v, q1, q2, q3⟩ := indexAddr_ok hA hP.types h3 (he x _ h1).1 (he i _ h2).1
    exact wp_did (by simp only [execOp, hop]) (Did.value r q1 q2 (q3 _ (he x _ h1).2)) hK
  case index t x i =>
    simp only [Option.bind_eq_bind, Option.bind_eq_some_iff, Option.some.injEq, Prod.mk.injEq] at hl
    obtain ⟨dx, h1, di, h2, d', h3, rfl, rfl⟩ := hl
    obtain ⟨v, q1, q2, q3⟩ := index_ok hA hP.types h3 (he x _ h1).1 (he i _ h2).1
    exact wp_did (by simp only [execOp, hop]) (Did.value r q1 q2 (q3 _ (he x _ h1).2)) hK
  case extract x i =>
    simp only [Option.bind_eq_bind, Option.bind_eq_some_iff] at hl
    obtain ⟨dx, h1, hl⟩ := hl
    obtain ⟨hv, hb⟩ := he x _ h1
    split at hl
    · rename_i l
      simp only [Option.bind_eq_some_iff, Option.some.injEq, Prod.mk.injEq] at hl
      obtain ⟨d', h2, rfl, rfl⟩ := hl
      simp only [VW, V] at hv
      obtain ⟨arr, e, hv⟩ := hv
      obtain ⟨v, q1, q2⟩ := hv.get h2
      rw [Array.getElem?_toList] at q1
      refine wp_did (s := Instr.extract (a.eval x) i) (by simp only [execOp, hop]) (Did.value r (v := v) (by rw [e]; simp [Instr.extract, q1]) q2 ?_) hK
      simp only [rb] at hb
      exact rbL_iff.1 hb _ (List.mem_of_getElem? h2)
    · cases hl
  case call c =>
    cases hc : c.callee with
    | builtin b =>
      simp only [hc, Option.bind_eq_bind, Option.bind_eq_some_iff] at hl
      obtain ⟨ds, h1, hl⟩ := hl
      obtain ⟨p1, p2⟩ := args_ok he h1
      obtain ⟨s, q1, q2⟩ := builtin_ok (ty := o.type) hP r hx hl p1 p2
      refine wp_did (s := s) ?_ q1 hK
      have : (c.args.toList.map a.eval).toArray = c.args.map a.eval := by rw [← Array.toList_inj]; simp
      rw [this] at q2
      simp only [execOp, hop, resolve, hc, pure_bind, invoke]
      exact q2 _
    | value x =>
      simp only [hc, Option.bind_eq_bind, Option.bind_eq_some_iff] at hl
      obtain ⟨dx, h1, hl⟩ := hl
      obtain ⟨hv, hb⟩ := he x _ h1
      split at hl
      · rename_i g first captured
        simp only [Option.bind_eq_some_iff] at hl
        obtain ⟨ds, h2, hl⟩ := hl
        obtain ⟨p1, p2⟩ := args_ok he h2
        simp only [VW, V] at hv
        obtain ⟨b1, b2, e, hv1, hv2⟩ := hv
        simp only [rb, Bool.and_eq_true] at hb
        refine enter_ok hC r hx hG hbase hl ((VL.append hv1 p1).append hv2) (by simp [rbL_append, hb.1, hb.2, p2]) (fun hg => ?_) hK
        have : (b1.toList ++ c.args.toList.map a.eval ++ b2.toList).toArray = b1 ++ c.args.map a.eval ++ b2 := by rw [← Array.toList_inj]; simp
        rw [this]
        simp only [execOp, hop, resolve, hc, e, Deferred.ofValue, pure_bind, invoke]
        exact callFunc_run hP hg w
      · cases hl
    | invoke x name =>
      simp only [hc, Option.bind_eq_bind, Option.bind_eq_some_iff] at hl
      obtain ⟨dx, h1, hl⟩ := hl
      obtain ⟨hv, hb⟩ := he x _ h1
      split at hl
      · rename_i t d1
        simp only [Option.bind_eq_some_iff] at hl
        obtain ⟨g, hm, ds, h2, hl⟩ := hl
        obtain ⟨p1, p2⟩ := args_ok he h2
        simp only [VW, V] at hv
        obtain ⟨u, e, hv1⟩ := hv
        simp only [rb] at hb
        refine enter_ok hC r hx hG hbase hl (VL.cons hv1 p1) (by simp [rbL, hb, p2]) (fun hg => ?_) hK
        have ht : (u :: c.args.toList.map a.eval).toArray = #[u] ++ c.args.map a.eval := by rw [← Array.toList_inj]; simp
        rw [ht]
        simp only [execOp, hop, resolve, hc, e, pure_bind, invoke]
        have h0 : (#[Value.iface t u] ++ c.args.map a.eval)[0]? = some (.iface t u) := by rw [Array.getElem?_append_left (Nat.zero_lt_succ 0)]; rfl
        have hex : (#[Value.iface t u] ++ c.args.map a.eval).extract 1 (#[Value.iface t u] ++ c.args.map a.eval).size = c.args.map a.eval := by
          rw [← Array.toList_inj]
          simp only [Array.toList_extract, List.extract_eq_take_drop, Array.toList_append, Array.size_append, List.cons_append, List.nil_append, List.drop_succ_cons, List.drop_zero]
          exact List.take_of_length_le (by simp)
        simp only [h0, hex, callMethod, Sem.run_bind, run_program, Result.andThen_ok, hP.meth t name g hm u w]
        exact callFunc_run hP hg w
      · cases hl
end Go.Dn

namespace Go.Dn

inductive Ex where
  | norm | exit (id : Nat) | ret

def iterD (n : Nat) (body : Env → H → Option (Ex × Env × H)) : Nat → Env → H → Option (Ex × Env × H)
  | 0, _, _ => none
  | k + 1, e, h =>
    match body e h with
    | some (.norm, e', h') => iterD n body k (e'.compact n) h'
    | r => r

mutual
def D.same : D → D → Bool
  | .bool a, .bool b => a == b
  | .int k n, .int k' n' => decide (k = k') && decide (n = n')
  | .str l, .str l' => decide (l = l')
  | .nilp, .nilp | .nils, .nils | .nilfn, .nilfn | .nilif, .nilif | .nilm, .nilm => true
  | .ptr a b c, .ptr a' b' c' => decide (a = a') && decide (b = b') && decide (c = c')
  | .iptr a, .iptr b => D.sameL a b
  | .vs a c, .vs a' c' => D.sameLL a a' && c == c'
  | .rs a b c d e f g, .rs a' b' c' d' e' f' g' => decide (a = a') && decide (b = b') && decide (c = c') && decide (d = d') && decide (e = e') && decide (f = f') && g == g'
  | .fn (.func f) a b, .fn (.func f') a' b' => decide (f = f') && D.sameL a a' && D.sameL b b'
  | .ifc t a, .ifc t' a' => decide (t = t') && D.same a a'
  | .agg a, .agg b => D.sameL a b
  | .tup a, .tup b => D.sameL a b
  | _, _ => false
def D.sameL : List D → List D → Bool
  | [], [] => true
  | a :: l, b :: m => D.same a b && D.sameL l m
  | _, _ => false
def D.sameLL : List (List D) → List (List D) → Bool
  | [], [] => true
  | a :: l, b :: m => D.sameL a b && D.sameLL l m
  | _, _ => false
end

/-- The states on the way through a region. -/
def traceD (A : Ann) (call : CallFn) (f : FuncId) (base : Nat) (ops : Array Oper) : List Oper → Env → H → List (Env × H)
  | [], e, h => [(e, h)]
  | o :: r, e, h =>
    (e, h) :: match stepD A call f base ops o e h with
    | some (e', h') => traceD A call f base ops r e' h'
    | none => []

/-- What only reads, reads the same at the other place. -/
def pairOk (A : Ann) (call : CallFn) (f : FuncId) (base : Nat) (ops : Array Oper) (l : List Oper) (tr : List (Env × H)) (k p : Nat) : Bool :=
  match l[k]?, tr[k]?, tr[p]? with
  | some o, some (e, h), some (_, h') =>
    !(wantD ops e o) || (match denOp A call f base (evalD A e) o h, denOp A call f base (evalD A e) o h' with
    | some (d, h1), some (d', h2) => D.same d d' && h1.length == h.length && h2.length == h'.length
    | _, _ => false)
  | _, _, _ => false
def pairsOk (A : Ann) (call : CallFn) (f : FuncId) (base : Nat) (ops : Array Oper) (l : List Oper) (tr : List (Env × H)) (ps : List (Nat × Nat)) : Bool :=
  ps.all fun (k, p) => pairOk A call f base ops l tr k p

def regList (A : Ann) (f : FuncId) (id : Nat) (ops : Array Oper) : List Oper :=
  match A.ord f id with
  | some ord => ord.filterMap (ops[·]?)
  | none => ops.toList

def regionD (A : Ann) (call : CallFn) (f : FuncId) (base id : Nat) (ops : Array Oper) (draw : Bool) (e : Env) (h : H) : Option (Env × H) :=
  if draw then
    match A.pairs f id with
    | [] => opsD A call f base ops (regList A f id ops) e h
    | ps => if pairsOk A call f base ops (regList A f id ops) (traceD A call f base ops (regList A f id ops) e h) ps then opsD A call f base ops (regList A f id ops) e h else none
  else opsD A call f base ops ops.toList e h

def denC (A : Ann) (call : CallFn) (f : FuncId) (base : Nat) (fuel : Nat) : Code → Env → H → Option (Ex × Env × H)
  | .skip, e, h => some (.norm, e, h)
  | .region id ops draw, e, h =>
    match regionD A call f base id ops draw e h with
    | some (e', h') => some (.norm, e', h')
    | none => none
  | .seq a b, e, h =>
    match denC A call f base fuel a e h with
    | some (.norm, e', h') => denC A call f base fuel b e' h'
    | r => r
  | .cond c a b, e, h =>
    match evalD A e c with
    | some (.bool true) => denC A call f base fuel a e h
    | some (.bool false) => denC A call f base fuel b e h
    | _ => none
  | .block id b, e, h =>
    match denC A call f base fuel b e h with
    | some (.exit i, e', h') => if i = id then some (.norm, e', h') else some (.exit i, e', h')
    | r => r
  | .loop b, e, h => iterD (A.ntmps f) (denC A call f base fuel b) fuel e h
  | .exit id, e, h => some (.exit id, e, h)
  | .ret, e, h => some (.ret, e, h)
  | _, _, _ => none

def resD (A : Ann) (h : H) (e : Env) : List ResultVar → Option (List D)
  | [] => some []
  | .tmp t :: r => do some (e.get t :: (← resD A h e r))
  | .cell a t :: r => do some ((← loadD A h t (e.get a)) :: (← resD A h e r))
def oneD : List D → D
  | [d] => d
  | l => .tup l

def bodyD (A : Ann) (F : FuncId → Option Func) (call : CallFn) (fuel : Nat) (g base : Nat) (args : List D) (h : H) : Option (D × H) :=
  match F g with
  | none => none
  | some fn =>
    match fn.body with
    | none => none
    | some c =>
      if A.ntmps g < args.length then none else
      match denC A call g base fuel c (Env.init 0 args) h with
      | some (.norm, e, h') => do some (oneD (← resD A h' e fn.results.toList), h')
      | some (.ret, e, h') => do some (oneD (← resD A h' e fn.results.toList), h')
      | _ => none

def isScalar : D → Bool
  | .bool _ | .int .. | .str _ | .nilp | .nils | .nilfn | .nilif | .nilm => true
  | .tup l => l.all fun d => match d with | .bool _ | .int .. | .str _ | .nilp | .nils | .nilfn | .nilif | .nilm => true | _ => false
  | .agg l => l.all fun d => match d with | .bool _ | .int .. | .str _ | .nilp | .nils | .nilfn | .nilif | .nilm => true | _ => false
  | _ => false

/-- The deterministic semantics of a call by function f of function g. -/
def denF (A : Ann) (F : FuncId → Option Func) : Nat → CallFn
  | 0 => fun _ _ _ _ _ => none
  | n + 1 => fun f base g args h =>
      match A.mode f g with
      | .auto =>
        if rbL 0 args then (do
          let (r, h') ← bodyD A F (denF A F n) n g 0 args []
          let r' ← frz 10 h' 0 r
          if rb 0 r' then some (r', h) else none)
        else (do
          let (r, h') ← bodyD A F (denF A F n) n g h.length args h
          let r' ← frz 10 h' h.length r
          if rb h.length r' then some (r', h'.take h.length) else none)
      | .lent => do
        let as' ← args.mapM (frz 10 h 0)
        if rbL 0 as' then (do
          let (r, _) ← bodyD A F (denF A F n) n g 0 as' []
          if isScalar r then some (r, h) else none)
        else none
      | .scopd => do
        let (r, h') ← bodyD A F (denF A F n) n g h.length args h
        let r' ← frz 10 h' h.length r
        if rb h.length r' then some (r', h'.take h.length) else none
      | .grow => bodyD A F (denF A F n) n g base args h

end Go.Dn

namespace Go.Dn
variable {X0 : Nat → Prop} {β β' β'' : Bt} {h h' h'' : H} {w w' w'' : World} {P : Program} {A : Ann} {base n : Nat}

/-- The variables of an activation. -/
structure EnvOk (n : Nat) (X0 : Nat → Prop) (β : Bt) (h : H) (w : World) (e : Env) (a : Act) : Prop where
  size : a.tmps.size = n
  defers : a.defers = []
  val : ∀ t, VW X0 β h w (e.get t) (a.tmps.getD t undef) ∧ rb h.length (e.get t) = true
  out : ∀ t, n ≤ t → e.get t = undefD

theorem Env.get_put (e : Env) (t : Nat) (d : D) (k : Nat) : (e.put (some t) d).get k = if t = k then d else e.get k := rfl

theorem EnvOk.next {e : Env} {a : Act} (he : EnvOk n X0 β h w e a) (nx : Nx X0 β h w β' h' w') : EnvOk n X0 β' h' w' e a :=
  ⟨he.size, he.defers, fun t => ⟨VW.next nx (he.val t).2 (he.val t).1, rb_mono nx.len (he.val t).2⟩, he.out⟩
theorem EnvOk.put {e : Env} {a : Act} (he : EnvOk n X0 β h w e a) {d : D} {v : Value} (hv : VW X0 β h w d v) (hb : rb h.length d = true) {o : Option Tmp} (ho : ∀ t, o = some t → t < n) : EnvOk n X0 β h w (e.put o d) (a.put o v) := by
  cases o with
  | none => exact he
  | some t =>
    have ht := ho t rfl
    refine ⟨by simpa [Act.put] using he.size, he.defers, fun k => ?_, fun k hk => ?_⟩
    · rw [Env.get_put]
      by_cases e1 : t = k
      · subst e1
        have hs := he.size
        simp only [if_true, Act.put]
        rw [show (a.tmps.setIfInBounds t v).getD t undef = v by simp [hs, ht]]
        exact ⟨hv, hb⟩
      · rw [if_neg e1]
        simp only [Act.put]
        rw [show (a.tmps.setIfInBounds t v).getD k undef = a.tmps.getD k undef by simp [Array.getElem?_setIfInBounds_ne e1]]
        exact he.val k
    · rw [Env.get_put, if_neg (fun e1 : t = k => absurd hk (Nat.not_le.2 (e1 ▸ ht)))]
      exact he.out k hk

theorem EnvOk.ev (hG : GlobOk A X0 β h w) {e : Env} {a : Act} (he : EnvOk n X0 β h w e a) : EvOk X0 β h w (evalD A e) a.eval := by
  intro x d hx
  cases x with
  | tmp t =>
    simp only [evalD, Option.some.injEq] at hx
    subst hx
    exact he.val t
  | const v =>
    simp only [evalD] at hx
    have := ofV_ok (cl := w.cell?) (X := XX X0 β h) (ρ := rho w β h) hx
    exact ⟨this.1, rb_mono (Nat.zero_le _) this.2⟩
  | global g =>
    simp only [evalD, Option.map_eq_some_iff] at hx
    obtain ⟨cs, h1, rfl⟩ := hx
    refine ⟨?_, rfl⟩
    simp only [VW, V]
    exact ⟨_, rfl, hG g cs h1⟩
  | func f =>
    simp only [evalD, Option.some.injEq] at hx
    subst hx
    refine ⟨?_, rfl⟩
    simp only [VW, V]
    exact ⟨_, _, rfl, VL.nil, VL.nil⟩

def vB : Value → Option Bool
  | .bool b => some b
  | _ => none
def dB : D → Option Bool
  | .bool b => some b
  | _ => none
theorem boolD {d : D} {v : Value} (hv : VW X0 β h w d v) : vB v = dB d := by
  cases d <;> simp only [VW, V] at hv <;> first | (subst hv; rfl) | (obtain ⟨_, rfl, _⟩ := hv; rfl) | (obtain ⟨_, _, rfl, _⟩ := hv; rfl) | (obtain ⟨_, _, _, rfl, _⟩ := hv; rfl)
theorem yielded_vB (ops : Array Oper) (tmps : Array Value) (j : Nat) : yielded ops tmps j = match (ops[j]?).bind (·.dst) with | some t => vB (tmps.getD t undef) | none => none := by
  unfold yielded
  cases (ops[j]?).bind (·.dst) with
  | none => rfl
  | some t =>
    simp only [Option.bind_some]
    cases ht : tmps[t]? with
    | none => simp [ht, undef, vB]
    | some v =>
      have hd : tmps.getD t undef = v := by simp [ht]
      rw [hd]
      cases v <;> rfl
theorem wantD_dB (ops : Array Oper) (e : Env) (o : Oper) : wantD ops e o = match o.guard with | none => true | some (j, want) => match (ops[j]?).bind (·.dst) with | some t => dB (e.get t) == some want | none => false := by
  unfold wantD
  cases o.guard with
  | none => rfl
  | some g =>
    obtain ⟨j, want⟩ := g
    cases hj : (ops[j]?).bind (·.dst) with
    | none => simp only [hj]
    | some t =>
      simp only [hj]
      cases e.get t <;> first | rfl | (simp [dB])

theorem wanted_ok {e : Env} {a : Act} (he : EnvOk n X0 β h w e a) (ops : Array Oper) (o : Oper) : Region.wanted o (yielded ops a.tmps) = wantD ops e o := by
  rw [wantD_dB]
  unfold Region.wanted
  cases o.guard with
  | none => rfl
  | some g =>
    obtain ⟨j, want⟩ := g
    simp only [yielded_vB]
    cases hj : (ops[j]?).bind (·.dst) with
    | none => rfl
    | some t => simp only [boolD (he.val t).1]

/-- All that holds between the evaluator's state and the machine's. -/
structure At (A : Ann) (n : Nat) (X0 : Nat → Prop) (β : Bt) (e : Env) (h : H) (a : Act) (w : World) : Prop where
  rel : Rel X0 β h w
  low : XLow X0 w
  glob : GlobOk A X0 β h w
  env : EnvOk n X0 β h w e a

/-- A state that comes later. -/
def Later (A : Ann) (n : Nat) (X0 : Nat → Prop) (base : Nat) (β : Bt) (h : H) (w : World) (e' : Env) (h' : H) (a' : Act) (w' : World) : Prop :=
  ∃ β', Step X0 base β h w β' h' w' ∧ EnvOk n X0 β' h' w' e' a'

theorem At.later {e e' : Env} {a a' : Act} (s : At A n X0 β e h a w) (st : Step X0 base β h w β' h' w') (he : EnvOk n X0 β' h' w' e' a') : At A n X0 β' e' h' a' w' :=
  ⟨st.rel, s.low.next st.nx, s.glob.next st.nx, he⟩

theorem stepD_wp (hP : ProgOk P A) {call : CallFn} (hC : CallOk P A call) {f : FuncId} {e e' : Env} {a : Act} (s : At A n X0 β e h a w) (hbase : base ≤ h.length) {ops : Array Oper} {o : Oper} (ho : ∀ t, o.dst = some t → t < n)
    (hl : stepD A call f base ops o e h = some (e', h')) {K : Act → World → Prop} {Q : Exit → Act → World → Prop}
    (hK : ∀ a' w', Later A n X0 base β h w e' h' a' w' → K a' w') :
    if Region.wanted o (yielded ops a.tmps) then o.wp P a w K Q ∨ (o.asks P a w ∧ LetsOut Q) else K (a.put o.dst undef) w := by
  rw [wanted_ok s.env]
  unfold stepD at hl
  split at hl
  · rename_i hw
    simp only [Option.bind_eq_bind, Option.bind_eq_some_iff, Option.some.injEq, Prod.mk.injEq, Prod.exists] at hl
    obtain ⟨d, h1, hd, rfl, rfl⟩ := hl
    rw [hw]
    simp only [if_true]
    refine .inl (denOp_wp hP hC s.rel s.low s.glob hbase hd (s.env.ev s.glob) fun v β' w' st hv hb => hK _ _ ⟨β', st, (s.env.next st.nx).put hv hb ho⟩)
  · rename_i hw
    simp only [Bool.not_eq_true] at hw
    simp only [Option.some.injEq, Prod.mk.injEq] at hl
    obtain ⟨rfl, rfl⟩ := hl
    rw [hw]
    simp only [Bool.false_eq_true, if_false]
    exact hK _ _ ⟨β, .refl s.rel, s.env.put undef_ok (undef_rb _) ho⟩

theorem opsD_wp (hP : ProgOk P A) {call : CallFn} (hC : CallOk P A call) {f : FuncId} {ops : Array Oper} {Q : Exit → Act → World → Prop} {e' : Env} : ∀ {l : List Oper} {β : Bt} {h : H} {w : World} {e : Env} {a : Act}, At A n X0 β e h a w → base ≤ h.length →
    (∀ o ∈ l, ∀ t, o.dst = some t → t < n) → opsD A call f base ops l e h = some (e', h') → (∀ a' w', Later A n X0 base β h w e' h' a' w' → Q .normal a' w') → wpList P ops Q l a w
  | [], β, h, w, e, a, s, hbase, ho, hl, hQ => by
    simp only [opsD, Option.some.injEq, Prod.mk.injEq] at hl
    obtain ⟨rfl, rfl⟩ := hl
    exact hQ _ _ ⟨β, .refl s.rel, s.env⟩
  | o :: l, β, h, w, e, a, s, hbase, ho, hl, hQ => by
    unfold opsD at hl
    cases hs : stepD A call f base ops o e h with
    | none => simp [hs] at hl
    | some r =>
      obtain ⟨e1, h1⟩ := r
      simp only [hs] at hl
      unfold wpList
      refine stepD_wp hP hC s hbase (ho o (by simp)) hs fun a1 w1 hl1 => ?_
      obtain ⟨β1, st, he1⟩ := hl1
      refine opsD_wp hP hC (s.later st he1) (Nat.le_trans hbase st.nx.len) (fun o' ho' => ho o' (by simp [ho'])) hl fun a2 w2 hl2 => ?_
      obtain ⟨β2, st2, he2⟩ := hl2
      exact hQ _ _ ⟨β2, st.trans st2, he2⟩

/-- What is asked of a drawing region. -/
def RegOk (P : Program) (A : Ann) (n : Nat) (f : FuncId) (id : Nat) (ops : Array Oper) : Prop :=
  ∀ (call : CallFn), CallOk P A call → ∀ (X0 : Nat → Prop) (base : Nat) (β : Bt) (e : Env) (h : H) (a : Act) (w : World) (e' : Env) (h' : H) (Q : Exit → Act → World → Prop), At A n X0 β e h a w → base ≤ h.length →
    regionD A call f base id ops true e h = some (e', h') → (∀ a' w', Later A n X0 base β h w e' h' a' w' → Q .normal a' w') → (Code.region id ops true).wp P Q a w

def dstsOk (n : Nat) (ops : Array Oper) : Bool := ops.toList.all fun o => match o.dst with | some t => decide (t < n) | none => true
theorem dstsOk_spec {ops : Array Oper} (h : dstsOk n ops = true) : ∀ o ∈ ops.toList, ∀ t, o.dst = some t → t < n := by
  intro o ho t ht
  have := List.all_eq_true.1 h o ho
  simp only [ht, decide_eq_true_eq] at this
  exact this

/-- What is asked of code. -/
def CodeOk (P : Program) (A : Ann) (n : Nat) (f : FuncId) : Code → Prop
  | .region id ops draw => dstsOk n ops = true ∧ (draw = true → RegOk P A n f id ops)
  | .seq a b => CodeOk P A n f a ∧ CodeOk P A n f b
  | .cond _ a b => CodeOk P A n f a ∧ CodeOk P A n f b
  | .block _ b => CodeOk P A n f b
  | .loop b => CodeOk P A n f b
  | _ => True

def Ex.out : Ex → Exit
  | .norm => .normal
  | .exit id => .exit id
  | .ret => .ret

theorem compact_get (n : Nat) (e : Env) (t : Nat) : (e.compact n).get t = if t < n then e.get t else undefD := by
  have key : ∀ (l : List Nat), Env.get (l.map fun t => (t, e.get t)) t = if t ∈ l then e.get t else undefD := by
    intro l
    induction l with
    | nil => simp [Env.get]
    | cons x l ih =>
      simp only [List.map_cons, Env.get, ih, List.mem_cons]
      by_cases hx : x = t
      · subst hx; simp
      · have : ¬ t = x := fun h => hx h.symm
        simp [hx, this]
  unfold Env.compact
  rw [key]
  simp
theorem EnvOk.compact {e : Env} {a : Act} (he : EnvOk n X0 β h w e a) : EnvOk n X0 β h w (e.compact n) a := by
  have hg : ∀ t, (e.compact n).get t = e.get t := fun t => by
    rw [compact_get]
    split
    · rfl
    · exact (he.out t (by omega)).symm
  exact ⟨he.size, he.defers, fun t => by rw [hg]; exact he.val t, fun t ht => by rw [hg]; exact he.out t ht⟩

theorem denC_wp (hP : ProgOk P A) {call : CallFn} (hC : CallOk P A call) {f : FuncId} {fuel : Nat} (hn : A.ntmps f = n) : ∀ {c : Code} {β : Bt} {h : H} {w : World} {e : Env} {a : Act} {x : Ex} {e' : Env} {h' : H} {Q : Exit → Act → World → Prop}, CodeOk P A n f c →
    At A n X0 β e h a w → base ≤ h.length → denC A call f base fuel c e h = some (x, e', h') → (∀ a' w', Later A n X0 base β h w e' h' a' w' → Q x.out a' w') → c.wp P Q a w
  | .skip, β, h, w, e, a, x, e', h', Q, hc, s, hb, hl, hQ => by
    simp only [denC, Option.some.injEq, Prod.mk.injEq] at hl
    obtain ⟨rfl, rfl, rfl⟩ := hl
    exact wp_skip (hQ _ _ ⟨β, .refl s.rel, s.env⟩)
  | .region id ops draw, β, h, w, e, a, x, e', h', Q, hc, s, hb, hl, hQ => by
    simp only [denC] at hl
    cases hr : regionD A call f base id ops draw e h with
    | none => simp [hr] at hl
    | some r =>
      obtain ⟨e1, h1⟩ := r
      simp only [hr, Option.some.injEq, Prod.mk.injEq] at hl
      obtain ⟨rfl, rfl, rfl⟩ := hl
      obtain ⟨hd, hreg⟩ := hc
      cases draw with
      | true => exact hreg rfl call hC X0 base β e h a w _ _ Q s hb hr hQ
      | false =>
        simp only [regionD, Bool.false_eq_true, if_false] at hr
        exact wp_region_list (opsD_wp hP hC s hb (dstsOk_spec hd) hr hQ)
  | .seq c1 c2, β, h, w, e, a, x, e', h', Q, hc, s, hb, hl, hQ => by
    simp only [denC] at hl
    cases h1 : denC A call f base fuel c1 e h with
    | none => simp [h1] at hl
    | some r =>
      obtain ⟨x1, e1, h1'⟩ := r
      rw [h1] at hl
      refine wp_seq (denC_wp hP hC hn hc.1 s hb h1 fun a1 w1 hl1 => ?_)
      obtain ⟨β1, st, he1⟩ := hl1
      cases x1 with
      | norm =>
        refine denC_wp hP hC hn hc.2 (s.later st he1) (Nat.le_trans hb st.nx.len) hl fun a2 w2 hl2 => ?_
        obtain ⟨β2, st2, he2⟩ := hl2
        exact hQ _ _ ⟨β2, st.trans st2, he2⟩
      | exit id =>
        simp only [Option.some.injEq, Prod.mk.injEq] at hl
        obtain ⟨rfl, rfl, rfl⟩ := hl
        exact hQ _ _ ⟨β1, st, he1⟩
      | ret =>
        simp only [Option.some.injEq, Prod.mk.injEq] at hl
        obtain ⟨rfl, rfl, rfl⟩ := hl
        exact hQ _ _ ⟨β1, st, he1⟩
  | .cond c c1 c2, β, h, w, e, a, x, e', h', Q, hc, s, hb, hl, hQ => by
    simp only [denC] at hl
    split at hl
    · rename_i hb'
      have hv := (s.env.ev s.glob c _ hb').1
      simp only [VW, V] at hv
      exact wp_cond_true hv (denC_wp hP hC hn hc.1 s hb hl hQ)
    · rename_i hb'
      have hv := (s.env.ev s.glob c _ hb').1
      simp only [VW, V] at hv
      exact wp_cond_false hv (denC_wp hP hC hn hc.2 s hb hl hQ)
    · cases hl
  | .block id c, β, h, w, e, a, x, e', h', Q, hc, s, hb, hl, hQ => by
    simp only [denC] at hl
    cases h1 : denC A call f base fuel c e h with
    | none => simp [h1] at hl
    | some r =>
      obtain ⟨x1, e1, h1'⟩ := r
      rw [h1] at hl
      refine wp_block (denC_wp hP hC hn hc s hb h1 fun a1 w1 hl1 => ?_)
      cases x1 with
      | norm =>
        simp only [Option.some.injEq, Prod.mk.injEq] at hl
        obtain ⟨rfl, rfl, rfl⟩ := hl
        exact hQ _ _ hl1
      | exit i =>
        simp only [] at hl
        simp only [Ex.out, Exit.inBlock]
        split at hl
        · rename_i hi
          simp only [Option.some.injEq, Prod.mk.injEq] at hl
          obtain ⟨rfl, rfl, rfl⟩ := hl
          rw [if_pos hi]
          exact hQ _ _ hl1
        · rename_i hi
          simp only [Option.some.injEq, Prod.mk.injEq] at hl
          obtain ⟨rfl, rfl, rfl⟩ := hl
          rw [if_neg hi]
          exact hQ _ _ hl1
      | ret =>
        simp only [Option.some.injEq, Prod.mk.injEq] at hl
        obtain ⟨rfl, rfl, rfl⟩ := hl
        exact hQ _ _ hl1
  | .loop c, β, h, w, e, a, x, e', h', Q, hc, s, hb, hl, hQ => by
    simp only [denC, hn] at hl
    refine wp_loop_rounds fuel ?_
    have key : ∀ (k : Nat) (β : Bt) (h : H) (w : World) (e : Env) (a : Act), At A n X0 β e h a w → base ≤ h.length → iterD n (denC A call f base fuel c) k e h = some (x, e', h') →
        (∀ a' w', Later A n X0 base β h w e' h' a' w' → Q x.out a' w') → Code.rounds P c Q k a w := by
      intro k
      induction k with
      | zero => intro β h w e a s hb hl hQ; simp [iterD] at hl
      | succ k ih =>
        intro β h w e a s hb hl hQ
        simp only [iterD] at hl
        rw [rounds_succ]
        cases h1 : denC A call f base fuel c e h with
        | none => simp [h1] at hl
        | some r =>
          obtain ⟨x1, e1, h1'⟩ := r
          rw [h1] at hl
          refine denC_wp hP hC hn hc s hb h1 fun a1 w1 hl1 => ?_
          obtain ⟨β1, st, he1⟩ := hl1
          cases x1 with
          | norm =>
            refine ih β1 h1' w1 (e1.compact n) a1 (s.later st he1.compact) (Nat.le_trans hb st.nx.len) hl fun a2 w2 hl2 => ?_
            obtain ⟨β2, st2, he2⟩ := hl2
            exact hQ _ _ ⟨β2, st.trans st2, he2⟩
          | exit id =>
            simp only [Option.some.injEq, Prod.mk.injEq] at hl
            obtain ⟨rfl, rfl, rfl⟩ := hl
            exact hQ _ _ ⟨β1, st, he1⟩
          | ret =>
            simp only [Option.some.injEq, Prod.mk.injEq] at hl
            obtain ⟨rfl, rfl, rfl⟩ := hl
            exact hQ _ _ ⟨β1, st, he1⟩
    exact key fuel β h w e a s hb hl hQ
  | .exit id, β, h, w, e, a, x, e', h', Q, hc, s, hb, hl, hQ => by
    simp only [denC, Option.some.injEq, Prod.mk.injEq] at hl
    obtain ⟨rfl, rfl, rfl⟩ := hl
    exact wp_exit (hQ _ _ ⟨β, .refl s.rel, s.env⟩)
  | .ret, β, h, w, e, a, x, e', h', Q, hc, s, hb, hl, hQ => by
    simp only [denC, Option.some.injEq, Prod.mk.injEq] at hl
    obtain ⟨rfl, rfl, rfl⟩ := hl
    exact wp_ret (hQ _ _ ⟨β, .refl s.rel, s.env⟩)
  | .label _, β, h, w, e, a, x, e', h', Q, hc, s, hb, hl, hQ => by simp [denC] at hl
  | .goto _, β, h, w, e, a, x, e', h', Q, hc, s, hb, hl, hQ => by simp [denC] at hl
  | .scope _, β, h, w, e, a, x, e', h', Q, hc, s, hb, hl, hQ => by simp [denC] at hl
  | .rangeFunc .., β, h, w, e, a, x, e', h', Q, hc, s, hb, hl, hQ => by simp [denC] at hl
end Go.Dn

namespace Go.Dn
variable {X0 : Nat → Prop} {β β' β'' : Bt} {h h' h'' : H} {w w' w'' : World} {P : Program} {A : Ann} {base n : Nat}

theorem get_take {m id : Nat} {k : Blk} (hg : H.get (h.take m) id = some k) : id < m ∧ h.get id = some k := by
  unfold H.get at *
  rw [List.getElem?_take] at hg
  split at hg
  · exact ⟨by assumption, hg⟩
  · simp at hg
theorem take_get {m id : Nat} (hi : id < m) : H.get (h.take m) id = h.get id := by
  unfold H.get
  rw [List.getElem?_take, if_pos hi]
theorem take_len {m : Nat} (hm : m ≤ h.length) : (h.take m).length = m := by simp; omega

theorem XX.take {m b : Nat} (hx : XX X0 β (h.take m) b) : XX X0 β h b := by
  rcases hx with h0 | ⟨id, k, hk, e⟩
  · exact .inl h0
  · exact .inr ⟨id, k, (get_take hk).2, e⟩

theorem rho_take {m id ver off : Nat} {a : Addr} (hi : id < m) (hp : (rho w β h).p id ver off a) : (rho w β (h.take m)).p id ver off a := by
  refine ⟨fun k hk => hp.1 k (get_take hk).2, ?_⟩
  rintro ⟨k, hk, e⟩
  exact hp.2 ⟨k, (get_take hk).2, e⟩
theorem rho_take_r {m id ver off len cap sz : Nat} {clip : Bool} {a : Addr} {c : Nat} (hi : id < m) (hp : (rho w β h).r id ver off len cap sz clip a c) : (rho w β (h.take m)).r id ver off len cap sz clip a c := by
  refine ⟨fun k hk => hp.1 k (get_take hk).2, ?_⟩
  rintro ⟨k, hk, e⟩
  exact hp.2 ⟨k, (get_take hk).2, e⟩
theorem VW.take {m : Nat} {d : D} {v : Value} (hb : rb m d = true) (hv : VW X0 β h w d v) : VW X0 β (h.take m) w d v :=
  V.mono (m := m) (fun _ _ h1 h2 => ⟨h1, fun hx => h2 hx.take⟩) (fun _ _ _ _ hi hp => rho_take hi hp) (fun _ _ _ _ _ _ _ _ _ hi hp => rho_take_r hi hp) hb hv
theorem VLW.take' {m : Nat} {ds : List D} {l : List Value} (hb : rbL m ds = true) (hv : VLW X0 β h w ds l) : VLW X0 β (h.take m) w ds l :=
  VL.mono (m := m) (fun _ _ h1 h2 => ⟨h1, fun hx => h2 hx.take⟩) (fun _ _ _ _ hi hp => rho_take hi hp) (fun _ _ _ _ _ _ _ _ _ hi hp => rho_take_r hi hp) hb hv

theorem Rel.take (r : Rel X0 β h w) {m : Nat} (hm : m ≤ h.length) (hi : InvAt h m) : Rel X0 β (h.take m) w := by
  refine ⟨fun id k hk => ?_, fun i j k k' hi hj => r.inj i j k k' (get_take hi).2 (get_take hj).2⟩
  obtain ⟨h1, h2⟩ := get_take hk
  obtain ⟨cs, t, fr, hc, ok⟩ := r.blk id k h2
  exact ⟨cs, t, fr, hc, ok.frz, ok.len, VLW.take' (hi id k h1 h2) ok.val, ok.out, by rw [take_len hm]; exact hi id k h1 h2, ok.flat⟩
theorem Nx.take (nx : Nx X0 β h w β' h' w') : Nx X0 β h w β' (h'.take h.length) w' := by
  refine ⟨nx.size, nx.os, nx.tape, nx.output, nx.keepX, nx.keep, by rw [take_len nx.len]; exact Nat.le_refl _, fun id k' hi hk => nx.ids id k' hi (get_take hk).2, fun b hb => ?_⟩
  obtain ⟨id, k, hk, e⟩ := hb
  exact nx.news b ⟨id, k, (get_take hk).2, e⟩
theorem Rel.inv (r : Rel X0 β h w) : InvAt h h.length := fun id k _ hk => by
  obtain ⟨cs, t, fr, hc, ok⟩ := r.blk id k hk
  exact ok.rb
theorem Keeps.take (hk : Keeps h.length h h') (r : Rel X0 β h w) (hb : base ≤ h.length) : Keeps base h (h'.take h.length) := fun m hm hi id k hid hk' =>
  hk m (Nat.le_trans hm hb) hi id k hid (get_take hk').2

/-- A call whose own memory is given up. -/
theorem Step.take (st : Step X0 h.length β h w β' h' w') (r : Rel X0 β h w) (hb : base ≤ h.length) : Step X0 base β h w β' (h'.take h.length) w' :=
  ⟨st.rel.take st.nx.len (st.kp _ (Nat.le_refl _) r.inv), st.nx.take, st.kp.take r hb⟩

theorem mapM_cons {f : D → Option D} {d : D} {ds ys : List D} (hm : (d :: ds).mapM f = some ys) : ∃ y r, ys = y :: r ∧ f d = some y ∧ ds.mapM f = some r := by
  simp only [List.mapM_cons, Option.bind_eq_bind, Option.bind_eq_some_iff, Option.pure_def, Option.some.injEq] at hm
  obtain ⟨y, h1, r, h2, rfl⟩ := hm
  exact ⟨y, r, rfl, h1, h2⟩
theorem mapM_nil {f : D → Option D} {ys : List D} (hm : ([] : List D).mapM f = some ys) : ys = [] := by simpa using hm.symm

theorem frz_cell {k lo : Nat} {d d' : D} (hf : frz k h lo d = some d') (hc : d.isCell = true) : d'.isCell = true := by
  cases k with
  | zero => simp [frz] at hf
  | succ k =>
    unfold frz at hf
    split at hf
    · simp only [Option.some.injEq] at hf
      subst hf
      exact hc
    · split at hf
      · simp only [Option.bind_eq_bind, Option.bind_eq_some_iff] at hf
        obtain ⟨cs, h1, ys, h2, h3⟩ := hf
        split at h3
        · simp only [Option.some.injEq] at h3; subst h3; rfl
        · cases h3
      · split at hf
        · split at hf
          · simp only [Option.bind_eq_bind, Option.bind_eq_some_iff] at hf
            obtain ⟨ys, h2, h3⟩ := hf
            split at h3
            · simp only [Option.some.injEq] at h3; subst h3; rfl
            · cases h3
          · cases hf
        · cases hf
      · simp [D.isCell] at hc
      · simp [D.isCell] at hc
      · simp only [Option.bind_eq_bind, Option.bind_eq_some_iff, Option.some.injEq] at hf
        obtain ⟨ys, h2, zs, h4, rfl⟩ := hf
        rfl
      · simp only [Option.bind_eq_bind, Option.bind_eq_some_iff, Option.some.injEq] at hf
        obtain ⟨ys, h2, rfl⟩ := hf
        rfl
      · cases hf

theorem frzL_cell {k lo : Nat} : ∀ {ds ys : List D}, ds.mapM (frz k h lo) = some ys → ds.all D.isCell = true → ys.all D.isCell = true
  | [], ys, hm, _ => by rw [mapM_nil hm]; rfl
  | d :: ds, ys, hm, hc => by
    obtain ⟨y, r, rfl, h1, h2⟩ := mapM_cons hm
    simp only [List.all_cons, Bool.and_eq_true] at hc ⊢
    exact ⟨frz_cell h1 hc.1, frzL_cell h2 hc.2⟩
theorem frzL_len {k lo : Nat} : ∀ {ds ys : List D}, ds.mapM (frz k h lo) = some ys → ys.length = ds.length
  | [], ys, hm => by rw [mapM_nil hm]
  | d :: ds, ys, hm => by
    obtain ⟨y, r, rfl, h1, h2⟩ := mapM_cons hm
    simp [frzL_len h2]

theorem not_live_take (r : Rel X0 β h w) {lo id : Nat} {k : Blk} (hg : h.get id = some k) (hi : lo ≤ id) : ¬ XX X0 β (h.take lo) (β id).1 := by
  rintro (h0 | ⟨j, kj, hk, e⟩)
  · obtain ⟨cs, t, fr, hc, ok⟩ := r.blk id k hg
    exact ok.out h0
  · obtain ⟨h1, h2⟩ := get_take hk
    have := r.inj j id kj k h2 hg e
    omega

/-- Cells in memory that nobody will write. -/
theorem frz_VA {lo : Nat} {a : Addr} {cs ys : List D} {l : List Value} (c : Cellsat X0 β h w a cs l) (hX : ¬ XX X0 β (h.take lo) a.block) (hv : VLW X0 β (h.take lo) w ys l) (hb : rbL 0 ys = true) (hc : ys.all D.isCell = true) :
    VA w.cell? (XX X0 β (h.take lo)) ys a 0 :=
  VA.of_get fun i d hd => by
    obtain ⟨u, h1, h2⟩ := hv.get hd
    have hb' := rbL_iff.1 hb d (List.mem_of_getElem? hd)
    exact ⟨u, by rw [Nat.zero_add]; exact c.at_ i u h1, hX, hb', List.all_eq_true.1 hc d (List.mem_of_getElem? hd), V.free hb' h2⟩

theorem frzL_ok {k lo : Nat} (ih : ∀ (d d' : D) (v : Value), frz k h lo d = some d' → VW X0 β h w d v → VW X0 β (h.take lo) w d' v ∧ rb lo d' = true) : ∀ {ds ys : List D} {l : List Value}, ds.mapM (frz k h lo) = some ys → VLW X0 β h w ds l → VLW X0 β (h.take lo) w ys l ∧ rbL lo ys = true
  | [], ys, l, hm, hv => by
    rw [mapM_nil hm]
    simp only [VLW, VL] at hv ⊢
    exact ⟨hv, rfl⟩
  | d :: ds, ys, l, hm, hv => by
    obtain ⟨y, r, rfl, h1, h2⟩ := mapM_cons hm
    obtain ⟨v, l', rfl, hv1, hv2⟩ := VL.uncons hv
    obtain ⟨q1, q2⟩ := ih d y v h1 hv1
    obtain ⟨q3, q4⟩ := frzL_ok ih h2 hv2
    exact ⟨VL.cons q1 q3, by simp [rbL, q2, q4]⟩

theorem frz_ok (r : Rel X0 β h w) {lo : Nat} : ∀ (k : Nat) (d d' : D) (v : Value), frz k h lo d = some d' → VW X0 β h w d v → VW X0 β (h.take lo) w d' v ∧ rb lo d' = true
  | 0, d, d', v, hf, hv => by simp [frz] at hf
  | k + 1, d, d', v, hf, hv => by
    have ih := frz_ok r (lo := lo) k
    unfold frz at hf
    split at hf
    · rename_i hb
      simp only [Option.some.injEq] at hf
      subst hf
      exact ⟨hv.take hb, hb⟩
    · rename_i hb
      split at hf
      · rename_i id ver off len cap sz clip
        simp only [rb, decide_eq_true_eq, Nat.not_lt] at hb
        simp only [Option.bind_eq_bind, Option.bind_eq_some_iff] at hf
        obtain ⟨cs, h1, ys, h2, h3⟩ := hf
        split at h3
        · rename_i hb0
          simp only [Option.some.injEq] at h3
          subst h3
          obtain ⟨kb, hg, hver, hl, rfl⟩ := rdC_some h1
          obtain ⟨l, hc⟩ := r.cellsat hg hl
          simp only [VW, V] at hv
          obtain ⟨a, c, rfl, hle, hcap, hcl, hp⟩ := hv
          obtain ⟨e, _⟩ := hp.2 ⟨kb, hg, hver⟩
          subst e
          obtain ⟨q1, q2⟩ := frzL_ok ih h2 hc.val
          have hlen := frzL_len h2
          refine ⟨?_, rfl⟩
          simp only [VW, V]
          refine ⟨_, c, sz, by rw [chunks_length], by rw [chunks_length]; omega, by rw [chunks_length]; exact hcl, VE.chunks (frz_VA hc (not_live_take r hg hb) q1 hb0 (frzL_cell h2 hc.flat)) ?_⟩
          rw [hlen, List.length_take, List.length_drop]
          omega
        · cases h3
      · rename_i id ver off
        simp only [rb, decide_eq_true_eq, Nat.not_lt] at hb
        split at hf
        · rename_i kb hg
          split at hf
          · rename_i hver
            simp only [Option.bind_eq_bind, Option.bind_eq_some_iff] at hf
            obtain ⟨ys, h2, h3⟩ := hf
            split at h3
            · rename_i hb0
              simp only [Option.some.injEq] at h3
              subst h3
              simp only [VW, V] at hv
              obtain ⟨a, rfl, hp⟩ := hv
              have e := hp.2 ⟨kb, hg, hver⟩
              subst e
              refine ⟨?_, rfl⟩
              simp only [VW, V]
              refine ⟨_, rfl, ?_⟩
              rcases Nat.lt_or_ge kb.cells.length off with ho | ho
              · rw [List.drop_eq_nil_of_le (by omega)] at h2
                rw [mapM_nil h2]
                simp only [VA]
              · obtain ⟨l, hc⟩ := r.cellsat (off := off) (n := kb.cells.length - off) hg (by omega)
                rw [List.take_of_length_le (by simp)] at hc
                obtain ⟨q1, q2⟩ := frzL_ok ih h2 hc.val
                exact frz_VA hc (not_live_take r hg hb) q1 hb0 (frzL_cell h2 hc.flat)
            · cases h3
          · cases hf
        · cases hf
      · simp only [Option.bind_eq_bind, Option.bind_eq_some_iff, Option.some.injEq] at hf
        obtain ⟨ys, h2, rfl⟩ := hf
        simp only [VW, V] at hv
        obtain ⟨x, rfl, hfl, hv⟩ := hv
        obtain ⟨q1, q2⟩ := frzL_ok ih h2 hv
        exact ⟨by simp only [VW, V]; exact ⟨x, rfl, frzL_cell h2 hfl, q1⟩, by simpa only [rb] using q2⟩
      · simp only [Option.bind_eq_bind, Option.bind_eq_some_iff, Option.some.injEq] at hf
        obtain ⟨ys, h2, rfl⟩ := hf
        simp only [VW, V] at hv
        obtain ⟨x, rfl, hv⟩ := hv
        obtain ⟨q1, q2⟩ := frzL_ok ih h2 hv
        exact ⟨by simp only [VW, V]; exact ⟨x, rfl, q1⟩, by simpa only [rb] using q2⟩
      · simp only [Option.bind_eq_bind, Option.bind_eq_some_iff, Option.some.injEq] at hf
        obtain ⟨ys, h2, zs, h4, rfl⟩ := hf
        simp only [VW, V] at hv
        obtain ⟨x, y, rfl, hv1, hv2⟩ := hv
        obtain ⟨q1, q2⟩ := frzL_ok ih h2 hv1
        obtain ⟨q3, q4⟩ := frzL_ok ih h4 hv2
        exact ⟨by simp only [VW, V]; exact ⟨x, y, rfl, q1, q3⟩, by simp [rb, q2, q4]⟩
      · simp only [Option.bind_eq_bind, Option.bind_eq_some_iff, Option.some.injEq] at hf
        obtain ⟨y, h2, rfl⟩ := hf
        simp only [VW, V] at hv
        obtain ⟨x, rfl, hv⟩ := hv
        obtain ⟨q1, q2⟩ := ih _ _ _ h2 hv
        exact ⟨by simp only [VW, V]; exact ⟨x, rfl, q1⟩, by simpa only [rb] using q2⟩
      · cases hf
end Go.Dn

namespace Go.Dn
variable {X0 : Nat → Prop} {β β' β'' : Bt} {h h' h'' : H} {w w' w'' : World} {P : Program} {A : Ann} {base n : Nat}

theorem init_get : ∀ (args : List D) (k t : Nat), (Env.init k args).get t = if k ≤ t then (args[t - k]?).getD undefD else undefD
  | [], k, t => by simp [Env.init, Env.get]
  | d :: ds, k, t => by
    simp only [Env.init, Env.get, init_get ds (k + 1) t]
    by_cases h1 : k = t
    · subst h1; simp
    · by_cases h2 : k ≤ t
      · have h3 : k + 1 ≤ t := by omega
        simp only [h1, if_false, h2, h3, if_true]
        rw [show t - k = (t - (k + 1)) + 1 by omega, List.getElem?_cons_succ]
      · have h3 : ¬ k + 1 ≤ t := by omega
        simp [h1, h2, h3]

theorem env_init {args : List D} {vs : List Value} (hv : VLW X0 β h w args vs) (hb : rbL h.length args = true) (hn : args.length ≤ n) :
    EnvOk n X0 β h w (Env.init 0 args) { tmps := vs.toArray ++ Array.replicate (n - vs.toArray.size) undef, defers := [] } := by
  have hl := hv.length
  refine ⟨by simp; omega, rfl, fun t => ?_, fun t ht => ?_⟩
  · rw [init_get]
    simp only [Nat.zero_le, if_true, Nat.sub_zero]
    cases ha : args[t]? with
    | some d =>
      obtain ⟨v, h1, h2⟩ := hv.get ha
      have ht : t < vs.length := (List.getElem?_eq_some_iff.1 h1).1
      have : (vs.toArray ++ Array.replicate (n - vs.toArray.size) undef).getD t undef = v := by
        rw [Array.getD_eq_getD_getElem?, Array.getElem?_append_left (by simpa using ht)]
        simp [h1]
      rw [this]
      exact ⟨h2, rbL_iff.1 hb d (List.mem_of_getElem? ha)⟩
    | none =>
      have ht : vs.length ≤ t := by have := List.getElem?_eq_none_iff.1 ha; omega
      have : (vs.toArray ++ Array.replicate (n - vs.toArray.size) undef).getD t undef = undef := by
        rw [Array.getD_eq_getD_getElem?, Array.getElem?_append_right (by simpa using ht)]
        by_cases h2 : t - vs.toArray.size < n - vs.toArray.size
        · simp only [List.size_toArray] at h2; simp [h2]
        · simp only [List.size_toArray] at h2; simp [h2]
      rw [this]
      exact ⟨undef_ok, undef_rb _⟩
  · rw [init_get]
    simp only [Nat.zero_le, if_true, Nat.sub_zero]
    rw [List.getElem?_eq_none (by omega)]
    rfl

def resStep (tmps : Array Value) : ResultVar → Sem Value
  | .tmp t => pure (tmps.getD t undef)
  | .cell a t => do loadVar t (← asAddr (tmps.getD a undef))

theorem res_ok (hA : A.ty = tyOf P) (r : Rel X0 β h w) {e : Env} {a : Act} (he : EnvOk n X0 β h w e a) : ∀ {l : List ResultVar} {ds : List D}, resD A h e l = some ds →
    ∃ vs, (l.mapM (resStep a.tmps)).run P w = .ok vs w ∧ VLW X0 β h w ds vs ∧ rbL h.length ds = true
  | [], ds, hl => by
    simp only [resD, Option.some.injEq] at hl
    subst hl
    exact ⟨[], by simp, VL.nil, rfl⟩
  | .tmp t :: l, ds, hl => by
    simp only [resD, Option.bind_eq_bind, Option.bind_eq_some_iff, Option.some.injEq] at hl
    obtain ⟨ds', h1, rfl⟩ := hl
    obtain ⟨vs, q1, q2, q3⟩ := res_ok hA r he h1
    refine ⟨a.tmps.getD t undef :: vs, ?_, VL.cons (he.val t).1 q2, by simp [rbL, (he.val t).2, q3]⟩
    simp [List.mapM_cons, resStep, Sem.run_bind, q1]
  | .cell c t :: l, ds, hl => by
    simp only [resD, Option.bind_eq_bind, Option.bind_eq_some_iff, Option.some.injEq] at hl
    obtain ⟨d, h0, ds', h1, rfl⟩ := hl
    obtain ⟨vs, q1, q2, q3⟩ := res_ok hA r he h1
    obtain ⟨v, p1, p2, p3⟩ := load_ok hA r h0 (he.val c).1
    have hrun : (resStep a.tmps (.cell c t)).run P w = .ok v w := by
      have hp : ∃ ad, a.tmps.getD c undef = .pointer (some ad) := by
        have hv := (he.val c).1
        unfold loadD at h0
        cases hd : e.get c <;> rw [hd] at h0 hv <;> simp only [loadC, Option.bind_none] at h0 <;> (first | (cases h0; done) | skip) <;> simp only [VW, V] at hv
        · obtain ⟨ad, e1, _⟩ := hv; exact ⟨ad, e1⟩
        · obtain ⟨ad, e1, _⟩ := hv; exact ⟨ad, e1⟩
      obtain ⟨ad, e1⟩ := hp
      rw [e1] at p1
      simp only [resStep, e1, asAddr, pure_bind]
      simpa only [Instr.loadAt, Instr.sureAddr, pure_bind] using p1
    refine ⟨v :: vs, ?_, VL.cons p2 q2, by simp [rbL, p3, q3]⟩
    simp [List.mapM_cons, Sem.run_bind, q1, hrun]

theorem one_ok {ds : List D} {vs : List Value} (hv : VLW X0 β h w ds vs) (hb : rbL h.length ds = true) : VW X0 β h w (oneD ds) (if hh : vs.toArray.size = 1 then vs.toArray[0] else .tuple vs.toArray) ∧ rb h.length (oneD ds) = true := by
  have hl := hv.length
  match ds, vs, hv, hl with
  | [], vs, hv, hl =>
    have : vs = [] := List.eq_nil_of_length_eq_zero (by simpa using hl)
    subst this
    exact ⟨undef_ok, rfl⟩
  | [d], [v], hv, hl =>
    obtain ⟨v', e, hv⟩ := hv.one
    simp only [List.cons.injEq, and_true] at e
    subst e
    simp only [rbL, Bool.and_true] at hb
    exact ⟨by simpa [oneD] using hv, hb⟩
  | d :: d' :: ds, vs, hv, hl =>
    have h1 : ¬ vs.toArray.size = 1 := by simp only [List.size_toArray, hl, List.length_cons]; omega
    rw [dif_neg h1]
    refine ⟨?_, by simpa only [oneD, rb] using hb⟩
    simp only [oneD, VW, V]
    exact ⟨_, rfl, by simpa using hv⟩

/-- What is asked of the functions. -/
structure FunsOk (P : Program) (A : Ann) (F : FuncId → Option Func) : Prop where
  here : ∀ g fn, F g = some fn → P.funcs[g]? = some fn
  code : ∀ g fn c, F g = some fn → fn.body = some c → A.ntmps g = fn.ntmps ∧ CodeOk P A fn.ntmps g c

def CallIs (P : Program) (A : Ann) (X0 : Nat → Prop) (base : Nat) (β : Bt) (h : H) (w : World) (g : FuncId) (vs : List Value) (r : D) (h' : H) : Prop :=
  Calls P g vs.toArray w fun e w' => ∃ v β', e = .returned v ∧ Step X0 base β h w β' h' w' ∧ VW X0 β' h' w' r v ∧ rb h'.length r = true

theorem body_ok (hP : ProgOk P A) {F : FuncId → Option Func} (hF : FunsOk P A F) {call : CallFn} (hC : CallOk P A call) {fuel : Nat} {g : FuncId} {args : List D} {r : D} (hl : bodyD A F call fuel g base args h = some (r, h')) :
    (∃ fn, P.funcs[g]? = some fn ∧ fn.body.isSome = true) ∧ ∀ X0 β w (vs : List Value), Rel X0 β h w → XLow X0 w → GlobOk A X0 β h w → base ≤ h.length → VLW X0 β h w args vs → rbL h.length args = true → CallIs P A X0 base β h w g vs r h' := by
  unfold bodyD at hl
  cases hf : F g with
  | none => simp [hf] at hl
  | some fn =>
  cases hb : fn.body with
  | none => simp [hf, hb] at hl
  | some c =>
  simp only [hf, hb] at hl
  have hp := hF.here g fn hf
  obtain ⟨hn, hcode⟩ := hF.code g fn c hf hb
  refine ⟨⟨fn, hp, by simp [hb]⟩, fun X0 β w vs hr hx hG hbase hv hrb => ?_⟩
  split at hl
  · cases hl
  rename_i hlen
  simp only [Nat.not_lt] at hlen
  have hs : At A fn.ntmps X0 β (Env.init 0 args) h { tmps := vs.toArray ++ Array.replicate (fn.ntmps - vs.toArray.size) undef, defers := [] } w := ⟨hr, hx, hG, env_init hv hrb (by omega)⟩
  have hfin : ∀ (e : Env) (h1 : H) (hres : (do some (oneD (← resD A h1 e fn.results.toList), h1)) = some (r, h')) (a' : Act) (w' : World), Later A fn.ntmps X0 base β h w e h1 a' w' →
      a'.defers = [] ∧ ∃ v, (results fn a'.tmps).run P w' = .ok v w' ∧ ∃ v' β', Ending.returned v = .returned v' ∧ Step X0 base β h w β' h' w' ∧ VW X0 β' h' w' r v' ∧ rb h'.length r = true := by
    intro e h1 hres a' w' hlat
    obtain ⟨β', st, he⟩ := hlat
    simp only [Option.bind_eq_bind, Option.bind_eq_some_iff, Option.some.injEq, Prod.mk.injEq] at hres
    obtain ⟨ds, h2, rfl, rfl⟩ := hres
    obtain ⟨us, q1, q2, q3⟩ := res_ok hP.ty st.rel he h2
    obtain ⟨p1, p2⟩ := one_ok q2 q3
    refine ⟨he.defers, _, ?_, _, β', rfl, st, p1, p2⟩
    have hre : results fn a'.tmps = (do let vs ← fn.results.mapM (resStep a'.tmps); pure (if h : vs.size = 1 then vs[0] else .tuple vs)) := by
      unfold results
      congr 1
      try (congr 1; funext x; cases x <;> rfl)
    rw [hre, Array.mapM_eq_mapM_toList]
    simp [Sem.run_bind, q1]
  refine calls_of_wp hp hb ?_
  cases hd : denC A call g base fuel c (Env.init 0 args) h with
  | none => simp [hd] at hl
  | some t =>
    obtain ⟨x, e, h1⟩ := t
    simp only [hd] at hl
    refine denC_wp hP hC hn hcode hs hbase hd fun a' w' hlat => ?_
    cases x with
    | norm => exact hfin e h1 hl a' w' hlat
    | ret => exact hfin e h1 hl a' w' hlat
    | exit id => simp at hl

theorem rho_free {X : Nat → Prop} {d : D} {v : Value} {ρ : Rf} (hb : rb 0 d = true) (hv : V w.cell? X ρ d v) {X' : Nat → Prop} (hX : ∀ b, X' b → X b) (ρ' : Rf) : V w.cell? X' ρ' d v :=
  V.mono (m := 0) (fun _ _ h1 h2 => ⟨h1, fun hx => h2 (hX _ hx)⟩) (fun _ _ _ _ h _ => by omega) (fun _ _ _ _ _ _ _ _ _ h _ => by omega) hb hv
theorem rho_freeL {X : Nat → Prop} {d : List D} {v : List Value} {ρ : Rf} (hb : rbL 0 d = true) (hv : VL w.cell? X ρ d v) {X' : Nat → Prop} (hX : ∀ b, X' b → X b) (ρ' : Rf) : VL w.cell? X' ρ' d v :=
  VL.mono (m := 0) (fun _ _ h1 h2 => ⟨h1, fun hx => h2 (hX _ hx)⟩) (fun _ _ _ _ h _ => by omega) (fun _ _ _ _ _ _ _ _ _ h _ => by omega) hb hv
theorem XX_nil {b : Nat} (hx : XX X0 β [] b) : X0 b := hx.elim id fun ⟨id, k, hk, _⟩ => by simp [H.get] at hk
theorem Rel.nil (X0 : Nat → Prop) (β : Bt) (w : World) : Rel X0 β [] w := ⟨fun id k hk => by simp [H.get] at hk, fun i j k k' hk => by simp [H.get] at hk⟩
theorem XLow.all (hx : XLow X0 w) (r : Rel X0 β h w) : XLow (XX X0 β h) w := fun b hb => hb.elim (hx b) fun ⟨id, k, hk, e⟩ => e ▸ r.low id k hk
theorem VA.less {cl : Addr → Option Value} {X X' : Nat → Prop} (hX : ∀ b, X' b → X b) {ds : List D} {a : Addr} {k : Nat} (hv : VA cl X ds a k) : VA cl X' ds a k :=
  VA.mono (fun _ _ h1 h2 => ⟨h1, fun hx => h2 (hX _ hx)⟩) hv

/-- What a call does to memory that it does not own. -/
theorem Step.around {X1 : Nat → Prop} (r : Rel X0 β h w) {β0 β1 : Bt} {h1 : H} (nx : Nx X1 β0 [] w β1 h1 w') (hX : ∀ b, X1 b → XX X0 β h b) (h0 : ∀ b, X0 b → X1 b) : Step X0 base β h w β h w' := by
  have hn : ∀ b, b < w.heap.size → ¬ X0 b → SameC w.heap[b]? w'.heap[b]? := fun b hb h2 => by
    by_cases h3 : X1 b
    · exact nx.keepX b hb h3
    · exact nx.keep b hb fun hx => h3 (XX_nil hx)
  have hroom : ∀ id k, h.get id = some k → ∀ n, Room w (β id).1 n → Room w' (β id).1 n := fun id k hk n hr => by
    obtain ⟨cs, t, fr, hc, hle⟩ := hr
    obtain ⟨cs2, t2, fr2, hc2, ok⟩ := r.blk id k hk
    obtain ⟨fr', h2, _⟩ := (hn _ (r.low id k hk) ok.out).cells hc
    exact ⟨cs, t, fr', h2, hle⟩
  have nx2 : Nx X0 β h w β h w' := ⟨nx.size, nx.os, nx.tape, nx.output, fun b hb h2 => nx.keepX b hb (h0 b h2), fun b hb h2 => hn b hb fun h3 => h2 (.inl h3), Nat.le_refl _,
    fun id k' _ hk => ⟨k', hk, Nat.le_refl _, fun _ => ⟨rfl, hroom id k' hk⟩⟩, fun b hb => .inr hb⟩
  refine ⟨⟨fun id k hk => ?_, r.inj⟩, nx2, Keeps.refl _ _⟩
  obtain ⟨cs, t, fr, hc, ok⟩ := r.blk id k hk
  obtain ⟨fr', h2, hf⟩ := (hn _ (r.low id k hk) ok.out).cells hc
  exact ⟨cs, t, fr', h2, hf ok.frz, ok.len, VLW.next nx2 ok.rb ok.val, ok.out, ok.rb, ok.flat⟩

theorem scalar_ok {X : Nat → Prop} {cl cl' : Addr → Option Value} {ρ ρ' : Rf} : ∀ {d : D} {v : Value}, isScalar d = true → V cl X ρ d v → ∀ X', V cl' X' ρ' d v ∧ rb 0 d = true := by
  have key : ∀ {d : D} {v : Value}, (match d with | .bool _ | .int .. | .str _ | .nilp | .nils | .nilfn | .nilif | .nilm => true | _ => false) = true → V cl X ρ d v → ∀ X', V cl' X' ρ' d v ∧ rb 0 d = true := by
    intro d v hd hv X'
    cases d <;> simp only [] at hd <;> (first | (cases hd; done) | skip) <;> simp only [V] at hv ⊢ <;> exact ⟨hv, rfl⟩
  have keyL : ∀ {ds : List D} {vs : List Value}, (ds.all fun d => match d with | .bool _ | .int .. | .str _ | .nilp | .nils | .nilfn | .nilif | .nilm => true | _ => false) = true → VL cl X ρ ds vs → ∀ X', VL cl' X' ρ' ds vs ∧ rbL 0 ds = true := by
    intro ds
    induction ds with
    | nil => intro vs _ hv X'; simp only [VL] at hv ⊢; exact ⟨hv, rfl⟩
    | cons d ds ih =>
      intro vs hd hv X'
      obtain ⟨v, r, rfl, h1, h2⟩ := hv.uncons
      simp only [List.all_cons, Bool.and_eq_true] at hd
      obtain ⟨a1, a2⟩ := key hd.1 h1 X'
      obtain ⟨b1, b2⟩ := ih hd.2 h2 X'
      exact ⟨VL.cons a1 b1, by simp [rbL, a2, b2]⟩
  intro d v hd hv X'
  cases d with
  | tup l =>
    simp only [isScalar] at hd
    simp only [V] at hv ⊢
    obtain ⟨x, rfl, hv⟩ := hv
    obtain ⟨a1, a2⟩ := keyL hd hv X'
    exact ⟨⟨x, rfl, a1⟩, by simpa only [rb] using a2⟩
  | agg l =>
    simp only [isScalar] at hd
    simp only [V] at hv ⊢
    obtain ⟨x, rfl, hc, hv⟩ := hv
    obtain ⟨a1, a2⟩ := keyL hd hv X'
    exact ⟨⟨x, rfl, hc, a1⟩, by simpa only [rb] using a2⟩
  | _ => exact key (by simpa only [isScalar] using hd) hv X'

theorem scopd_ok (hP : ProgOk P A) {F : FuncId → Option Func} (hF : FunsOk P A F) {k : Nat} (ih : CallOk P A (denF A F k)) {g : FuncId} {args : List D} {r1 r2 : D} {h1 : H} (hbd : bodyD A F (denF A F k) k g h.length args h = some (r1, h1))
    (hfz : frz 10 h1 h.length r1 = some r2) : (∃ fn, P.funcs[g]? = some fn ∧ fn.body.isSome = true) ∧ ∀ X0 β w (vs : List Value), Rel X0 β h w → XLow X0 w → GlobOk A X0 β h w → base ≤ h.length → VLW X0 β h w args vs → rbL h.length args = true → CallIs P A X0 base β h w g vs r2 (h1.take h.length) := by
  obtain ⟨hfn, hc⟩ := body_ok hP hF ih hbd
  refine ⟨hfn, fun X0 β w vs hr hx hG hbase hv hrb => (hc X0 β w vs hr hx hG (Nat.le_refl _) hv hrb).mono fun e w' he => ?_⟩
  obtain ⟨v, β', rfl, st, hv', _⟩ := he
  obtain ⟨q1, q2⟩ := frz_ok st.rel 10 r1 r2 v hfz hv'
  exact ⟨v, β', rfl, st.take hr hbase, q1, by rw [take_len st.nx.len]; exact q2⟩

theorem callOk_succ (hP : ProgOk P A) {F : FuncId → Option Func} (hF : FunsOk P A F) {k : Nat} (ih : CallOk P A (denF A F k)) : CallOk P A (denF A F (k + 1)) := by
  intro f base g args h r h' hl
  simp only [denF] at hl
  cases hm : A.mode f g with
  | auto =>
    simp only [hm] at hl
    split at hl
    · rename_i hb0
      simp only [Option.bind_eq_bind, Option.bind_eq_some_iff, Prod.exists] at hl
      obtain ⟨r1, h1, hbd, r2, hfz, hl⟩ := hl
      split at hl
      · rename_i hb2
        simp only [Option.some.injEq, Prod.mk.injEq] at hl
        obtain ⟨rfl, rfl⟩ := hl
        obtain ⟨hfn, hc⟩ := body_ok hP hF ih hbd
        refine ⟨hfn, fun X0 β w vs hr hx hG hbase hv hrb => ?_⟩
        have hX : ∀ b, XX (XX X0 β h) β [] b → XX X0 β h b := fun b hb => XX_nil hb
        refine (hc (XX X0 β h) β w vs (Rel.nil _ _ _) (hx.all hr) (fun g cs hg => (hG g cs hg).less hX) (Nat.le_refl _) (rho_freeL hb0 hv hX _) hb0).mono fun e w' he => ?_
        obtain ⟨v, β', rfl, st, hv', _⟩ := he
        obtain ⟨q1, q2⟩ := frz_ok st.rel 10 r1 r2 v hfz hv'
        exact ⟨v, β, rfl, Step.around hr st.nx (fun b hb => hb) (fun b hb => .inl hb), rho_free hb2 q1 (fun b hb => .inl hb) _, rb_mono (Nat.zero_le _) hb2⟩
      · cases hl
    · simp only [Option.bind_eq_bind, Option.bind_eq_some_iff, Prod.exists] at hl
      obtain ⟨r1, h1, hbd, r2, hfz, hl⟩ := hl
      split at hl
      · simp only [Option.some.injEq, Prod.mk.injEq] at hl
        obtain ⟨rfl, rfl⟩ := hl
        exact scopd_ok hP hF ih hbd hfz
      · cases hl
  | lent =>
    simp only [hm] at hl
    simp only [Option.bind_eq_bind, Option.bind_eq_some_iff] at hl
    obtain ⟨as', has, hl⟩ := hl
    split at hl
    · rename_i hb0
      simp only [Option.bind_eq_some_iff, Prod.exists] at hl
      obtain ⟨r1, h1, hbd, hl⟩ := hl
      split at hl
      · rename_i hsc
        simp only [Option.some.injEq, Prod.mk.injEq] at hl
        obtain ⟨rfl, rfl⟩ := hl
        obtain ⟨hfn, hc⟩ := body_ok hP hF ih hbd
        refine ⟨hfn, fun X0 β w vs hr hx hG hbase hv hrb => ?_⟩
        obtain ⟨q1, q2⟩ := frzL_ok (frz_ok hr 10) has hv
        have hX : ∀ b, XX X0 β [] b → XX X0 β h b := fun b hb => .inl (XX_nil hb)
        have q1' : VLW X0 β [] w as' vs := q1
        refine (hc X0 β w vs (Rel.nil _ _ _) hx (fun g cs hg => (hG g cs hg).less hX) (Nat.le_refl _) q1' hb0).mono fun e w' he => ?_
        obtain ⟨v, β', rfl, st, hv', _⟩ := he
        obtain ⟨s1, s2⟩ := scalar_ok (cl' := w'.cell?) (ρ' := rho w' β h) hsc hv' (XX X0 β h)
        exact ⟨v, β, rfl, Step.around hr st.nx (fun b hb => .inl hb) (fun b hb => hb), s1, rb_mono (Nat.zero_le _) s2⟩
      · cases hl
    · cases hl
  | scopd =>
    simp only [hm] at hl
    simp only [Option.bind_eq_bind, Option.bind_eq_some_iff, Prod.exists] at hl
    obtain ⟨r1, h1, hbd, r2, hfz, hl⟩ := hl
    split at hl
    · simp only [Option.some.injEq, Prod.mk.injEq] at hl
      obtain ⟨rfl, rfl⟩ := hl
      exact scopd_ok hP hF ih hbd hfz
    · cases hl
  | grow =>
    simp only [hm] at hl
    exact body_ok hP hF ih hl

theorem callOk (hP : ProgOk P A) {F : FuncId → Option Func} (hF : FunsOk P A F) : ∀ k, CallOk P A (denF A F k)
  | 0 => fun f base g args h r h' hl => by simp [denF] at hl
  | k + 1 => callOk_succ hP hF (callOk hP hF k)
end Go.Dn

