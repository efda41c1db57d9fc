/-
  Regions in whatever order; the limit; continuations; reading.
-/
import Derived.Test.YtfiiaehhmdddbaaGreatDoorDnB
import Derived.Test.YtfiiaehhmdddbaaGreatDoorDnA
import Derived.DataReads
import Derived.ChangeShapes
import Derived.ChangeArms
import Derived.OpenShut
set_option linter.all false
namespace Go.Dn
variable {A : Ann} {h h' h1 : H}

mutual
theorem same_eq : ∀ {a b : D}, D.same a b = true → a = b
  | .bool a, b, hs => by cases b <;> simp_all [D.same]
  | .int k n, b, hs => by cases b <;> simp_all [D.same]
  | .str l, b, hs => by cases b <;> simp_all [D.same]
  | .nilp, b, hs => by cases b <;> simp_all [D.same]
  | .nils, b, hs => by cases b <;> simp_all [D.same]
  | .nilfn, b, hs => by cases b <;> simp_all [D.same]
  | .nilif, b, hs => by cases b <;> simp_all [D.same]
  | .nilm, b, hs => by cases b <;> simp_all [D.same]
  | .ptr .., b, hs => by cases b <;> simp_all [D.same]
  | .rs .., b, hs => by cases b <;> simp_all [D.same]
  | .iptr a, b, hs => by
    cases b <;> simp only [D.same, Bool.false_eq_true] at hs
    rw [sameL_eq hs]
  | .vs a c, b, hs => by
    cases b <;> simp only [D.same, Bool.false_eq_true, Bool.and_eq_true, beq_iff_eq] at hs
    rw [sameLL_eq hs.1, hs.2]
  | .fn f a b, d, hs => by
    cases d <;> (try (cases f <;> simp [D.same] at hs; done))
    rename_i f' a' b'
    cases f <;> cases f' <;> simp only [D.same, Bool.false_eq_true, Bool.and_eq_true, decide_eq_true_eq] at hs
    rw [hs.1.1, sameL_eq hs.1.2, sameL_eq hs.2]
  | .ifc t a, b, hs => by
    cases b <;> simp only [D.same, Bool.false_eq_true, Bool.and_eq_true, decide_eq_true_eq] at hs
    rw [hs.1, same_eq hs.2]
  | .agg a, b, hs => by
    cases b <;> simp only [D.same, Bool.false_eq_true] at hs
    rw [sameL_eq hs]
  | .tup a, b, hs => by
    cases b <;> simp only [D.same, Bool.false_eq_true] at hs
    rw [sameL_eq hs]
theorem sameL_eq : ∀ {a b : List D}, D.sameL a b = true → a = b
  | [], b, hs => by cases b <;> simp_all [D.sameL]
  | x :: a, b, hs => by
    cases b <;> simp only [D.sameL, Bool.false_eq_true, Bool.and_eq_true] at hs
    rw [same_eq hs.1, sameL_eq hs.2]
theorem sameLL_eq : ∀ {a b : List (List D)}, D.sameLL a b = true → a = b
  | [], b, hs => by cases b <;> simp_all [D.sameLL]
  | x :: a, b, hs => by
    cases b <;> simp only [D.sameLL, Bool.false_eq_true, Bool.and_eq_true] at hs
    rw [sameL_eq hs.1, sameLL_eq hs.2]
end

/-- Operations that look at no memory. -/
def pureOp (A : Ann) (o : Oper) : Bool :=
  match o.op with
  | .move _ | .assign _ | .pick .. | .build .. | .nilCheck _ | .binOp .. | .unOp .. | .makeInterface .. | .makeFunc .. | .fieldAddr .. | .field .. | .indexAddr .. | .index .. | .extract .. => true
  | .convert s d _ => match (A.ty s).kd, (A.ty d).kd with | .int _, .int _ => true | .str, .str => true | _, _ => false
  | .call c => match c.callee with | .builtin .len | .builtin .min | .builtin .max => true | _ => false
  | _ => false
/-- Operations that look at memory, or may make new memory that nobody writes. -/
def readOp (o : Oper) : Bool :=
  match o.op with
  | .load .. | .slice .. | .convert .. | .box .. | .buildSlice .. => true
  | _ => false

theorem pure_op {call : CallFn} {f : FuncId} {base : Nat} {ev : Operand → Option D} {o : Oper} {d : D} (hp : pureOp A o = true) (hl : denOp A call f base ev o h = some (d, h1)) :
    h1 = h ∧ ∀ h', denOp A call f base ev o h' = some (d, h') := by
  unfold pureOp at hp
  unfold denOp at hl
  cases hop : o.op <;> simp only [hop, Bool.false_eq_true] at hl hp <;> simp only [denOp, hop]
  case pick c x y =>
    simp only [Option.bind_eq_bind, Option.bind_eq_some_iff] at hl
    obtain ⟨dc, q1, hl⟩ := hl
    simp only [q1, Option.bind_eq_bind, Option.bind_some]
    split at hl
    · simp only [Option.bind_eq_some_iff, Option.some.injEq, Prod.mk.injEq] at hl
      obtain ⟨x', q2, rfl, rfl⟩ := hl
      exact ⟨rfl, fun h' => by simp [q2]⟩
    · simp only [Option.bind_eq_some_iff, Option.some.injEq, Prod.mk.injEq] at hl
      obtain ⟨x', q2, rfl, rfl⟩ := hl
      exact ⟨rfl, fun h' => by simp [q2]⟩
    · cases hl
  case nilCheck x =>
    simp only [Option.bind_eq_bind, Option.bind_eq_some_iff] at hl
    obtain ⟨dc, q1, hl⟩ := hl
    simp only [q1, Option.bind_eq_bind, Option.bind_some]
    split at hl
    · simp only [Option.some.injEq, Prod.mk.injEq] at hl; obtain ⟨rfl, rfl⟩ := hl; exact ⟨rfl, fun h' => rfl⟩
    · simp only [Option.some.injEq, Prod.mk.injEq] at hl; obtain ⟨rfl, rfl⟩ := hl; exact ⟨rfl, fun h' => rfl⟩
    · split at hl
      · simp only [Option.some.injEq, Prod.mk.injEq] at hl; obtain ⟨rfl, rfl⟩ := hl; exact ⟨rfl, fun h' => rfl⟩
      · cases hl
    · cases hl
  case extract x i =>
    simp only [Option.bind_eq_bind, Option.bind_eq_some_iff] at hl
    obtain ⟨dc, q1, hl⟩ := hl
    simp only [q1, Option.bind_eq_bind, Option.bind_some]
    split at hl
    · simp only [Option.bind_eq_some_iff, Option.some.injEq, Prod.mk.injEq] at hl
      obtain ⟨x', q2, rfl, rfl⟩ := hl
      exact ⟨rfl, fun h' => by simp [q2]⟩
    · cases hl
  case makeInterface t x =>
    split at hl
    · cases hl
    · rename_i hc
      simp only [Option.bind_eq_bind, Option.bind_eq_some_iff, Option.some.injEq, Prod.mk.injEq] at hl
      obtain ⟨x', q2, rfl, rfl⟩ := hl
      exact ⟨rfl, fun h' => by rw [if_neg hc]; simp [q2]⟩
  case convert s t x =>
    simp only [Option.bind_eq_bind, Option.bind_eq_some_iff] at hl
    obtain ⟨dx, q1, hl⟩ := hl
    simp only [q1, Option.bind_eq_bind, Option.bind_some]
    unfold convD at hl ⊢
    split at hp
    · rename_i k1 k2 e1 e2
      simp only [e1, e2] at hl ⊢
      split at hl
      · simp only [Option.some.injEq, Prod.mk.injEq] at hl; obtain ⟨rfl, rfl⟩ := hl; exact ⟨rfl, fun h' => rfl⟩
      · cases hl
    · rename_i e1 e2
      simp only [e1, e2] at hl ⊢
      split at hl
      · simp only [Option.some.injEq, Prod.mk.injEq] at hl; obtain ⟨rfl, rfl⟩ := hl; exact ⟨rfl, fun h' => rfl⟩
      · cases hl
    · cases hp
  case call c =>
    cases hc : c.callee with
    | builtin b =>
      simp only [hc, Option.bind_eq_bind, Option.bind_eq_some_iff] at hl hp ⊢
      obtain ⟨ds, q1, hl⟩ := hl
      simp only [q1, Option.bind_some]
      unfold builtinD at hl ⊢
      cases b <;> (first | (simp only [Bool.false_eq_true] at hp; done) | skip) <;> (try dsimp only at hl ⊢)
      case len =>
        split at hl
        · split at hl
          · simp only [Option.some.injEq, Prod.mk.injEq] at hl; obtain ⟨rfl, rfl⟩ := hl; refine ⟨rfl, fun h' => ?_⟩; simp_all
          · simp only [Option.some.injEq, Prod.mk.injEq] at hl; obtain ⟨rfl, rfl⟩ := hl; refine ⟨rfl, fun h' => ?_⟩; simp_all
          · split at hl
            · simp only [Option.some.injEq, Prod.mk.injEq] at hl; obtain ⟨rfl, rfl⟩ := hl; refine ⟨rfl, fun h' => ?_⟩; simp_all
            · cases hl
          · simp only [Option.some.injEq, Prod.mk.injEq] at hl; obtain ⟨rfl, rfl⟩ := hl; refine ⟨rfl, fun h' => ?_⟩; simp_all
          · cases hl
        all_goals simp_all
      case min =>
        simp only [Option.map_eq_some_iff, Prod.mk.injEq] at hl
        obtain ⟨d', q2, rfl, rfl⟩ := hl
        exact ⟨rfl, fun h' => by simp [q2]⟩
      case max =>
        simp only [Option.map_eq_some_iff, Prod.mk.injEq] at hl
        obtain ⟨d', q2, rfl, rfl⟩ := hl
        exact ⟨rfl, fun h' => by simp [q2]⟩
    | value x => simp [hc] at hp
    | invoke x n => simp [hc] at hp
  all_goals
    simp only [Option.bind_eq_bind, Option.bind_eq_some_iff, Option.some.injEq, Prod.mk.injEq] at hl
    first
      | (obtain ⟨x1, q1, rfl, rfl⟩ := hl; exact ⟨rfl, fun h' => by simp [q1]⟩)
      | (obtain ⟨x1, q1, x2, q2, rfl, rfl⟩ := hl; exact ⟨rfl, fun h' => by simp [q1, q2]⟩)
      | (obtain ⟨x1, q1, x2, q2, x3, q3, rfl, rfl⟩ := hl; exact ⟨rfl, fun h' => by simp [q1, q2, q3]⟩)

/-- All that was there is there. -/
def Ext (h h' : H) : Prop := ∀ id k, h.get id = some k → h'.get id = some k
theorem Ext.refl (h : H) : Ext h h := fun _ _ h => h
theorem Ext.trans {h'' : H} (a : Ext h h') (b : Ext h' h'') : Ext h h'' := fun id k hk => b id k (a id k hk)

theorem rdC_ext (x : Ext h h') {id ver off n : Nat} {cs : List D} (hr : rdC h id ver off n = some cs) : rdC h' id ver off n = some cs := by
  obtain ⟨k, h1, h2, h3, rfl⟩ := rdC_some hr
  unfold rdC
  rw [x id k h1]
  simp [h2, h3]
theorem srcC_ext (x : Ext h h') {esz : Nat} {d : D} {cs : List D} (hr : srcC h esz d = some cs) : srcC h' esz d = some cs := by
  cases d <;> simp only [srcC] at hr ⊢ <;> (first | exact hr | skip)
  split at hr
  · rename_i hc
    rw [if_pos hc]
    exact rdC_ext x hr
  · cases hr
theorem loadC_ext (x : Ext h h') {n : Nat} {d : D} {cs : List D} (hr : loadC h n d = some cs) : loadC h' n d = some cs := by
  cases d <;> simp only [loadC] at hr ⊢ <;> (first | exact hr | exact rdC_ext x hr)
theorem loadD_ext (x : Ext h h') {t : TypeId} {d v : D} (hr : loadD A h t d = some v) : loadD A h' t d = some v := by
  unfold loadD at *
  simp only [Option.bind_eq_some_iff] at hr ⊢
  obtain ⟨cs, h1, h2⟩ := hr
  exact ⟨cs, loadC_ext x h1, h2⟩
theorem sliceD_ext (x : Ext h h') {t : TypeId} {d v : D} {lo hi mx : Option D} (hr : sliceD A h t d lo hi mx = some v) : sliceD A h' t d lo hi mx = some v := by
  unfold sliceD at *
  simp only [Option.bind_eq_bind, Option.bind_eq_some_iff] at hr ⊢
  obtain ⟨a, h1, b, h2, c, h3, h4⟩ := hr
  refine ⟨a, h1, b, h2, c, h3, ?_⟩
  cases hk : (A.ty t).kd <;> cases d <;> simp only [hk] at h4 ⊢ <;> (first | exact h4 | skip)
  rename_i id ver off
  cases hg : h.get id with
  | none => simp [hg] at h4
  | some k =>
    rw [hg] at h4
    rw [x id k hg]
    exact h4

theorem ne_len {d d' : D} {k : Blk} (hl : some (d', h ++ [some k]) = some (d, h1)) (hlen : h1.length = h.length) : False := by
  simp only [Option.some.injEq, Prod.mk.injEq] at hl
  obtain ⟨_, rfl⟩ := hl
  simp at hlen

theorem conv_read {fz : Bool} {s t : TypeId} {x d : D} (hl : convD A fz h s t x = some (d, h1)) (hlen : h1.length = h.length) (xt : Ext h h') : h1 = h ∧ convD A fz h' s t x = some (d, h') := by
  unfold convD at hl ⊢
  cases hk1 : (A.ty s).kd <;> cases hk2 : (A.ty t).kd <;> simp only [hk1, hk2] at hl ⊢ <;> (first | (cases hl; done) | skip)
  · split at hl
    · simp only [Option.some.injEq, Prod.mk.injEq] at hl; obtain ⟨rfl, rfl⟩ := hl; exact ⟨rfl, rfl⟩
    · cases hl
  · split at hl
    · simp only [Option.some.injEq, Prod.mk.injEq] at hl; obtain ⟨rfl, rfl⟩ := hl; exact ⟨rfl, rfl⟩
    · cases hl
  · split at hl
    · split at hl
      · rename_i hc
        rw [if_pos hc]
        unfold newRow at hl ⊢
        split at hl
        · rename_i hf
          rw [if_pos hf]
          split at hl
          · rename_i hb
            rw [if_pos hb]
            simp only [Option.some.injEq, Prod.mk.injEq] at hl; obtain ⟨rfl, rfl⟩ := hl; exact ⟨rfl, rfl⟩
          · cases hl
        · exact (ne_len hl hlen).elim
      · cases hl
    · cases hl
  · split at hl
    · rename_i hc
      rw [if_pos hc]
      split at hl
      · rename_i cs n q1 q2
        rw [srcC_ext xt q1, q2]
        simp only [Option.map_eq_some_iff, Prod.mk.injEq] at hl
        obtain ⟨l, q3, rfl, rfl⟩ := hl
        exact ⟨rfl, by simp [q3]⟩
      · cases hl
    · cases hl
  · split at hl
    · rename_i id ver off len cap sz clip
      cases hg : h.get id with
      | none => simp [hg] at hl
      | some b =>
        simp only [hg] at hl
        split at hl
        · rename_i hc
          simp only [Option.some.injEq, Prod.mk.injEq] at hl
          obtain ⟨rfl, rfl⟩ := hl
          exact ⟨rfl, by simp only [xt id b hg, if_pos hc]⟩
        · cases hl
    · cases hl

theorem read_op {call : CallFn} {f : FuncId} {base : Nat} {ev : Operand → Option D} {o : Oper} {d : D} (hp : readOp o = true) (hl : denOp A call f base ev o h = some (d, h1)) (hlen : h1.length = h.length) :
    h1 = h ∧ ∀ h', Ext h h' → denOp A call f base ev o h' = some (d, h') := by
  unfold readOp at hp
  unfold denOp at hl
  cases hop : o.op <;> simp only [hop, Bool.false_eq_true] at hl hp <;> simp only [denOp, hop]
  case load t x =>
    simp only [Option.bind_eq_bind, Option.bind_eq_some_iff, Option.some.injEq, Prod.mk.injEq] at hl
    obtain ⟨x1, q1, x2, q2, rfl, rfl⟩ := hl
    exact ⟨rfl, fun h' xt => by simp [q1, loadD_ext xt q2]⟩
  case slice t x lo hi mx =>
    simp only [Option.bind_eq_bind, Option.bind_eq_some_iff, Option.some.injEq, Prod.mk.injEq] at hl
    obtain ⟨x1, q1, x2, q2, x3, q3, x4, q4, x5, q5, rfl, rfl⟩ := hl
    exact ⟨rfl, fun h' xt => by simp [q1, q2, q3, q4, sliceD_ext xt q5]⟩
  case convert s t x =>
    simp only [Option.bind_eq_bind, Option.bind_eq_some_iff] at hl
    obtain ⟨dx, q1, hl⟩ := hl
    refine ⟨(conv_read hl hlen (Ext.refl h)).1, fun h' xt => ?_⟩
    simp only [q1, Option.bind_eq_bind, Option.bind_some]
    exact (conv_read hl hlen xt).2
  case box t x =>
    simp only [Option.bind_eq_bind, Option.bind_eq_some_iff] at hl
    obtain ⟨dv, q1, hl⟩ := hl
    simp only [q1, Option.bind_eq_bind, Option.bind_some]
    cases hdst : o.dst with
    | none =>
      simp only [hdst, Bool.false_and, Bool.false_eq_true, if_false] at hl
      split at hl
      · cases hl
      · exact (ne_len hl hlen).elim
    | some td =>
      simp only [hdst] at hl
      split at hl
      · cases hl
      · rename_i hk
        split at hl
        · rename_i hc
          simp only [Option.some.injEq, Prod.mk.injEq] at hl
          obtain ⟨rfl, rfl⟩ := hl
          exact ⟨rfl, fun h' _ => by simp only []; rw [if_neg hk, if_pos hc]⟩
        · exact (ne_len hl hlen).elim
  case buildSlice t n ps =>
    simp only [Option.bind_eq_bind, Option.bind_eq_some_iff] at hl
    obtain ⟨qs, q1, hl⟩ := hl
    simp only [q1, Option.bind_eq_bind, Option.bind_some]
    generalize (!(match o.dst with | some t => A.fz f t | none => false)) = ro at hl ⊢
    have key : ∀ ro, buildSliceD A ro h t n qs = some (d, h1) → h1 = h ∧ ∀ h', buildSliceD A ro h' t n qs = some (d, h') := by
      intro ro hl
      unfold buildSliceD at hl ⊢
      split at hl
      · rename_i esz eb ez by_ hk
        split at hl
        · rename_i hc
          simp only [Option.bind_eq_bind, Option.bind_eq_some_iff] at hl
          obtain ⟨cs, q2, hl⟩ := hl
          split at hl
          · rename_i hr
            simp only [Option.some.injEq, Prod.mk.injEq] at hl
            obtain ⟨rfl, rfl⟩ := hl
            exact ⟨rfl, fun h' => by rw [if_pos hc]; simp only [q2, Option.bind_eq_bind, Option.bind_some]; rw [if_pos hr]⟩
          · exact (ne_len hl hlen).elim
        · cases hl
      · cases hl
    exact ⟨(key _ hl).1, fun h' _ => (key _ hl).2 h'⟩
end Go.Dn

namespace Go.Dn
variable {X0 : Nat → Prop} {β β' β'' : Bt} {h h' h'' : H} {w w' w'' : World} {P : Program} {A : Ann} {base n : Nat}

/-- Operations that make new memory out of plain data: they may come ahead of their turn. -/
def isAlloc (A : Ann) (f : FuncId) (o : Oper) : Bool :=
  match o.op, o.dst with
  | .alloc _, _ => true
  | .box .., some t => A.fz f t && !(A.ro f t)
  | _, _ => false
/-- Place k only reads. -/
def rdAt (A : Ann) (ps : List (Nat × Nat)) (k : Nat) (o : Oper) : Bool :=
  pureOp A o || (match o.op with | .load .. => true | .slice .. => true | _ => false) || (readOp o && ps.contains (k, k))

/-- Place j stands before place k in every order. -/
inductive Fb (ord : List Nat) (l : List Oper) : Nat → Nat → Prop
  | edge {j k : Nat} {o : Oper} {e : Edge} : l[k]? = some o → e ∈ o.after → Region.binds .any e = true → ord[j]? = some e.on → Fb ord l j k
  | trans {i j k : Nat} : Fb ord l i j → Fb ord l j k → Fb ord l i k

/-- What is asked of a region's text. -/
structure TextOk (A : Ann) (f : FuncId) (ntm : Nat) (ops : Array Oper) (ord : List Nat) (l : List Oper) (ps : List (Nat × Nat)) : Prop where
  at_ : ∀ (k i : Nat), ord[k]? = some i → ∃ o, l[k]? = some o ∧ ops[i]? = some o
  len : l.length = ord.length
  all : ∀ (i : Nat) o, ops[i]? = some o → ∃ k : Nat, ord[k]? = some i
  inj : ∀ (j k i : Nat), ord[j]? = some i → ord[k]? = some i → j = k
  topo : ∀ (k : Nat) o, l[k]? = some o → ∀ e ∈ o.after, Region.binds .any e = true → ∃ j : Nat, j < k ∧ ord[j]? = some e.on
  apart : ∀ (j k : Nat) oj ok, j < k → l[j]? = some oj → l[k]? = some ok → Fb ord l j k ∨ oj.apart ops ok = true
  wr : ∀ (j k : Nat) oj ok, j < k → l[j]? = some oj → l[k]? = some ok → rdAt A ps j oj = false → rdAt A ps k ok = false → isAlloc A f ok = false → Fb ord l j k
  pend : ∀ (k : Nat) o, l[k]? = some o → isAlloc A f o = true → rdAt A ps k o = false ∧ o.guard = none ∧ ∃ t, o.dst = some t ∧ (∀ (j : Nat) oj, l[j]? = some oj → oj.dst = some t → j = k) ∧ (∀ (j : Nat) oj, l[j]? = some oj → t ∈ oj.looksAt ops → k < j ∧ rdAt A ps j oj = false ∧ isAlloc A f oj = false)
  before : ∀ (k : Nat) o (p : Nat) op, l[k]? = some o → l[p]? = some op → p < k → rdAt A ps k o = true → rdAt A ps p op = false → Fb ord l p k ∨ pureOp A o = true ∨ (k, p) ∈ ps
  later : ∀ (k : Nat) o (j : Nat) oj, l[k]? = some o → l[j]? = some oj → k < j → rdAt A ps k o = true → rdAt A ps j oj = false → isAlloc A f oj = false → Fb ord l k j ∨ pureOp A o = true ∨ (k, j + 1) ∈ ps
  dst : ∀ (k : Nat) o t, l[k]? = some o → o.dst = some t → t < ntm

/-- The reference run. -/
structure TraceOk (A : Ann) (call : CallFn) (f base : Nat) (ops : Array Oper) (l : List Oper) (es : Nat → Env) (hs : Nat → H) (ds : Nat → D) : Prop where
  step : ∀ (k : Nat) o, l[k]? = some o → (wantD ops (es k) o = true ∧ denOp A call f base (evalD A (es k)) o (hs k) = some (ds k, hs (k + 1)) ∧ es (k + 1) = (es k).put o.dst (ds k)) ∨
    (wantD ops (es k) o = false ∧ ds k = undefD ∧ hs (k + 1) = hs k ∧ es (k + 1) = (es k).put o.dst undefD)

theorem trace_of_ops {call : CallFn} {f : FuncId} {ops : Array Oper} : ∀ {l : List Oper} {e e' : Env} {h h' : H}, opsD A call f base ops l e h = some (e', h') →
    ∃ es hs ds, TraceOk A call f base ops l es hs ds ∧ es 0 = e ∧ hs 0 = h ∧ es l.length = e' ∧ hs l.length = h' ∧ ∀ k : Nat, k ≤ l.length → (traceD A call f base ops l e h)[k]? = some (es k, hs k)
  | [], e, e', h, h', hl => by
    simp only [opsD, Option.some.injEq, Prod.mk.injEq] at hl
    obtain ⟨rfl, rfl⟩ := hl
    exact ⟨fun _ => e, fun _ => h, fun _ => undefD, ⟨fun k o hk => by simp at hk⟩, rfl, rfl, rfl, rfl, fun k hk => by
      simp at hk; subst hk; rfl⟩
  | o :: l, e, e', h, h', hl => by
    unfold opsD at hl
    cases hs1 : stepD A call f base ops o e h with
    | none => simp [hs1] at hl
    | some r =>
      obtain ⟨e1, h1⟩ := r
      simp only [hs1] at hl
      obtain ⟨es, hs, ds, ht, q1, q2, q3, q4, q5⟩ := trace_of_ops hl
      have hstep : ∃ d, (wantD ops e o = true ∧ denOp A call f base (evalD A e) o h = some (d, h1) ∧ e1 = e.put o.dst d) ∨ (wantD ops e o = false ∧ d = undefD ∧ h1 = h ∧ e1 = e.put o.dst undefD) := by
        unfold stepD at hs1
        split at hs1
        · rename_i hw
          simp only [Option.bind_eq_bind, Option.bind_eq_some_iff, Option.some.injEq, Prod.mk.injEq, Prod.exists] at hs1
          obtain ⟨d, h2, hd, rfl, rfl⟩ := hs1
          exact ⟨d, .inl ⟨hw, hd, rfl⟩⟩
        · rename_i hw
          simp only [Option.some.injEq, Prod.mk.injEq] at hs1
          obtain ⟨rfl, rfl⟩ := hs1
          exact ⟨undefD, .inr ⟨by simpa using hw, rfl, rfl, rfl⟩⟩
      obtain ⟨d, hstep⟩ := hstep
      refine ⟨fun k => match k with | 0 => e | k + 1 => es k, fun k => match k with | 0 => h | k + 1 => hs k, fun k => match k with | 0 => d | k + 1 => ds k, ⟨fun k o' hk => ?_⟩, rfl, rfl, q3, q4, fun k hk => ?_⟩
      · cases k with
        | zero =>
          simp only [List.getElem?_cons_zero, Option.some.injEq] at hk
          subst hk
          rcases hstep with ⟨a1, a2, a3⟩ | ⟨a1, a2, a3, a4⟩
          · exact .inl ⟨a1, by simpa [q2] using a2, by simpa [q1] using a3⟩
          · exact .inr ⟨a1, a2, by simpa [q2] using a3, by simpa [q1] using a4⟩
        | succ k => exact ht.step k o' (by simpa using hk)
      · cases k with
        | zero => simp [traceD]
        | succ k =>
          simp only [traceD, hs1, List.getElem?_cons_succ]
          exact q5 k (by simpa using hk)

/-- The last of the done places that sets t. -/
def IsVal (l : List Oper) (e0 : Env) (ds : Nat → D) (ex : Nat → Prop) (t : Nat) (d : D) : Prop :=
  (∃ (k : Nat) (o : Oper), l[k]? = some o ∧ ex k ∧ o.dst = some t ∧ d = ds k ∧ ∀ (j : Nat) oj, k < j → l[j]? = some oj → ex j → oj.dst ≠ some t) ∨
  ((∀ (k : Nat) o, l[k]? = some o → ex k → o.dst ≠ some t) ∧ d = e0.get t)

theorem trace_get {call : CallFn} {f : FuncId} {ops : Array Oper} {l : List Oper} {es : Nat → Env} {hs : Nat → H} {ds : Nat → D} (ht : TraceOk A call f base ops l es hs ds) (t : Nat) : ∀ k, k ≤ l.length → IsVal l (es 0) ds (· < k) t ((es k).get t)
  | 0, _ => .inr ⟨fun k o _ hk => by omega, rfl⟩
  | k + 1, hk => by
    have hk' : k < l.length := hk
    obtain ⟨o, ho⟩ : ∃ o, l[k]? = some o := ⟨l[k], List.getElem?_eq_getElem hk'⟩
    have he : (es (k + 1)).get t = if o.dst = some t then ds k else (es k).get t := by
      have : es (k + 1) = (es k).put o.dst (ds k) := by
        rcases ht.step k o ho with ⟨_, _, e⟩ | ⟨_, e1, _, e⟩
        · exact e
        · rw [e1]; exact e
      rw [this]
      cases hd : o.dst with
      | none => simp [Env.put]
      | some t' => simp only [Env.get_put, Option.some.injEq]
    rw [he]
    by_cases hd : o.dst = some t
    · rw [if_pos hd]
      exact .inl ⟨k, o, ho, Nat.lt_succ_self k, hd, rfl, fun j oj hj _ hx => by omega⟩
    · rw [if_neg hd]
      rcases trace_get ht t k (by omega) with ⟨i, oi, h1, h2, h3, h4, h5⟩ | ⟨h1, h2⟩
      · refine .inl ⟨i, oi, h1, by omega, h3, h4, fun j oj hj hoj hx => ?_⟩
        by_cases hjk : j = k
        · subst hjk
          rw [ho] at hoj
          simp only [Option.some.injEq] at hoj
          subst hoj
          exact hd
        · exact h5 j oj hj hoj (by omega)
      · refine .inr ⟨fun j oj hoj hx => ?_, h2⟩
        by_cases hjk : j = k
        · subst hjk
          rw [ho] at hoj
          simp only [Option.some.injEq] at hoj
          subst hoj
          exact hd
        · exact h1 j oj hoj (by omega)

theorem IsVal.uniq {l : List Oper} {e0 : Env} {ds : Nat → D} {ex : Nat → Prop} {t : Nat} {d d' : D} (a : IsVal l e0 ds ex t d) (b : IsVal l e0 ds ex t d') : d = d' := by
  rcases a with ⟨k, o, h1, h2, h3, h4, h5⟩ | ⟨h1, h2⟩ <;> rcases b with ⟨k', o', g1, g2, g3, g4, g5⟩ | ⟨g1, g2⟩
  · have : k = k' := by
      rcases Nat.lt_trichotomy k k' with hlt | he | hlt
      · exact absurd g3 (h5 k' o' hlt g1 g2)
      · exact he
      · exact absurd h3 (g5 k o hlt h1 h2)
    subst this
    rw [h4, g4]
  · exact absurd h3 (g1 k o h1 h2)
  · exact absurd g3 (h1 k' o' g1 g2)
  · rw [h2, g2]

theorem IsVal.exists (l : List Oper) (e0 : Env) (ds : Nat → D) (ex : Nat → Prop) (t : Nat) : ∃ d, IsVal l e0 ds ex t d := by
  have key : ∀ m, m ≤ l.length → ∃ d, IsVal l e0 ds (fun k => k < m ∧ ex k) t d := by
    intro m
    induction m with
    | zero => intro _; exact ⟨_, .inr ⟨fun k o _ hk => by omega, rfl⟩⟩
    | succ m ih =>
      intro hm
      obtain ⟨o, ho⟩ : ∃ o, l[m]? = some o := ⟨l[m], List.getElem?_eq_getElem hm⟩
      by_cases hc : ex m ∧ o.dst = some t
      · exact ⟨ds m, .inl ⟨m, o, ho, ⟨Nat.lt_succ_self m, hc.1⟩, hc.2, rfl, fun j oj hj _ hx => by omega⟩⟩
      · obtain ⟨d, hd⟩ := ih (by omega)
        refine ⟨d, ?_⟩
        have hno : ∀ (j : Nat) oj, l[j]? = some oj → (j < m + 1 ∧ ex j) → ¬ j < m → oj.dst ≠ some t := fun j oj hj hx hlt e => by
          have : j = m := by omega
          subst this
          rw [ho] at hj
          simp only [Option.some.injEq] at hj
          subst hj
          exact hc ⟨hx.2, e⟩
        rcases hd with ⟨i, oi, h1, h2, h3, h4, h5⟩ | ⟨h1, h2⟩
        · refine .inl ⟨i, oi, h1, ⟨by omega, h2.2⟩, h3, h4, fun j oj hj hoj hx => ?_⟩
          by_cases hlt : j < m
          · exact h5 j oj hj hoj ⟨hlt, hx.2⟩
          · exact hno j oj hoj hx hlt
        · refine .inr ⟨fun j oj hoj hx => ?_, h2⟩
          by_cases hlt : j < m
          · exact h1 j oj hoj ⟨hlt, hx.2⟩
          · exact hno j oj hoj hx hlt
  obtain ⟨d, hd⟩ := key l.length (Nat.le_refl _)
  refine ⟨d, ?_⟩
  have hlt : ∀ {k : Nat} {o}, l[k]? = some o → k < l.length := fun hk => (List.getElem?_eq_some_iff.1 hk).1
  rcases hd with ⟨i, oi, h1, h2, h3, h4, h5⟩ | ⟨h1, h2⟩
  · exact .inl ⟨i, oi, h1, h2.2, h3, h4, fun j oj hj hoj hx => h5 j oj hj hoj ⟨hlt hoj, hx⟩⟩
  · exact .inr ⟨fun j oj hoj hx => h1 j oj hoj ⟨hlt hoj, hx⟩, h2⟩
end Go.Dn

namespace Go.Dn
variable {X0 : Nat → Prop} {β β' β'' : Bt} {h h' h'' : H} {w w' w'' : World} {P : Program} {A : Ann} {base n : Nat}

/-- Only an operation's own operands count. -/
theorem parts_congr {ev ev' : Operand → Option D} : ∀ {l : List (Nat × Operand)}, (∀ x ∈ l, ev x.2 = ev' x.2) → partsD ev l = partsD ev' l
  | [], _ => rfl
  | (i, x) :: l, hx => by
    simp only [partsD]
    rw [hx (i, x) (by simp), parts_congr fun y hy => hx y (by simp [hy])]
theorem args_congr {ev ev' : Operand → Option D} : ∀ {l : List Operand}, (∀ x ∈ l, ev x = ev' x) → argsD ev l = argsD ev' l
  | [], _ => rfl
  | x :: l, hx => by
    simp only [argsD]
    rw [hx x (by simp), args_congr fun y hy => hx y (by simp [hy])]
theorem opt_congr {ev ev' : Operand → Option D} {o : Option Operand} (hx : ∀ x, o = some x → ev x = ev' x) : optD ev o = optD ev' o := by
  cases o with
  | none => rfl
  | some x => simp only [optD, hx x rfl]

theorem denOp_congr {call : CallFn} {f : FuncId} {ev ev' : Operand → Option D} {o : Oper} (hx : ∀ x ∈ o.op.operands, ev x = ev' x) : denOp A call f base ev o h = denOp A call f base ev' o h := by
  unfold denOp
  cases hop : o.op <;> simp only [hop, Op.operands] at hx <;> simp only []
  case build t ps => rw [parts_congr fun x hm => hx x.2 (by simpa using ⟨x.1, Array.mem_toList_iff.1 hm⟩)]
  case buildSlice t m ps => rw [parts_congr fun x hm => hx x.2 (by simpa using ⟨x.1, Array.mem_toList_iff.1 hm⟩)]
  case makeFunc g x y => rw [args_congr fun z hz => hx z (by simp at hz; simp [hz]), args_congr (l := y.toList) fun z hz => hx z (by simp at hz; simp [hz])]
  case slice t x lo hi mx =>
    rw [hx x (by simp), opt_congr (o := lo) fun z hz => hx z (by simp [hz]), opt_congr (o := hi) fun z hz => hx z (by simp [hz]), opt_congr (o := mx) fun z hz => hx z (by simp [hz])]
  case call c =>
    have ha : argsD ev c.args.toList = argsD ev' c.args.toList := args_congr fun z hz => hx z (by simp [Call.operands, Array.mem_toList_iff.1 hz])
    rw [ha]
    cases hc : c.callee with
    | builtin b => rfl
    | value x =>
      have := hx x (by simp [Call.operands, hc])
      simp only [this]
    | invoke r nm =>
      have := hx r (by simp [Call.operands, hc])
      simp only [this]
  all_goals first | rfl | (simp_all; done) | skip

def XP (X0 : Nat → Prop) (pd : List (Nat × Nat × Nat)) (b : Nat) : Prop := X0 b ∨ ∃ k x, (k, b, x) ∈ pd
def Ex' (ord : List Nat) (listed : Array Bool) (k : Nat) : Prop := ∃ i, ord[k]? = some i ∧ listed.getD i false = true

/-- A block that was made before its turn. -/
structure PB (X : Nat → Prop) (β : Bt) (h : H) (w : World) (z : List D) (b x : Nat) : Prop where
  cells : ∃ cs ty fr, w.heap[b]? = some (.cells cs ty fr) ∧ FrOk cs fr ∧ x + z.length ≤ cs.size ∧ VLW X β h w z ((cs.toList.drop x).take z.length)
  free : rbL 0 z = true
  flat : z.all D.isCell = true

/-- What is given of a region and its reference run. -/
structure Run where
  A : Ann
  call : CallFn
  f : FuncId
  base : Nat
  ntm : Nat
  ops : Array Oper
  ord : List Nat
  l : List Oper
  ps : List (Nat × Nat)
  es : Nat → Env
  hs : Nat → H
  ds : Nat → D
  X0 : Nat → Prop
  β0 : Bt
  h0 : H
  w0 : World

structure RInv (R : Run) (p : Nat) (β : Bt) (pd : List (Nat × Nat × Nat)) (listed : Array Bool) (a : Act) (w : World) : Prop where
  closed : ∀ (k : Nat) o, R.l[k]? = some o → Ex' R.ord listed k → ∀ e ∈ o.after, Region.binds .any e = true → listed.getD e.on false = true
  size : listed.size = R.ops.size
  ple : p ≤ R.l.length
  done : ∀ (k : Nat) o, k < p → R.l[k]? = some o → rdAt R.A R.ps k o = false → Ex' R.ord listed k
  nowr : ∀ (k : Nat) o, p ≤ k → R.l[k]? = some o → Ex' R.ord listed k → rdAt R.A R.ps k o = false → isAlloc R.A R.f o = true
  pe : ∀ (k : Nat) o, p ≤ k → R.l[k]? = some o → Ex' R.ord listed k → isAlloc R.A R.f o = true → ∃ b x, (k, b, x) ∈ pd
  pdk : ∀ k b x, (k, b, x) ∈ pd → p ≤ k ∧ Ex' R.ord listed k ∧ ¬ R.X0 b ∧ ¬ Live β (R.hs p) b ∧ R.w0.heap.size ≤ b ∧ b < w.heap.size
  pdo : ∀ k b x, (k, b, x) ∈ pd → ∃ o z d, R.l[k]? = some o ∧ isAlloc R.A R.f o = true ∧ o.dst = some d ∧ R.hs (k + 1) = R.hs k ++ [some ⟨0, z⟩] ∧ a.tmps.getD d undef = .pointer (some ⟨b, x, none⟩) ∧ PB (XP R.X0 pd) β (R.hs p) w z b x
  inj : ∀ k k' b x x', (k, b, x) ∈ pd → (k', b, x') ∈ pd → k = k'
  fn : ∀ k b b' x x', (k, b, x) ∈ pd → (k, b', x') ∈ pd → b = b' ∧ x = x'
  rel : Rel (XP R.X0 pd) β (R.hs p) w
  low : XLow (XP R.X0 pd) w
  glob : GlobOk R.A (XP R.X0 pd) β (R.hs p) w
  nx : Nx R.X0 R.β0 R.h0 R.w0 β (R.hs p) w
  kp : Keeps R.base R.h0 (R.hs p)
  tm : a.tmps.size = R.ntm
  df : a.defers = []
  env : ∀ t d, IsVal R.l (R.es 0) R.ds (Ex' R.ord listed) t d → (∀ k b x o, (k, b, x) ∈ pd → R.l[k]? = some o → o.dst ≠ some t) → VW (XP R.X0 pd) β (R.hs p) w d (a.tmps.getD t undef) ∧ rb (R.hs p).length d = true

structure RunOk (P : Program) (R : Run) : Prop where
  prog : ProgOk P R.A
  call : CallOk P R.A R.call
  text : TextOk R.A R.f R.ntm R.ops R.ord R.l R.ps
  tr : TraceOk R.A R.call R.f R.base R.ops R.l R.es R.hs R.ds
  pairs : ∀ k p, (k, p) ∈ R.ps → ∀ o, R.l[k]? = some o → wantD R.ops (R.es k) o = true → ∃ h1 h2, denOp R.A R.call R.f R.base (evalD R.A (R.es k)) o (R.hs k) = some (R.ds k, h1) ∧ h1.length = (R.hs k).length ∧
    denOp R.A R.call R.f R.base (evalD R.A (R.es k)) o (R.hs p) = some (R.ds k, h2) ∧ h2.length = (R.hs p).length
  h0 : R.hs 0 = R.h0
  base : R.base ≤ R.h0.length

variable {R : Run} {p : Nat} {pd : List (Nat × Nat × Nat)} {listed : Array Bool} {a : Act}

theorem RInv.before (I : RInv R p β pd listed a w) {j k : Nat} (hf : Fb R.ord R.l j k) : Ex' R.ord listed k → Ex' R.ord listed j := by
  induction hf with
  | edge h1 h2 h3 h4 => exact fun hx => ⟨_, h4, I.closed _ _ h1 hx _ h2 h3⟩
  | trans _ _ ih1 ih2 => exact fun hx => ih1 (ih2 hx)

/-- Place k is ready. -/
structure Rdy (R : Run) (listed : Array Bool) (k : Nat) (o : Oper) : Prop where
  at_ : R.l[k]? = some o
  not : ¬ Ex' R.ord listed k
  pre : ∀ e ∈ o.after, Region.binds .any e = true → listed.getD e.on false = true

theorem Rdy.before (I : RInv R p β pd listed a w) {k : Nat} {o : Oper} (hr : Rdy R listed k o) {j : Nat} (hf : Fb R.ord R.l j k) : Ex' R.ord listed j := by
  have key : ∀ {j k : Nat}, Fb R.ord R.l j k → R.l[k]? = some o → (∀ e ∈ o.after, Region.binds .any e = true → listed.getD e.on false = true) → Ex' R.ord listed j := by
    intro j k hf
    induction hf with
    | edge h1 h2 h3 h4 =>
      intro ha hp
      rw [h1] at ha
      simp only [Option.some.injEq] at ha
      subst ha
      exact ⟨_, h4, hp _ h2 h3⟩
    | trans h1 _ _ ih2 => exact fun ha hp => I.before h1 (ih2 ha hp)
  exact key hf hr.at_ hr.pre

theorem Rdy.val (O : RunOk P R) (I : RInv R p β pd listed a w) {k : Nat} {o : Oper} (hr : Rdy R listed k o) {t : Nat} (ht : t ∈ o.looksAt R.ops) : IsVal R.l (R.es 0) R.ds (Ex' R.ord listed) t ((R.es k).get t) := by
  have hk : k < R.l.length := (List.getElem?_eq_some_iff.1 hr.at_).1
  have hlater : ∀ (j : Nat) oj, k ≤ j → R.l[j]? = some oj → Ex' R.ord listed j → oj.dst ≠ some t := fun j oj hkj hoj hx hd => by
    by_cases e : j = k
    · subst e; exact hr.not hx
    · have hlt : k < j := by omega
      rcases O.text.apart k j o oj hlt hr.at_ hoj with hf | hap
      · exact hr.not (I.before hf hx)
      · exact (Oper.apart_spec hap).2.2 t hd ht
  rcases trace_get O.tr t k (by omega) with ⟨i, oi, h1, h2, h3, h4, h5⟩ | ⟨h1, h2⟩
  · refine .inl ⟨i, oi, h1, ?_, h3, h4, fun j oj hj hoj hx => ?_⟩
    · rcases O.text.apart i k oi o h2 h1 hr.at_ with hf | hap
      · exact hr.before I hf
      · exact absurd ht ((Oper.apart_spec hap).1 t h3)
    · by_cases hjk : j < k
      · exact h5 j oj hj hoj hjk
      · exact hlater j oj (by omega) hoj hx
  · refine .inr ⟨fun j oj hoj hx => ?_, h2⟩
    by_cases hjk : j < k
    · exact h1 j oj hoj hjk
    · exact hlater j oj (by omega) hoj hx


theorem Rdy.look (O : RunOk P R) (I : RInv R p β pd listed a w) {k : Nat} {o : Oper} (hr : Rdy R listed k o) (hp : rdAt R.A R.ps k o = false → isAlloc R.A R.f o = false → k ≤ p) {t : Nat} (ht : t ∈ o.looksAt R.ops) :
    VW (XP R.X0 pd) β (R.hs p) w ((R.es k).get t) (a.tmps.getD t undef) ∧ rb (R.hs p).length ((R.es k).get t) = true := by
  refine I.env t _ (hr.val O I ht) fun kk b x ok hmem hok hd => ?_
  obtain ⟨o2, t2, d2, q1, q2, q3, _⟩ := I.pdo kk b x hmem
  rw [hok] at q1
  simp only [Option.some.injEq] at q1
  subst q1
  obtain ⟨_, _, t', ht', _, hl⟩ := O.text.pend kk ok hok q2
  rw [hd] at ht'
  simp only [Option.some.injEq] at ht'
  subst ht'
  obtain ⟨c1, c2, c3⟩ := hl k o hr.at_ ht
  have := hp c2 c3
  have := (I.pdk kk b x hmem).1
  omega

theorem Rdy.wanted (O : RunOk P R) (I : RInv R p β pd listed a w) {k : Nat} {o : Oper} (hr : Rdy R listed k o) (hp : rdAt R.A R.ps k o = false → isAlloc R.A R.f o = false → k ≤ p) : Region.wanted o (yielded R.ops a.tmps) = wantD R.ops (R.es k) o := by
  rw [wantD_dB]
  unfold Region.wanted
  cases hg : o.guard with
  | none => rfl
  | some g =>
    obtain ⟨j, want⟩ := g
    simp only [yielded_vB]
    cases hj : (R.ops[j]?).bind (·.dst) with
    | none => rfl
    | some t =>
      have := hr.look O I hp (t := t) (by simp [Oper.looksAt, hg, hj])
      simp only [boolD this.1]

/-- An operation runs, on the heap of its place. -/
theorem Rdy.run (O : RunOk P R) (I : RInv R p β pd listed a w) {k : Nat} {o : Oper} (hr : Rdy R listed k o) (hp : rdAt R.A R.ps k o = false → isAlloc R.A R.f o = false → k ≤ p) {d : D} {h2 : H}
    (hl : denOp R.A R.call R.f R.base (evalD R.A (R.es k)) o (R.hs p) = some (d, h2)) {K : Act → World → Prop} {Q : Exit → Act → World → Prop} (hK : Goes (XP R.X0 pd) R.base β (R.hs p) w d h2 o a K) : o.wp P a w K Q := by
  classical
  let ev : Operand → Option D := fun x => if x ∈ o.op.operands then evalD R.A (R.es k) x else none
  have hl' : denOp R.A R.call R.f R.base ev o (R.hs p) = some (d, h2) := by
    rw [← hl]
    exact denOp_congr fun x hx => by simp [ev, hx]
  refine denOp_wp O.prog O.call I.rel I.low I.glob (Nat.le_trans O.base I.nx.len) hl' (fun x dx hx => ?_) hK
  simp only [ev] at hx
  split at hx
  · rename_i hmem
    cases x with
    | tmp t =>
      simp only [evalD, Option.some.injEq] at hx
      subst hx
      exact hr.look O I hp (by simp only [Oper.looksAt, List.mem_append, List.mem_filterMap]; exact .inl ⟨.tmp t, by simpa using hmem, rfl⟩)
    | const v =>
      simp only [evalD] at hx
      have := ofV_ok (cl := w.cell?) (X := XX (XP R.X0 pd) β (R.hs p)) (ρ := rho w β (R.hs p)) hx
      exact ⟨this.1, rb_mono (Nat.zero_le _) this.2⟩
    | global g =>
      simp only [evalD, Option.map_eq_some_iff] at hx
      obtain ⟨cs, h1, rfl⟩ := hx
      refine ⟨?_, rfl⟩
      simp only [VW, V]
      exact ⟨_, rfl, I.glob g cs h1⟩
    | func f =>
      simp only [evalD, Option.some.injEq] at hx
      subst hx
      refine ⟨?_, rfl⟩
      simp only [VW, V]
      exact ⟨_, _, rfl, VL.nil, VL.nil⟩
  · cases hx

theorem ex_set (O : RunOk P R) (hsz : listed.size = R.ops.size) {k i : Nat} {o : Oper} (hi : R.ord[k]? = some i) (ho : R.ops[i]? = some o) (j : Nat) : Ex' R.ord (listed.setIfInBounds i true) j ↔ Ex' R.ord listed j ∨ j = k := by
  have hlt : i < listed.size := by rw [hsz]; exact (Array.getElem?_eq_some_iff.1 ho).1
  constructor
  · rintro ⟨m, h1, h2⟩
    by_cases e : i = m
    · subst e
      exact .inr (O.text.inj j k i h1 hi)
    · rw [getD_set_ne false e] at h2
      exact .inl ⟨m, h1, h2⟩
  · rintro (⟨m, h1, h2⟩ | rfl)
    · exact ⟨m, h1, getD_set_true h2⟩
    · exact ⟨i, hi, by simp [hlt]⟩

theorem IsVal.put (O : RunOk P R) (I : RInv R p β pd listed a w) {k : Nat} {o : Oper} (hr : Rdy R listed k o) {ex2 : Nat → Prop} (hex : ∀ j, ex2 j ↔ Ex' R.ord listed j ∨ j = k) {t : Nat} {d : D} (hv : IsVal R.l (R.es 0) R.ds ex2 t d) :
    (o.dst = some t ∧ d = R.ds k) ∨ (o.dst ≠ some t ∧ IsVal R.l (R.es 0) R.ds (Ex' R.ord listed) t d) := by
  by_cases hd : o.dst = some t
  · refine .inl ⟨hd, ?_⟩
    rcases hv with ⟨m, om, h1, h2, h3, h4, h5⟩ | ⟨h1, _⟩
    · by_cases e : m = k
      · rw [h4, e]
      · have hm := ((hex m).1 h2).resolve_right e
        have : ¬ m < k := fun hlt => h5 k o hlt hr.at_ ((hex k).2 (.inr rfl)) hd
        rcases O.text.apart k m o om (by omega) hr.at_ h1 with hf | hap
        · exact absurd (I.before hf hm) hr.not
        · exact absurd h3 ((Oper.apart_spec hap).2.1 t hd)
    · exact absurd hd (h1 k o hr.at_ ((hex k).2 (.inr rfl)))
  · refine .inr ⟨hd, ?_⟩
    rcases hv with ⟨m, om, h1, h2, h3, h4, h5⟩ | ⟨h1, h2⟩
    · refine .inl ⟨m, om, h1, ((hex m).1 h2).resolve_right fun e => ?_, h3, h4, fun j oj hj hoj hx => h5 j oj hj hoj ((hex j).2 (.inl hx))⟩
      subst e
      rw [hr.at_] at h1
      simp only [Option.some.injEq] at h1
      subst h1
      exact hd h3
    · exact .inr ⟨fun j oj hoj hx => h1 j oj hoj ((hex j).2 (.inl hx)), h2⟩

theorem put_getD {a : Act} {o : Option Tmp} {v : Value} {t : Nat} (hn : o ≠ some t) : (a.put o v).tmps.getD t undef = a.tmps.getD t undef := by
  cases o with
  | none => rfl
  | some d =>
    have : d ≠ t := fun e => hn (by rw [e])
    simp [Act.put, Array.getElem?_setIfInBounds_ne this]
theorem put_self {a : Act} {d : Nat} {v : Value} (hd : d < a.tmps.size) : (a.put (some d) v).tmps.getD d undef = v := by simp [Act.put, hd]
theorem put_size (a : Act) (o : Option Tmp) (v : Value) : (a.put o v).tmps.size = a.tmps.size := by cases o <;> simp [Act.put]
theorem put_defers (a : Act) (o : Option Tmp) (v : Value) : (a.put o v).defers = a.defers := by cases o <;> rfl

theorem Nx.over {X1 : Nat → Prop} (a : Nx X0 β h w β' h' w') (b : Nx X1 β' h' w' β'' h'' w'') (h1 : ∀ b, X1 b → X0 b ∨ w.heap.size ≤ b) (h2 : ∀ b, X0 b → X1 b) : Nx X0 β h w β'' h'' w'' := by
  refine ⟨Nat.le_trans a.size b.size, b.os.trans a.os, b.tape.trans a.tape, b.output.trans a.output, fun x hx hX => ?_, fun x hx hX => ?_, Nat.le_trans a.len b.len, fun id k hi hk => ?_, fun x hl => ?_⟩
  · exact (b.keepX x (Nat.lt_of_lt_of_le hx a.size) (h2 x hX)).trans (a.keepX x hx hX)
  · refine (a.keep x hx hX).trans (b.keep x (Nat.lt_of_lt_of_le hx a.size) ?_)
    rintro (h0 | hl)
    · rcases h1 x h0 with h3 | h3
      · exact hX (.inl h3)
      · omega
    · rcases a.news x hl with h1 | h1
      · omega
      · exact hX (.inr h1)
  · obtain ⟨k1, hk1, hv1, he1⟩ := b.ids id k (Nat.lt_of_lt_of_le hi a.len) hk
    obtain ⟨k0, hk0, hv0, he0⟩ := a.ids id k1 hi hk1
    refine ⟨k0, hk0, Nat.le_trans hv0 hv1, fun e => ?_⟩
    obtain ⟨e1, r1⟩ := he1 (by omega)
    obtain ⟨e0, r0⟩ := he0 (by omega)
    exact ⟨e1.trans e0, fun n hr => by have := r1 n (by rw [e0]; exact r0 n hr); rwa [e0] at this⟩
  · rcases b.news x hl with h3 | h3
    · exact .inl (Nat.le_trans a.size h3)
    · exact a.news x h3

/-- An operation that reads, or the next that writes. -/
theorem RInv.exec (O : RunOk P R) (I : RInv R p β pd listed a w) {k i : Nat} {o : Oper} (hi : R.ord[k]? = some i) (ho : R.ops[i]? = some o) (hr : Rdy R listed k o) {p2 : Nat}
    (hp2 : (p2 = p ∧ rdAt R.A R.ps k o = true) ∨ (p = k ∧ p2 = k + 1 ∧ isAlloc R.A R.f o = false)) {β' : Bt} {w' : World} {v : Value}
    (st : Step (XP R.X0 pd) R.base β (R.hs p) w β' (R.hs p2) w') (hv : VW (XP R.X0 pd) β' (R.hs p2) w' (R.ds k) v) (hb : rb (R.hs p2).length (R.ds k) = true) :
    RInv R p2 β' pd (listed.setIfInBounds i true) (a.put o.dst v) w' := by
  have hex := fun j => ex_set (listed := listed) O I.size hi ho j
  have hk : k < R.l.length := (List.getElem?_eq_some_iff.1 hr.at_).1
  have hnal : isAlloc R.A R.f o = false := by
    rcases hp2 with ⟨_, h1⟩ | ⟨_, _, h1⟩
    · cases ha : isAlloc R.A R.f o with
      | false => rfl
      | true => rw [(O.text.pend k o hr.at_ ha).1] at h1; cases h1
    · exact h1
  have hkk : ∀ kk b x, (kk, b, x) ∈ pd → p2 ≤ kk := fun kk b x hm => by
    obtain ⟨q1, q2, _⟩ := I.pdk kk b x hm
    rcases hp2 with ⟨e, _⟩ | ⟨e1, e2, _⟩
    · omega
    · have : kk ≠ k := fun e => hr.not (e ▸ q2)
      omega
  have hle : p ≤ p2 := by rcases hp2 with ⟨e, _⟩ | ⟨e1, e2, _⟩ <;> omega
  have hown : ∀ kk b x d ok, (kk, b, x) ∈ pd → R.l[kk]? = some ok → ok.dst = some d → o.dst ≠ some d := fun kk b x d ok hm hok hd he => by
    obtain ⟨o2, t2, d2, q1, q2, q3, _⟩ := I.pdo kk b x hm
    rw [hok] at q1
    simp only [Option.some.injEq] at q1
    subst q1
    obtain ⟨_, _, t', ht', hu, _⟩ := O.text.pend kk ok hok q2
    rw [hd] at ht'
    simp only [Option.some.injEq] at ht'
    subst ht'
    have := hu k o hr.at_ he
    exact hr.not (this ▸ (I.pdk kk b x hm).2.1)
  refine { closed := fun j oj hoj hx e he hbd => ?_, size := by simpa using I.size, ple := ?_, done := fun j oj hj hoj hrd => ?_, nowr := fun j oj hj hoj hx hrd => ?_, pe := fun j oj hj hoj hx hal => ?_, pdk := fun kk b x hm => ?_, pdo := fun kk b x hm => ?_, inj := I.inj, fn := I.fn, rel := st.rel, low := I.low.next st.nx, glob := I.glob.next st.nx, nx := ?_, kp := I.kp.trans st.kp, tm := by rw [put_size]; exact I.tm, df := by rw [put_defers]; exact I.df, env := fun t d hval hnp => ?_ }
  · rcases (hex j).1 hx with hx | rfl
    · exact getD_set_true (I.closed j oj hoj hx e he hbd)
    · rw [hr.at_] at hoj
      simp only [Option.some.injEq] at hoj
      subst hoj
      exact getD_set_true (hr.pre e he hbd)
  · have := I.ple
    rcases hp2 with ⟨e, _⟩ | ⟨e1, e2, _⟩ <;> omega
  · by_cases e : j = k
    · exact (hex j).2 (.inr e)
    · refine (hex j).2 (.inl (I.done j oj ?_ hoj hrd))
      rcases hp2 with ⟨e, _⟩ | ⟨e1, e2, _⟩ <;> omega
  · rcases (hex j).1 hx with hx | rfl
    · exact I.nowr j oj (by omega) hoj hx hrd
    · rw [hr.at_] at hoj
      simp only [Option.some.injEq] at hoj
      subst hoj
      rcases hp2 with ⟨_, h1⟩ | ⟨_, h1, _⟩
      · rw [hrd] at h1; cases h1
      · omega
  · rcases (hex j).1 hx with hx | rfl
    · exact I.pe j oj (by omega) hoj hx hal
    · rw [hr.at_] at hoj
      simp only [Option.some.injEq] at hoj
      subst hoj
      rw [hnal] at hal
      cases hal
  · obtain ⟨q1, q2, q3, q4, q5, q6⟩ := I.pdk kk b x hm
    refine ⟨hkk kk b x hm, (hex kk).2 (.inl q2), q3, fun hl => ?_, q5, Nat.lt_of_lt_of_le q6 st.nx.size⟩
    rcases st.nx.news b hl with h1 | h1
    · omega
    · exact q4 h1
  · obtain ⟨o2, t2, d2, q1, q2, q3, qz, q4, q5⟩ := I.pdo kk b x hm
    refine ⟨o2, t2, d2, q1, q2, q3, qz, ?_, ?_⟩
    · rw [put_getD (hown kk b x d2 o2 hm q1 q3)]
      exact q4
    · obtain ⟨cs, ty, fr, c1, c2, c3, c4⟩ := q5.cells
      have hX : XP R.X0 pd b := .inr ⟨kk, x, hm⟩
      exact ⟨⟨cs, ty, fr, (st.nx.keepX b (I.pdk kk b x hm).2.2.2.2.2 hX).trans c1, c2, c3, VLW.next st.nx (rbL_mono (Nat.zero_le _) q5.free) c4⟩, q5.free, q5.flat⟩
  · refine I.nx.over st.nx (fun b hb => ?_) (fun b hb => .inl hb)
    rcases hb with h1 | ⟨kk, x, hm⟩
    · exact .inl h1
    · exact .inr (I.pdk kk b x hm).2.2.2.2.1
  · rcases hval.put O I hr hex with ⟨e1, rfl⟩ | ⟨e1, e2⟩
    · have hlt : t < a.tmps.size := by rw [I.tm]; exact O.text.dst k o t hr.at_ e1
      rw [e1, put_self hlt]
      exact ⟨hv, hb⟩
    · rw [put_getD e1]
      obtain ⟨q1, q2⟩ := I.env t d e2 hnp
      exact ⟨VW.next st.nx q2 q1, rb_mono st.nx.len q2⟩
end Go.Dn

namespace Go.Dn
variable {X0 : Nat → Prop} {β β' β'' : Bt} {h h' h'' : H} {w w' w'' : World} {P : Program} {A : Ann} {base n : Nat}
variable {R : Run} {p : Nat} {pd : List (Nat × Nat × Nat)} {listed : Array Bool} {a : Act}

theorem alloc_shape {call : CallFn} {f : FuncId} {ev : Operand → Option D} {o : Oper} {d : D} {h1 : H} (ho : isAlloc A f o = true) (hz : ∀ t : TypeId, (A.ty t).zero.length = (A.ty t).size → 0 < (A.ty t).size → rbL 0 (A.ty t).zero = true) (hl : denOp A call f base ev o h = some (d, h1)) :
    ∃ z, rbL 0 z = true ∧ d = .ptr h.length 0 0 ∧ h1 = h ++ [some ⟨0, z⟩] ∧ ∀ h', denOp A call f base ev o h' = some (.ptr h'.length 0 0, h' ++ [some ⟨0, z⟩]) := by
  unfold denOp at hl
  cases hop : o.op <;> simp only [isAlloc, hop, Bool.false_eq_true] at ho
  case alloc t =>
    simp only [hop] at hl
    split at hl
    · rename_i hc
      simp only [allocD, Option.some.injEq, Prod.mk.injEq] at hl
      obtain ⟨rfl, rfl⟩ := hl
      refine ⟨_, hz t hc.2 hc.1, rfl, rfl, fun h' => ?_⟩
      unfold denOp
      simp only [hop, if_pos hc, allocD]
    · cases hl
  case box t x =>
    simp only [hop, Option.bind_eq_bind, Option.bind_eq_some_iff] at hl
    obtain ⟨v, q1, hl⟩ := hl
    cases hdst : o.dst with
    | none => simp [hdst] at ho
    | some td =>
      simp only [hdst, Bool.and_eq_true, Bool.not_eq_true'] at ho hl
      split at hl
      · cases hl
      · rename_i hk
        rw [if_neg (by rw [ho.2]; simp)] at hl
        rw [ho.1] at hk
        simp only [allocD, Option.some.injEq, Prod.mk.injEq] at hl
        obtain ⟨rfl, rfl⟩ := hl
        simp only [Bool.not_true, Bool.false_or, Bool.not_eq_false, Bool.and_eq_true] at hk
        refine ⟨v.cells, hk.2, rfl, rfl, fun h' => ?_⟩
        unfold denOp
        simp only [hop, hdst, q1, Option.bind_eq_bind, Option.bind_some, ho.1, ho.2, hk.1, hk.2, Bool.not_true, Bool.false_or, Bool.and_true, Bool.false_and, Bool.true_eq_false, Bool.false_eq_true, if_false, allocD]
  all_goals (cases hd : o.dst <;> simp_all)

theorem zero_rb (O : RunOk P R) {t : TypeId} (h1 : (R.A.ty t).zero.length = (R.A.ty t).size) (h2 : 0 < (R.A.ty t).size) : rbL 0 (R.A.ty t).zero = true := by
  have hA := O.prog.ty
  rw [hA] at h1 h2 ⊢
  obtain ⟨i, zv, _, _, _, q1, q2⟩ := zero_ok (P := P) (t := t) rfl h1 (Nat.ne_of_gt h2) (fun _ => False) (fun _ => (0, 0)) [] default
  exact q1

theorem trace_alloc (O : RunOk P R) {k : Nat} {o : Oper} (hk : R.l[k]? = some o) (ho : isAlloc R.A R.f o = true) :
    ∃ z, rbL 0 z = true ∧ R.ds k = .ptr (R.hs k).length 0 0 ∧ R.hs (k + 1) = R.hs k ++ [some ⟨0, z⟩] ∧ wantD R.ops (R.es k) o = true ∧
    ∀ h', denOp R.A R.call R.f R.base (evalD R.A (R.es k)) o h' = some (.ptr h'.length 0 0, h' ++ [some ⟨0, z⟩]) := by
  have hg := (O.text.pend k o hk ho).2.1
  have hw : wantD R.ops (R.es k) o = true := by unfold wantD; rw [hg]
  rcases O.tr.step k o hk with ⟨_, h2, _⟩ | ⟨h1, _⟩
  · obtain ⟨z, a1, a3, a4, a5⟩ := alloc_shape ho (fun t h1 h2 => zero_rb O h1 h2) h2
    exact ⟨z, a1, a3, a4, hw, a5⟩
  · rw [hw] at h1; cases h1

/-- Seen without the newest block. -/
theorem rho_un {k : Blk} {id ver off : Nat} {a : Addr} (hi : id < h.length) (hp : (rho w β (h ++ [some k])).p id ver off a) : (rho w β h).p id ver off a := by
  refine ⟨fun k' hk => hp.1 k' (by rw [get_append_old hi]; exact hk), ?_⟩
  rintro ⟨k', hk, e⟩
  exact hp.2 ⟨k', by rw [get_append_old hi]; exact hk, e⟩
theorem rho_un_r {k : Blk} {id ver off len cap sz : Nat} {clip : Bool} {a : Addr} {c : Nat} (hi : id < h.length) (hp : (rho w β (h ++ [some k])).r id ver off len cap sz clip a c) : (rho w β h).r id ver off len cap sz clip a c := by
  refine ⟨fun k' hk => hp.1 k' (by rw [get_append_old hi]; exact hk), ?_⟩
  rintro ⟨k', hk, e⟩
  exact hp.2 ⟨k', by rw [get_append_old hi]; exact hk, e⟩
theorem VW.unadopt {X1 X2 : Nat → Prop} {k : Blk} (hX : ∀ b, XX X2 β h b → XX X1 β (h ++ [some k]) b) {d : D} {v : Value} (hb : rb h.length d = true) (hv : VW X1 β (h ++ [some k]) w d v) : VW X2 β h w d v :=
  V.mono (m := h.length) (fun _ _ h1 h2 => ⟨h1, fun hx => h2 (hX _ hx)⟩) (fun _ _ _ _ hi hp => rho_un hi hp) (fun _ _ _ _ _ _ _ _ _ hi hp => rho_un_r hi hp) hb hv
theorem VLW.unadopt {X1 X2 : Nat → Prop} {k : Blk} (hX : ∀ b, XX X2 β h b → XX X1 β (h ++ [some k]) b) {d : List D} {v : List Value} (hb : rbL h.length d = true) (hv : VLW X1 β (h ++ [some k]) w d v) : VLW X2 β h w d v :=
  VL.mono (m := h.length) (fun _ _ h1 h2 => ⟨h1, fun hx => h2 (hX _ hx)⟩) (fun _ _ _ _ hi hp => rho_un hi hp) (fun _ _ _ _ _ _ _ _ _ hi hp => rho_un_r hi hp) hb hv

theorem RInv.alloc (O : RunOk P R) (I : RInv R p β pd listed a w) {k i : Nat} {o : Oper} {z : List D} {d : Nat} (hi : R.ord[k]? = some i) (ho : R.ops[i]? = some o) (hr : Rdy R listed k o) (hop : isAlloc R.A R.f o = true) (hd : o.dst = some d) (z3 : rbL 0 z = true) (zh : R.hs (k + 1) = R.hs k ++ [some ⟨0, z⟩]) {β' : Bt} {w' : World} {v : Value}
    (st : Step (XP R.X0 pd) R.base β (R.hs p) w β' (R.hs p ++ [some ⟨0, z⟩]) w') (hv : VW (XP R.X0 pd) β' (R.hs p ++ [some ⟨0, z⟩]) w' (.ptr (R.hs p).length 0 0) v) :
    RInv R p β' ((k, (β' (R.hs p).length).1, (β' (R.hs p).length).2) :: pd) (listed.setIfInBounds i true) (a.put o.dst v) w' := by
  have hex := fun j => ex_set (listed := listed) O I.size hi ho j
  have hzk : R.hs (k + 1) = R.hs k ++ [some ⟨0, z⟩] := zh
  clear zh
  generalize hh : R.hs p = h at st hv ⊢
  have hgn : H.get (h ++ [some ⟨0, z⟩]) h.length = some ⟨0, z⟩ := get_append_new _ _
  simp only [VW, V] at hv
  obtain ⟨ad, rfl, hp1, hp2⟩ := hv
  have had := hp2 ⟨_, hgn, rfl⟩
  rw [Nat.add_zero] at had
  generalize hbx : β' h.length = bx at *
  obtain ⟨b, x⟩ := bx
  simp only at had
  subst had
  obtain ⟨cs, ty, fr, hc, ok⟩ := st.rel.blk _ _ hgn
  rw [hbx] at hc
  simp only at hc
  have okl := ok.len
  have okv := ok.val
  have oko := ok.out
  have z4 := ok.flat
  rw [hbx] at okl okv oko
  simp only at okl okv oko
  have hlive1 : Live β' (h ++ [some ⟨0, z⟩]) b := ⟨_, _, hgn, by rw [hbx]⟩
  have hnl : ¬ Live β' h b := fun ⟨id, kk, hk, e⟩ => by
    have hlt := get_lt hk
    have := st.rel.inj id h.length kk _ (by rw [get_append_old hlt]; exact hk) hgn (by rw [hbx]; exact e)
    omega
  have hge : w.heap.size ≤ b := by
    rcases st.nx.news b hlive1 with h1 | ⟨id, kk, hk, e⟩
    · exact h1
    · have hlt := get_lt hk
      obtain ⟨k0, hk0, _, he⟩ := st.nx.ids id kk hlt (by rw [get_append_old hlt]; exact hk)
      rw [hk] at hk0
      simp only [Option.some.injEq] at hk0
      subst hk0
      exact absurd ⟨id, kk, hk, by rw [(he rfl).1]; exact e⟩ hnl
  have hlt' : b < w'.heap.size := (Array.getElem?_eq_some_iff.1 hc).1
  have hX : ∀ b2, XX (XP R.X0 ((k, b, x) :: pd)) β' h b2 → XX (XP R.X0 pd) β' (h ++ [some ⟨0, z⟩]) b2 := fun b2 hb2 => by
    rcases hb2 with (h0 | ⟨kk, xx, hm⟩) | ⟨id, kk, hk, e⟩
    · exact .inl (.inl h0)
    · rcases List.mem_cons.1 hm with e | hm
      · simp only [Prod.mk.injEq] at e
        obtain ⟨rfl, rfl, rfl⟩ := e
        exact .inr hlive1
      · exact .inl (.inr ⟨kk, xx, hm⟩)
    · exact .inr ⟨id, kk, by rw [get_append_old (get_lt hk)]; exact hk, e⟩
  have mv : ∀ {d : D} {v : Value}, rb h.length d = true → VW (XP R.X0 pd) β h w d v → VW (XP R.X0 ((k, b, x) :: pd)) β' h w' d v := fun hb hv => VW.unadopt hX hb (VW.next st.nx hb hv)
  have mvL : ∀ {d : List D} {v : List Value}, rbL h.length d = true → VLW (XP R.X0 pd) β h w d v → VLW (XP R.X0 ((k, b, x) :: pd)) β' h w' d v := fun hb hv => VLW.unadopt hX hb (VLW.next st.nx hb hv)
  have nx2 : Nx (XP R.X0 pd) β h w β' h w' := by
    have := st.nx.take
    rwa [List.take_left'] at this
    rfl
  have hrel := I.rel
  rw [hh] at hrel
  have hnotex : ∀ b' x', (k, b', x') ∉ pd := fun b' x' hm => hr.not (I.pdk k b' x' hm).2.1
  refine { closed := fun j oj hoj hx e he hbd => ?_, size := by simpa using I.size, ple := I.ple, done := fun j oj hj hoj hrd => (hex j).2 (.inl (I.done j oj hj hoj hrd)), nowr := fun j oj hj hoj hx hrd => ?_, pe := fun j oj hj hoj hx hal => ?_, pdk := fun kk b2 x2 hm => ?_, pdo := fun kk b2 x2 hm => ?_, inj := fun k1 k2 b2 x1 x2 h1 h2 => ?_, fn := fun k1 b1 b2 x1 x2 h1 h2 => ?_, rel := ?_, low := fun b2 hb2 => ?_, glob := fun g cs hg => ?_, nx := ?_, kp := ?_, tm := by rw [put_size]; exact I.tm, df := by rw [put_defers]; exact I.df, env := fun t2 d2 hval hnp => ?_ }
  · rcases (hex j).1 hx with hx | rfl
    · exact getD_set_true (I.closed j oj hoj hx e he hbd)
    · rw [hr.at_] at hoj
      simp only [Option.some.injEq] at hoj
      subst hoj
      exact getD_set_true (hr.pre e he hbd)
  · rcases (hex j).1 hx with hx | rfl
    · exact I.nowr j oj hj hoj hx hrd
    · rw [hr.at_] at hoj
      simp only [Option.some.injEq] at hoj
      subst hoj
      exact hop
  · rcases (hex j).1 hx with hx | rfl
    · obtain ⟨b2, x2, hm⟩ := I.pe j oj hj hoj hx hal
      exact ⟨b2, x2, List.mem_cons_of_mem _ hm⟩
    · exact ⟨b, x, List.mem_cons_self ..⟩
  · rw [hh]
    rcases List.mem_cons.1 hm with e | hm
    · simp only [Prod.mk.injEq] at e
      obtain ⟨rfl, rfl, rfl⟩ := e
      refine ⟨?_, (hex kk).2 (.inr rfl), fun h0 => oko (.inl h0), hnl, Nat.le_trans I.nx.size hge, hlt'⟩
      rcases Nat.lt_or_ge kk p with hlt | hge
      · exact absurd (I.done kk o hlt hr.at_ (O.text.pend kk o hr.at_ hop).1) hr.not
      · exact hge
    · obtain ⟨q1, q2, q3, q4, q5, q6⟩ := I.pdk kk b2 x2 hm
      rw [hh] at q4
      refine ⟨q1, (hex kk).2 (.inl q2), q3, fun hl => ?_, q5, Nat.lt_of_lt_of_le q6 st.nx.size⟩
      rcases nx2.news b2 hl with h1 | h1
      · omega
      · exact q4 h1
  · rcases List.mem_cons.1 hm with e | hm
    · simp only [Prod.mk.injEq] at e
      obtain ⟨rfl, rfl, rfl⟩ := e
      refine ⟨o, z, d, hr.at_, hop, hd, hzk, ?_, ?_⟩
      · rw [hd, put_self (by rw [I.tm]; exact O.text.dst kk o d hr.at_ hd)]
      · rw [hh]
        refine ⟨⟨cs, ty, fr, hc, ok.frz, okl, ?_⟩, z3, z4⟩
        exact VLW.unadopt hX (rbL_mono (Nat.zero_le _) z3) okv
    · obtain ⟨o2, t2, d2, q1, q2, q3, qz, q4, q5⟩ := I.pdo kk b2 x2 hm
      rw [hh] at q5
      have hne : o.dst ≠ some d2 := fun e => by
        obtain ⟨_, _, t', ht', hu, _⟩ := O.text.pend kk o2 q1 q2
        rw [q3] at ht'
        simp only [Option.some.injEq] at ht'
        subst ht'
        have := hu k o hr.at_ e
        exact hr.not (this ▸ (I.pdk kk b2 x2 hm).2.1)
      refine ⟨o2, t2, d2, q1, q2, q3, qz, by rw [put_getD hne]; exact q4, ?_⟩
      rw [hh]
      obtain ⟨cs2, ty2, fr2, c1, c2, c3, c4⟩ := q5.cells
      have hXb : XP R.X0 pd b2 := .inr ⟨kk, x2, hm⟩
      exact ⟨⟨cs2, ty2, fr2, (st.nx.keepX b2 (I.pdk kk b2 x2 hm).2.2.2.2.2 hXb).trans c1, c2, c3, mvL (rbL_mono (Nat.zero_le _) q5.free) c4⟩, q5.free, q5.flat⟩
  · rcases List.mem_cons.1 h1 with e1 | h1 <;> rcases List.mem_cons.1 h2 with e2 | h2
    · simp only [Prod.mk.injEq] at e1 e2
      rw [e1.1, e2.1]
    · simp only [Prod.mk.injEq] at e1
      have := (I.pdk k2 b2 x2 h2).2.2.2.2.2
      rw [e1.2.1] at this
      omega
    · simp only [Prod.mk.injEq] at e2
      have := (I.pdk k1 b2 x1 h1).2.2.2.2.2
      rw [e2.2.1] at this
      omega
    · exact I.inj k1 k2 b2 x1 x2 h1 h2
  · rcases List.mem_cons.1 h1 with e1 | h1 <;> rcases List.mem_cons.1 h2 with e2 | h2
    · simp only [Prod.mk.injEq] at e1 e2
      exact ⟨by rw [e1.2.1, e2.2.1], by rw [e1.2.2, e2.2.2]⟩
    · simp only [Prod.mk.injEq] at e1
      rw [e1.1] at h2
      exact absurd h2 (hnotex _ _)
    · simp only [Prod.mk.injEq] at e2
      rw [e2.1] at h1
      exact absurd h1 (hnotex _ _)
    · exact I.fn k1 b1 b2 x1 x2 h1 h2
  · rw [hh]
    refine ⟨fun id kb hk => ?_, fun i1 j1 k1 k2 h1 h2 e => st.rel.inj i1 j1 k1 k2 (by rw [get_append_old (get_lt h1)]; exact h1) (by rw [get_append_old (get_lt h2)]; exact h2) e⟩
    have hlt := get_lt hk
    obtain ⟨cs2, ty2, fr2, hc2, ok2⟩ := st.rel.blk id kb (by rw [get_append_old hlt]; exact hk)
    obtain ⟨cs3, ty3, fr3, hc3, ok3⟩ := hrel.blk id kb hk
    refine ⟨cs2, ty2, fr2, hc2, ok2.frz, ok2.len, VLW.unadopt hX ok3.rb ok2.val, fun hx => ?_, ok3.rb, ok2.flat⟩
    rcases hx with h0 | ⟨kk, xx, hm⟩
    · exact ok2.out (.inl h0)
    · rcases List.mem_cons.1 hm with e | hm
      · simp only [Prod.mk.injEq] at e
        exact hnl ⟨id, kb, hk, e.2.1⟩
      · exact ok2.out (.inr ⟨kk, xx, hm⟩)
  · rcases hb2 with h0 | ⟨kk, xx, hm⟩
    · exact (I.low.next st.nx) b2 (.inl h0)
    · rcases List.mem_cons.1 hm with e | hm
      · simp only [Prod.mk.injEq] at e
        rw [e.2.1]
        exact hlt'
      · exact (I.low.next st.nx) b2 (.inr ⟨kk, xx, hm⟩)
  · rw [hh]
    have hg2 := I.glob
    rw [hh] at hg2
    exact (hg2.next st.nx g cs hg).less hX
  · have hn := I.nx
    rw [hh] at hn ⊢
    refine hn.over nx2 (fun b2 hb2 => ?_) (fun b2 hb2 => .inl hb2)
    rcases hb2 with h1 | ⟨kk, xx, hm⟩
    · exact .inl h1
    · exact .inr (I.pdk kk b2 xx hm).2.2.2.2.1
  · have hk := I.kp
    rw [hh] at hk ⊢
    exact hk
  · rw [hh]
    rcases hval.put O I hr hex with ⟨e1, rfl⟩ | ⟨e1, e2⟩
    · exact absurd e1 (hnp k b x o (List.mem_cons_self ..) hr.at_)
    · rw [put_getD e1]
      obtain ⟨q1, q2⟩ := I.env t2 d2 e2 fun kk b2 x2 o2 hm => hnp kk b2 x2 o2 (List.mem_cons_of_mem _ hm)
      rw [hh] at q1 q2
      exact ⟨mv q2 q1, q2⟩
end Go.Dn

namespace Go.Dn
variable {X0 : Nat → Prop} {β β' β'' : Bt} {h h' h'' : H} {w w' w'' : World} {P : Program} {A : Ann} {base n : Nat}
variable {R : Run} {p : Nat} {pd : List (Nat × Nat × Nat)} {listed : Array Bool} {a : Act}

theorem load_still {call : CallFn} {f : FuncId} {ev : Operand → Option D} {o : Oper} {d : D} {h1 : H} (ho : (match o.op with | .load .. => true | .slice .. => true | _ => false) = true) (hl : denOp A call f base ev o h = some (d, h1)) : h1 = h ∧ readOp o = true := by
  unfold denOp at hl
  cases hop : o.op <;> simp only [hop, Bool.false_eq_true] at ho hl
  · simp only [Option.bind_eq_bind, Option.bind_eq_some_iff, Option.some.injEq, Prod.mk.injEq] at hl
    obtain ⟨x1, q1, x2, q2, rfl, rfl⟩ := hl
    exact ⟨rfl, by simp [readOp, hop]⟩
  · simp only [Option.bind_eq_bind, Option.bind_eq_some_iff, Option.some.injEq, Prod.mk.injEq] at hl
    obtain ⟨x1, q1, x2, q2, x3, q3, x4, q4, x5, q5, rfl, rfl⟩ := hl
    exact ⟨rfl, by simp [readOp, hop]⟩

/-- What a reading place of the reference run says: the heap stands still; on a larger heap it reads the same. -/
theorem rd_still (O : RunOk P R) {k : Nat} {o : Oper} (hk : R.l[k]? = some o) (hr : rdAt R.A R.ps k o = true) : R.hs (k + 1) = R.hs k ∧ (pureOp R.A o = true ∨ readOp o = true) := by
  have hcl : pureOp R.A o = true ∨ readOp o = true := by
    unfold rdAt at hr
    simp only [Bool.or_eq_true, Bool.and_eq_true] at hr
    rcases hr with (h1 | h1) | h1
    · exact .inl h1
    · refine .inr ?_
      unfold readOp
      cases hop : o.op <;> simp [hop] at h1 ⊢
    · exact .inr h1.1
  refine ⟨?_, hcl⟩
  rcases O.tr.step k o hk with ⟨h1, h2, _⟩ | ⟨_, _, h3, _⟩
  · unfold rdAt at hr
    simp only [Bool.or_eq_true, Bool.and_eq_true] at hr
    rcases hr with (hp | hl) | hm
    · exact (pure_op hp h2).1
    · exact (load_still hl h2).1
    · obtain ⟨h3, h4, q1, q2, _⟩ := O.pairs k k (by simpa using hm.2) o hk h1
      rw [h2] at q1
      simp only [Option.some.injEq, Prod.mk.injEq, true_and] at q1
      subst q1
      exact (read_op hm.1 h2 q2).1
  · exact h3

theorem rd_grow (O : RunOk P R) {k : Nat} {o : Oper} (hk : R.l[k]? = some o) (hr : rdAt R.A R.ps k o = true) {h1 h2 : H} (hx : Ext h1 h2) (hl : denOp R.A R.call R.f R.base (evalD R.A (R.es k)) o h1 = some (R.ds k, h1)) :
    denOp R.A R.call R.f R.base (evalD R.A (R.es k)) o h2 = some (R.ds k, h2) := by
  rcases (rd_still O hk hr).2 with hp | hp
  · exact (pure_op hp hl).2 h2
  · exact (read_op hp hl rfl).2 h2 hx

/-- A reading place reads the same wherever it may come to stand. -/
theorem rd_any (O : RunOk P R) (I : RInv R p β pd listed a w) {k : Nat} {o : Oper} (hr : Rdy R listed k o) (hrd : rdAt R.A R.ps k o = true) (hw : wantD R.ops (R.es k) o = true)
    (hstop : p = R.l.length ∨ ∃ op, R.l[p]? = some op ∧ rdAt R.A R.ps p op = false ∧ ¬ Ex' R.ord listed p) : denOp R.A R.call R.f R.base (evalD R.A (R.es k)) o (R.hs p) = some (R.ds k, R.hs p) := by
  have hst := rd_still O hr.at_ hrd
  have hk : k < R.l.length := (List.getElem?_eq_some_iff.1 hr.at_).1
  have hself : denOp R.A R.call R.f R.base (evalD R.A (R.es k)) o (R.hs k) = some (R.ds k, R.hs k) := by
    rcases O.tr.step k o hr.at_ with ⟨_, h2, _⟩ | ⟨h1, _⟩
    · rw [hst.1] at h2; exact h2
    · rw [hw] at h1; cases h1
  have hpure : pureOp R.A o = true → ∀ h2, denOp R.A R.call R.f R.base (evalD R.A (R.es k)) o h2 = some (R.ds k, h2) := fun hp h2 => (pure_op hp hself).2 h2
  have hpair : ∀ q, (k, q) ∈ R.ps → denOp R.A R.call R.f R.base (evalD R.A (R.es k)) o (R.hs q) = some (R.ds k, R.hs q) := fun q hq => by
    obtain ⟨h3, h4, _, _, q3, q4⟩ := O.pairs k q hq o hr.at_ hw
    rcases hst.2 with hp | hp
    · exact hpure hp _
    · have := (read_op hp q3 q4).1
      rw [this] at q3
      exact q3
  rcases Nat.lt_or_ge p k with hlt | hge
  · rcases hstop with e | ⟨op, h1, h2, h3⟩
    · omega
    · rcases O.text.before k o p op hr.at_ h1 hlt hrd h2 with hf | hp | hq
      · exact absurd (hr.before I hf) h3
      · exact hpure hp _
      · exact hpair p hq
  · have key : ∀ j, k + j ≤ p → denOp R.A R.call R.f R.base (evalD R.A (R.es k)) o (R.hs (k + j)) = some (R.ds k, R.hs (k + j)) := by
      intro j
      induction j with
      | zero => exact fun _ => hself
      | succ j ih =>
        intro hmp
        have ih := ih (by omega)
        rw [← Nat.add_assoc]
        have hkm : k ≤ k + j := Nat.le_add_right ..
        have hmp : k + j + 1 ≤ p := hmp
        generalize k + j = m at *
        have hmn : m < R.l.length := by have := I.ple; omega
        obtain ⟨om, hom⟩ : ∃ om, R.l[m]? = some om := ⟨R.l[m], List.getElem?_eq_getElem hmn⟩
        cases hrm : rdAt R.A R.ps m om with
        | true => rw [(rd_still O hom hrm).1]; exact ih
        | false =>
          cases hal : isAlloc R.A R.f om with
          | true =>
            obtain ⟨_, _, _, e, _⟩ := trace_alloc O hom hal
            rw [e]
            exact rd_grow O hr.at_ hrd (fun id kb hkb => by rw [get_append_old (get_lt hkb)]; exact hkb) ih
          | false =>
            have hne : m ≠ k := fun e => by
              subst e
              rw [hr.at_] at hom
              simp only [Option.some.injEq] at hom
              subst hom
              rw [hrd] at hrm
              cases hrm
            rcases O.text.later k o m om hr.at_ hom (by omega) hrd hrm hal with hf | hp | hq
            · exact absurd (I.before hf (I.done m om (by omega) hom hrm)) hr.not
            · exact hpure hp _
            · exact hpair _ hq
    have := key (p - k) (by omega)
    rwa [show k + (p - k) = p by omega] at this

/-- Past a place that reads. -/
theorem RInv.adv_rd (O : RunOk P R) (I : RInv R p β pd listed a w) {o : Oper} (ho : R.l[p]? = some o) (hr : rdAt R.A R.ps p o = true) : RInv R (p + 1) β pd listed a w := by
  have hp : p < R.l.length := (List.getElem?_eq_some_iff.1 ho).1
  have e := (rd_still O ho hr).1
  have hne : ∀ k b x, (k, b, x) ∈ pd → k ≠ p := fun k b x hm e => by
    subst e
    obtain ⟨o2, t2, d2, q1, q2, _⟩ := I.pdo k b x hm
    rw [ho] at q1
    simp only [Option.some.injEq] at q1
    subst q1
    rw [(O.text.pend k o ho q2).1] at hr
    cases hr
  exact { closed := I.closed, size := I.size, ple := hp, done := fun k ok hk hok hrk => by
            by_cases ek : k = p
            · subst ek
              rw [ho] at hok
              simp only [Option.some.injEq] at hok
              subst hok
              rw [hr] at hrk
              cases hrk
            · exact I.done k ok (by omega) hok hrk,
          nowr := fun k ok hk => I.nowr k ok (by omega), pe := fun k ok hk => I.pe k ok (by omega),
          pdk := fun k b x hm => by
            have := I.pdk k b x hm
            have := hne k b x hm
            rw [e]
            exact ⟨by omega, (I.pdk k b x hm).2⟩,
          pdo := fun k b x hm => by rw [e]; exact I.pdo k b x hm,
          inj := I.inj, fn := I.fn, rel := by rw [e]; exact I.rel, low := I.low, glob := by rw [e]; exact I.glob, nx := by rw [e]; exact I.nx, kp := by rw [e]; exact I.kp, tm := I.tm, df := I.df,
          env := fun t d hv hn => by rw [e]; exact I.env t d hv hn }

/-- Past a place whose memory was made before its turn. -/
theorem RInv.adv_alloc (O : RunOk P R) (I : RInv R p β pd listed a w) {o : Oper} (ho : R.l[p]? = some o) (hal : isAlloc R.A R.f o = true) (hex : Ex' R.ord listed p) : ∃ β' pd', RInv R (p + 1) β' pd' listed a w := by
  have hp : p < R.l.length := (List.getElem?_eq_some_iff.1 ho).1
  obtain ⟨b, x, hm⟩ := I.pe p o (Nat.le_refl _) ho hex hal
  obtain ⟨o1, z, d, q1, q2, q3, zh, q4, q5⟩ := I.pdo p b x hm
  rw [ho] at q1
  simp only [Option.some.injEq] at q1
  subst q1
  obtain ⟨_, _, zd, _⟩ := trace_alloc O ho q2
  obtain ⟨c1, c2, c3, c4, c5, c6⟩ := I.pdk p b x hm
  obtain ⟨_, _, d', hd', hu, _⟩ := O.text.pend p o ho hal
  rw [q3] at hd'
  simp only [Option.some.injEq] at hd'
  subst hd'
  obtain ⟨cs, ty, fr, k1, k2, k3, k4⟩ := q5.cells
  have q5f := q5.free
  have q5l := q5.flat
  have hrel := I.rel
  have hnx := I.nx
  have hkp := I.kp
  have hgl := I.glob
  have henv := I.env
  generalize hh : R.hs p = h at *
  have hgn : H.get (h ++ [some ⟨0, z⟩]) h.length = some ⟨0, z⟩ := get_append_new _ _
  let β' : Bt := fun i => if i = h.length then (b, x) else β i
  have hβn : β' h.length = (b, x) := by simp [β']
  have hβo : ∀ i, i < h.length → β' i = β i := fun i hi => by simp [β', Nat.ne_of_lt hi]
  let pd' := pd.filter fun y => y.1 != p
  have hpd : ∀ k b2 x2, (k, b2, x2) ∈ pd' ↔ (k, b2, x2) ∈ pd ∧ k ≠ p := fun k b2 x2 => by simp [pd']
  have hXP : ∀ b2, XP R.X0 pd' b2 → XP R.X0 pd b2 := fun b2 h2 => h2.imp id fun ⟨k, x2, h3⟩ => ⟨k, x2, ((hpd k b2 x2).1 h3).1⟩
  have hnX : ¬ XP R.X0 pd' b := fun h2 => by
    rcases h2 with h0 | ⟨k, x2, h3⟩
    · exact c3 h0
    · obtain ⟨h4, h5⟩ := (hpd k b x2).1 h3
      exact h5 (I.inj k p b x2 x h4 hm)
  have hX : ∀ b2, XX (XP R.X0 pd') β' (h ++ [some ⟨0, z⟩]) b2 → XX (XP R.X0 pd) β h b2 := fun b2 h2 => by
    rcases h2 with h0 | ⟨id, kb, hk, e⟩
    · exact .inl (hXP b2 h0)
    · rcases get_append hk with ⟨h1, h2⟩ | ⟨rfl, _⟩
      · rw [hβo id h1] at e
        exact .inr ⟨id, kb, h2, e⟩
      · rw [hβn] at e
        simp only at e
        subst e
        exact .inl (.inr ⟨p, x, hm⟩)
  have hrp : ∀ id ver off a, id < h.length → (rho w β h).p id ver off a → (rho w β' (h ++ [some ⟨0, z⟩])).p id ver off a := fun id ver off a hi hp => by
    refine ⟨fun k' hk => hp.1 k' (by rw [get_append_old hi] at hk; exact hk), ?_⟩
    rintro ⟨k', hk, e⟩
    rw [get_append_old hi] at hk
    rw [hβo id hi]
    exact hp.2 ⟨k', hk, e⟩
  have hrr : ∀ id ver off len cap sz clip a c, id < h.length → (rho w β h).r id ver off len cap sz clip a c → (rho w β' (h ++ [some ⟨0, z⟩])).r id ver off len cap sz clip a c := fun id ver off len cap sz clip a c hi hp => by
    refine ⟨fun k' hk => hp.1 k' (by rw [get_append_old hi] at hk; exact hk), ?_⟩
    rintro ⟨k', hk, e⟩
    rw [get_append_old hi] at hk
    rw [hβo id hi]
    exact hp.2 ⟨k', hk, e⟩
  have mv : ∀ {d : D} {v : Value}, rb h.length d = true → VW (XP R.X0 pd) β h w d v → VW (XP R.X0 pd') β' (h ++ [some ⟨0, z⟩]) w d v := fun hb hv =>
    V.mono (m := h.length) (fun _ _ h1 h2 => ⟨h1, fun hx => h2 (hX _ hx)⟩) hrp hrr hb hv
  have mvL : ∀ {d : List D} {v : List Value}, rbL h.length d = true → VLW (XP R.X0 pd) β h w d v → VLW (XP R.X0 pd') β' (h ++ [some ⟨0, z⟩]) w d v := fun hb hv =>
    VL.mono (m := h.length) (fun _ _ h1 h2 => ⟨h1, fun hx => h2 (hX _ hx)⟩) hrp hrr hb hv
  refine ⟨β', pd', { closed := I.closed, size := I.size, ple := hp, done := fun k ok hk hok hrk => ?_, nowr := fun k ok hk => I.nowr k ok (by omega), pe := fun k ok hk hok hx hak => ?_, pdk := fun k b2 x2 h2 => ?_, pdo := fun k b2 x2 h2 => ?_, inj := fun k1 k2 b2 x1 x2 h1 h2 => I.inj k1 k2 b2 x1 x2 ((hpd _ _ _).1 h1).1 ((hpd _ _ _).1 h2).1, fn := fun k1 b1 b2 x1 x2 h1 h2 => I.fn k1 b1 b2 x1 x2 ((hpd _ _ _).1 h1).1 ((hpd _ _ _).1 h2).1, rel := ?_, low := fun b2 hb2 => I.low b2 (hXP b2 hb2), glob := fun g cs hg => ?_, nx := ?_, kp := ?_, tm := I.tm, df := I.df, env := fun t2 d2 hval hnp => ?_ }⟩
  · by_cases ek : k = p
    · subst ek; exact hex
    · exact I.done k ok (by omega) hok hrk
  · obtain ⟨b2, x2, h2⟩ := I.pe k ok (by omega) hok hx hak
    exact ⟨b2, x2, (hpd _ _ _).2 ⟨h2, by omega⟩⟩
  · rw [zh]
    obtain ⟨h3, h4⟩ := (hpd _ _ _).1 h2
    obtain ⟨r1, r2, r3, r4, r5, r6⟩ := I.pdk k b2 x2 h3
    refine ⟨by omega, r2, r3, fun hl => ?_, r5, r6⟩
    obtain ⟨id, kb, hk, e⟩ := hl
    rcases get_append hk with ⟨h1, h2⟩ | ⟨rfl, _⟩
    · rw [hβo id h1] at e
      rw [hh] at r4
      exact r4 ⟨id, kb, h2, e⟩
    · rw [hβn] at e
      simp only at e
      subst e
      exact h4 (I.inj k p b x2 x h3 hm)
  · rw [zh]
    obtain ⟨h3, h4⟩ := (hpd _ _ _).1 h2
    obtain ⟨o2, t2, d2, r1, r2, r3, rz, r4, r5⟩ := I.pdo k b2 x2 h3
    rw [hh] at r5
    obtain ⟨cs2, ty2, fr2, e1, e2, e3, e4⟩ := r5.cells
    exact ⟨o2, t2, d2, r1, r2, r3, rz, r4, ⟨⟨cs2, ty2, fr2, e1, e2, e3, mvL (rbL_mono (Nat.zero_le _) r5.free) e4⟩, r5.free, r5.flat⟩⟩
  · rw [zh]
    refine ⟨fun id kb hk => ?_, fun i1 j1 k1' k2' h1 h2 e => ?_⟩
    · rcases get_append hk with ⟨h1, h2⟩ | ⟨rfl, rfl⟩
      · obtain ⟨cs2, ty2, fr2, hc2, ok2⟩ := hrel.blk id kb h2
        rw [← hβo id h1] at hc2
        refine ⟨cs2, ty2, fr2, hc2, ok2.frz, by rw [hβo id h1]; exact ok2.len, by rw [hβo id h1]; exact mvL ok2.rb ok2.val, fun hx => ok2.out (hXP _ (by rw [hβo id h1] at hx; exact hx)), rbL_mono (by simp) ok2.rb, ok2.flat⟩
      · rw [hβn]
        exact ⟨cs, ty, fr, k1, k2, by rw [hβn]; exact k3, by rw [hβn]; exact mvL (rbL_mono (Nat.zero_le _) q5f) k4, by rw [hβn]; exact hnX, rbL_mono (Nat.zero_le _) q5f, q5l⟩
    · rcases get_append h1 with ⟨a1, a2⟩ | ⟨rfl, _⟩ <;> rcases get_append h2 with ⟨b1, b2⟩ | ⟨rfl, _⟩
      · rw [hβo _ a1, hβo _ b1] at e
        exact hrel.inj _ _ _ _ a2 b2 e
      · rw [hβo _ a1, hβn] at e
        exact absurd ⟨_, _, a2, e⟩ c4
      · rw [hβo _ b1, hβn] at e
        exact absurd ⟨_, _, b2, e.symm⟩ c4
      · rfl
  · rw [zh]
    exact (hgl g cs hg).less hX
  · rw [zh]
    refine ⟨hnx.size, hnx.os, hnx.tape, hnx.output, hnx.keepX, hnx.keep, by have := hnx.len; simp; omega, fun id k' hi hk => ?_, fun b2 hb2 => ?_⟩
    · have hlt : id < h.length := Nat.lt_of_lt_of_le hi hnx.len
      rw [get_append_old hlt] at hk
      rw [hβo id hlt]
      exact hnx.ids id k' hi hk
    · obtain ⟨id, kb, hk, e⟩ := hb2
      rcases get_append hk with ⟨h1, h2⟩ | ⟨rfl, _⟩
      · rw [hβo id h1] at e
        exact hnx.news b2 ⟨id, kb, h2, e⟩
      · rw [hβn] at e
        simp only at e
        subst e
        exact .inl c5
  · rw [zh]
    refine hkp.trans fun m hm2 hinv id k' hid hk => hinv id k' hid ?_
    have hlt : id < h.length := Nat.lt_of_lt_of_le (Nat.lt_of_lt_of_le hid hm2) (Nat.le_trans O.base hnx.len)
    rwa [get_append_old hlt] at hk
  · rw [zh]
    by_cases hdt : d = t2
    · subst hdt
      have hd2 : d2 = R.ds p := by
        rcases hval with ⟨k, ok, g1, g2, g3, g4, _⟩ | ⟨g1, _⟩
        · have := hu k ok g1 g3
          rw [g4, this]
        · exact absurd q3 (g1 p o ho hex)
      subst hd2
      rw [zd, q4]
      refine ⟨?_, by simp [rb]⟩
      simp only [VW, V]
      refine ⟨_, rfl, fun k hk => Nat.zero_le _, fun _ => ?_⟩
      rw [hβn]
      rfl
    · obtain ⟨g1, g2⟩ := henv t2 d2 hval fun k b2 x2 ok hm2 hok => by
        by_cases ek : k = p
        · subst ek
          rw [ho] at hok
          simp only [Option.some.injEq] at hok
          subst hok
          rw [q3]
          simpa using hdt
        · exact hnp k b2 x2 ok ((hpd _ _ _).2 ⟨hm2, ek⟩) hok
      exact ⟨mv g2 g1, rb_mono (by simp) g2⟩

/-- As far as may be. -/
theorem RInv.max (O : RunOk P R) : ∀ (m : Nat) {p : Nat} {β : Bt} {pd : List (Nat × Nat × Nat)}, R.l.length - p = m → RInv R p β pd listed a w →
    ∃ p' β' pd', RInv R p' β' pd' listed a w ∧ (p' = R.l.length ∨ ∃ op, R.l[p']? = some op ∧ rdAt R.A R.ps p' op = false ∧ ¬ Ex' R.ord listed p')
  | 0, p, β, pd, hm, I => ⟨p, β, pd, I, .inl (by have := I.ple; omega)⟩
  | m + 1, p, β, pd, hm, I => by
    have hp : p < R.l.length := by omega
    obtain ⟨o, ho⟩ : ∃ o, R.l[p]? = some o := ⟨R.l[p], List.getElem?_eq_getElem hp⟩
    cases hr : rdAt R.A R.ps p o with
    | true => exact RInv.max O m (by omega) (I.adv_rd O ho hr)
    | false =>
      by_cases hx : Ex' R.ord listed p
      · obtain ⟨β', pd', I'⟩ := I.adv_alloc O ho (I.nowr p o (Nat.le_refl _) ho hx hr) hx
        exact RInv.max O m (by omega) I'
      · exact ⟨p, β, pd, I, .inr ⟨o, ho, hr, hx⟩⟩

/-- One operation, in whatever order. -/
theorem RInv.step (O : RunOk P R) (I : RInv R p β pd listed a w) {k i : Nat} {o : Oper} (hi : R.ord[k]? = some i) (ho : R.ops[i]? = some o) (hr : Rdy R listed k o) {K : Act → World → Prop} {Q : Exit → Act → World → Prop}
    (hK : ∀ p' β' pd' a' w', RInv R p' β' pd' (listed.setIfInBounds i true) a' w' → K a' w') : wpOp P R.ops Q i K a w := by
  obtain ⟨p', β', pd', I', hstop⟩ := RInv.max O _ rfl I
  have hk : k < R.l.length := (List.getElem?_eq_some_iff.1 hr.at_).1
  unfold wpOp
  simp only [ho]
  cases hal : isAlloc R.A R.f o with
  | true =>
    obtain ⟨_, _, d, hd, _⟩ := O.text.pend k o hr.at_ hal
    obtain ⟨z, hz0, _, hzk, hw, hal2⟩ := trace_alloc O hr.at_ hal
    rw [hr.wanted O I' (fun _ h2 => by rw [hal] at h2; cases h2), hw]
    simp only [if_true]
    refine .inl (hr.run O I' (fun _ h2 => by rw [hal] at h2; cases h2) (hal2 (R.hs p')) fun v β2 w2 st hv hb => ?_)
    exact hK _ _ _ _ _ (I'.alloc O hi ho hr hal hd hz0 hzk st hv)
  | false =>
    cases hrd : rdAt R.A R.ps k o with
    | true =>
      rw [hr.wanted O I' fun h1 => by rw [hrd] at h1; cases h1]
      cases hw : wantD R.ops (R.es k) o with
      | true =>
        simp only [if_true]
        refine .inl (hr.run O I' (fun h1 => by rw [hrd] at h1; cases h1) (rd_any O I' hr hrd hw hstop) fun v β2 w2 st hv hb => ?_)
        exact hK _ _ _ _ _ (I'.exec O hi ho hr (.inl ⟨rfl, hrd⟩) st hv hb)
      | false =>
        simp only [Bool.false_eq_true, if_false]
        have hd : R.ds k = undefD := by
          rcases O.tr.step k o hr.at_ with ⟨h1, _⟩ | ⟨_, h2, _⟩
          · rw [hw] at h1; cases h1
          · exact h2
        exact hK _ _ _ _ _ (I'.exec O hi ho hr (.inl ⟨rfl, hrd⟩) (.refl I'.rel) (by rw [hd]; exact undef_ok) (by rw [hd]; exact undef_rb _))
    | false =>
      have hpk : p' = k := by
        have h1 : ¬ k < p' := fun h1 => hr.not (I'.done k o h1 hr.at_ hrd)
        rcases hstop with e | ⟨op, g1, g2, g3⟩
        · omega
        · rcases Nat.lt_or_ge p' k with hlt | hge
          · exact absurd (hr.before I' (O.text.wr p' k op o hlt g1 hr.at_ g2 hrd hal)) g3
          · omega
      subst hpk
      rw [hr.wanted O I' fun _ _ => Nat.le_refl _]
      rcases O.tr.step p' o hr.at_ with ⟨hw, hden, _⟩ | ⟨hw, hd, hh, _⟩
      · rw [hw]
        simp only [if_true]
        refine .inl (hr.run O I' (fun _ _ => Nat.le_refl _) hden fun v β2 w2 st hv hb => ?_)
        exact hK _ _ _ _ _ (I'.exec O hi ho hr (.inr ⟨rfl, rfl, hal⟩) st hv hb)
      · rw [hw]
        simp only [Bool.false_eq_true, if_false]
        refine hK _ _ _ _ _ (I'.exec (p2 := p' + 1) (β' := β') O hi ho hr (.inr ⟨rfl, rfl, hal⟩) ?_ ?_ ?_)
        · rw [hh]; exact .refl I'.rel
        · rw [hd]; exact undef_ok
        · rw [hd]; exact undef_rb _
end Go.Dn

namespace Go.Dn
variable {X0 : Nat → Prop} {β β' β'' : Bt} {h h' h'' : H} {w w' w'' : World} {P : Program} {A : Ann} {base n : Nat}
variable {R : Run} {p : Nat} {pd : List (Nat × Nat × Nat)} {listed : Array Bool} {a : Act}

theorem XP_nil (X0 : Nat → Prop) : XP X0 [] = X0 := by funext b; simp [XP]

theorem countP_lt {α : Type} {p q : α → Bool} : ∀ {l : List α}, (∀ x ∈ l, q x = true → p x = true) → (∃ x ∈ l, p x = true ∧ q x = false) → l.countP q < l.countP p
  | [], _, ⟨x, hx, _⟩ => by cases hx
  | y :: l, h1, ⟨x, hx, h2, h3⟩ => by
    have hle : l.countP q ≤ l.countP p := List.countP_mono_left fun z hz => h1 z (List.mem_cons_of_mem _ hz)
    rcases List.mem_cons.1 hx with e | hx
    · subst e
      rw [List.countP_cons_of_pos h2, List.countP_cons_of_neg (by simp [h3])]
      omega
    · have ih := countP_lt (fun z hz => h1 z (List.mem_cons_of_mem _ hz)) ⟨x, hx, h2, h3⟩
      by_cases hq : q y = true
      · rw [List.countP_cons_of_pos hq, List.countP_cons_of_pos (h1 y (by simp) hq)]
        omega
      · rw [List.countP_cons_of_neg hq]
        have := List.countP_le_length (p := p) (l := l)
        by_cases hp : p y = true
        · rw [List.countP_cons_of_pos hp]; omega
        · rw [List.countP_cons_of_neg hp]; omega

def unl (ops : Array Oper) (listed : Array Bool) : Nat := (List.range ops.size).countP fun i => !listed.getD i false

theorem rdy_of (O : RunOk P R) (I : RInv R p β pd listed a w) {i : Nat} (hi : i ∈ Region.ready .any R.ops listed) : ∃ k o, R.ord[k]? = some i ∧ R.ops[i]? = some o ∧ Rdy R listed k o ∧ listed.getD i false = false := by
  obtain ⟨h0, o, ho, hall⟩ := mem_ready.1 hi
  obtain ⟨k, hk⟩ := O.text.all i o ho
  obtain ⟨o', h1, h2⟩ := O.text.at_ k i hk
  rw [ho] at h2
  simp only [Option.some.injEq] at h2
  subst h2
  have hlt : i < listed.size := by rw [I.size]; exact (Array.getElem?_eq_some_iff.1 ho).1
  have hf : listed.getD i false = false := by simpa [hlt] using h0
  refine ⟨k, o, hk, ho, ⟨h1, ?_, hall⟩, hf⟩
  rintro ⟨j, h3, h4⟩
  rw [hk] at h3
  simp only [Option.some.injEq] at h3
  subst h3
  rw [hf] at h4
  cases h4

theorem all_done (O : RunOk P R) (I : RInv R p β pd listed a w) (hn : Region.ready .any R.ops listed = []) : ∀ k, k < R.l.length → Ex' R.ord listed k := by
  intro k
  induction k using Nat.strongRecOn with
  | _ k ih =>
    intro hk
    have hk' : k < R.ord.length := by rw [← O.text.len]; exact hk
    obtain ⟨i, hi⟩ : ∃ i, R.ord[k]? = some i := ⟨R.ord[k], List.getElem?_eq_getElem hk'⟩
    obtain ⟨o, h1, h2⟩ := O.text.at_ k i hi
    have hlt : i < listed.size := by rw [I.size]; exact (Array.getElem?_eq_some_iff.1 h2).1
    refine ⟨i, hi, ?_⟩
    cases hc : listed.getD i false with
    | true => rfl
    | false =>
      have : i ∈ Region.ready .any R.ops listed := by
        refine mem_ready.2 ⟨by simpa [hlt] using hc, o, h2, fun e he hb => ?_⟩
        obtain ⟨j, hj, hoj⟩ := O.text.topo k o h1 e he hb
        obtain ⟨i2, h3, h4⟩ := ih j hj (by omega)
        rw [hoj] at h3
        simp only [Option.some.injEq] at h3
        rw [h3]
        exact h4
      rw [hn] at this
      cases this

theorem RInv.fin (O : RunOk P R) (I : RInv R p β pd listed a w) (hn : Region.ready .any R.ops listed = []) (hout : ∀ t, R.ntm ≤ t → (R.es R.l.length).get t = undefD) :
    ∃ β', Step R.X0 R.base R.β0 R.h0 R.w0 β' (R.hs R.l.length) w ∧ EnvOk R.ntm R.X0 β' (R.hs R.l.length) w (R.es R.l.length) a := by
  have hall := all_done O I hn
  obtain ⟨p', β', pd', I', hstop⟩ := RInv.max O _ rfl I
  have hp : p' = R.l.length := by
    rcases hstop with e | ⟨op, h1, _, h3⟩
    · exact e
    · exact absurd (hall p' (List.getElem?_eq_some_iff.1 h1).1) h3
  subst hp
  have hpd : pd' = [] := by
    cases hpd : pd' with
    | nil => rfl
    | cons y r =>
      obtain ⟨k, b, x⟩ := y
      have hm : (k, b, x) ∈ pd' := by rw [hpd]; exact List.mem_cons_self ..
      obtain ⟨o2, t2, d2, q1, _⟩ := I'.pdo k b x hm
      have := (I'.pdk k b x hm).1
      have := (List.getElem?_eq_some_iff.1 q1).1
      omega
  subst hpd
  have hrel := I'.rel
  have henv := I'.env
  rw [XP_nil] at hrel henv
  refine ⟨β', ⟨hrel, I'.nx, I'.kp⟩, I'.tm, I'.df, fun t => ?_, hout⟩
  refine henv t _ ?_ (fun k b x o hm => by cases hm)
  have := trace_get O.tr t R.l.length (Nat.le_refl _)
  rcases this with ⟨k, o, h1, h2, h3, h4, h5⟩ | ⟨h1, h2⟩
  · exact .inl ⟨k, o, h1, hall k h2, h3, h4, fun j oj hj hoj _ => h5 j oj hj hoj (List.getElem?_eq_some_iff.1 hoj).1⟩
  · exact .inr ⟨fun k o hk _ => h1 k o hk (List.getElem?_eq_some_iff.1 hk).1, h2⟩

theorem any_ok (O : RunOk P R) (hout : ∀ t, R.ntm ≤ t → (R.es R.l.length).get t = undefD) {Q : Exit → Act → World → Prop}
    (hQ : ∀ β' a w, Step R.X0 R.base R.β0 R.h0 R.w0 β' (R.hs R.l.length) w → EnvOk R.ntm R.X0 β' (R.hs R.l.length) w (R.es R.l.length) a → Q .normal a w) :
    ∀ (fuel : Nat) {p : Nat} {β : Bt} {pd : List (Nat × Nat × Nat)} {listed : Array Bool} {a : Act} {w : World}, RInv R p β pd listed a w → unl R.ops listed ≤ fuel → wpAny P .any R.ops Q fuel listed a w
  | 0, p, β, pd, listed, a, w, I, hu => by
    have hn : Region.ready .any R.ops listed = [] := by
      rw [List.eq_nil_iff_forall_not_mem]
      intro i hi
      obtain ⟨k, o, _, ho, _, hf⟩ := rdy_of O I hi
      have h0 : unl R.ops listed = 0 := by omega
      have := (List.countP_eq_zero.1 h0) i (List.mem_range.2 (Array.getElem?_eq_some_iff.1 ho).1)
      simp [hf] at this
    obtain ⟨β', h1, h2⟩ := I.fin O hn hout
    exact ⟨hn, hQ β' _ _ h1 h2⟩
  | fuel + 1, p, β, pd, listed, a, w, I, hu => by
    refine ⟨fun hn => ?_, fun i hi => ?_⟩
    · obtain ⟨β', h1, h2⟩ := I.fin O hn hout
      exact hQ β' _ _ h1 h2
    · obtain ⟨k, o, hk, ho, hr, hf⟩ := rdy_of O I hi
      refine I.step O hk ho hr fun p' β' pd' a' w' I' => any_ok O hout hQ fuel I' ?_
      have hlt : i < listed.size := by rw [I.size]; exact (Array.getElem?_eq_some_iff.1 ho).1
      have : unl R.ops (listed.setIfInBounds i true) < unl R.ops listed := by
        refine countP_lt (fun j _ hj => ?_) ⟨i, List.mem_range.2 (Array.getElem?_eq_some_iff.1 ho).1, by simpa using hf, by simp [hlt]⟩
        simp only [Bool.not_eq_true'] at hj ⊢
        cases hc : listed.getD j false with
        | false => rfl
        | true => rw [getD_set_true hc] at hj; cases hj
      omega

theorem trace_len {A : Ann} {base : Nat} {call : CallFn} {f : FuncId} {ops : Array Oper} (l : List Oper) : ∀ (e : Env) (h : H), (traceD A call f base ops l e h).length ≤ l.length + 1 := by
  induction l with
  | nil => intro e h; simp [traceD]
  | cons o l ih =>
    intro e h
    unfold traceD
    cases stepD A call f base ops o e h with
    | none => simp
    | some r =>
      obtain ⟨e1, h1⟩ := r
      have := ih e1 h1
      simp only [List.length_cons]
      omega

def ordOf (A : Ann) (f : FuncId) (id : Nat) (ops : Array Oper) : List Nat := (A.ord f id).getD (List.range ops.size)

theorem put_out {e : Env} {t : Nat} {o : Option Tmp} {d : D} (ho : o ≠ some t) : (e.put o d).get t = e.get t := by
  cases o with
  | none => rfl
  | some k => rw [Env.get_put, if_neg (fun e1 => ho (by rw [e1]))]

theorem region_ok (hm : P.follows .mixedOrders = true) (hP : ProgOk P A) {f : FuncId} {id : Nat} {ops : Array Oper} {ntm : Nat} (T : TextOk A f ntm ops (ordOf A f id ops) (regList A f id ops) (A.pairs f id)) : RegOk P A ntm f id ops := by
  intro call hC X0 base β e h a w e' h' Q hat hbase hl hQ
  have hops : opsD A call f base ops (regList A f id ops) e h = some (e', h') ∧ (A.pairs f id = [] ∨ pairsOk A call f base ops (regList A f id ops) (traceD A call f base ops (regList A f id ops) e h) (A.pairs f id) = true) := by
    unfold regionD at hl
    simp only [if_true] at hl
    split at hl
    · rename_i hp
      exact ⟨hl, .inl hp⟩
    · rename_i ps hp
      split at hl
      · rename_i hok
        exact ⟨hl, .inr hok⟩
      · cases hl
  obtain ⟨hops, hpairs⟩ := hops
  obtain ⟨es, hs, ds, ht, q1, q2, q3, q4, q5⟩ := trace_of_ops hops
  let R : Run := { A := A, call := call, f := f, base := base, ntm := ntm, ops := ops, ord := ordOf A f id ops, l := regList A f id ops, ps := A.pairs f id, es := es, hs := hs, ds := ds, X0 := X0, β0 := β, h0 := h, w0 := w }
  have O : RunOk P R := by
    refine ⟨hP, hC, T, ht, fun k p hkp o ho hw => ?_, q2, hbase⟩
    rcases hpairs with hp | hp
    · have hkp' : (k, p) ∈ A.pairs f id := hkp
      rw [hp] at hkp'
      cases hkp'
    · have h1 := List.all_eq_true.1 hp (k, p) hkp
      simp only [pairOk] at h1
      have hk : k < (regList A f id ops).length := (List.getElem?_eq_some_iff.1 ho).1
      have ho' : (regList A f id ops)[k]? = some o := ho
      rw [ho', q5 k (by omega)] at h1
      cases hpt : (traceD A call f base ops (regList A f id ops) e h)[p]? with
      | none => rw [hpt] at h1; simp at h1
      | some y =>
        have hplt := (List.getElem?_eq_some_iff.1 hpt).1
        have hple : p ≤ (regList A f id ops).length := by
          have := trace_len (A := A) (base := base) (call := call) (f := f) (ops := ops) (regList A f id ops) e h
          omega
        rw [q5 p hple] at h1
        have hw' : wantD ops (es k) o = true := hw
        simp only [hw', Bool.not_true, Bool.false_or] at h1
        rcases ht.step k o ho' with ⟨_, h2, _⟩ | ⟨h2, _⟩
        · rw [h2] at h1
          cases hd2 : denOp A call f base (evalD A (es k)) o (hs p) with
          | none => rw [hd2] at h1; simp at h1
          | some y2 =>
            obtain ⟨d2, h3⟩ := y2
            rw [hd2] at h1
            simp only [Bool.and_eq_true, beq_iff_eq] at h1
            obtain ⟨⟨g1, g2⟩, g3⟩ := h1
            have := same_eq g1
            subst this
            exact ⟨_, _, h2, g2, rfl, g3⟩
        · rw [hw'] at h2; cases h2
  have hout : ∀ t, ntm ≤ t → (es (regList A f id ops).length).get t = undefD := by
    have key : ∀ k, k ≤ (regList A f id ops).length → ∀ t, ntm ≤ t → (es k).get t = undefD := by
      intro k
      induction k with
      | zero => intro _ t htt; rw [q1]; exact hat.env.out t htt
      | succ k ih =>
        intro hk t htt
        obtain ⟨o, ho⟩ : ∃ o, (regList A f id ops)[k]? = some o := ⟨_, List.getElem?_eq_getElem hk⟩
        have hne : o.dst ≠ some t := fun e1 => by
          exact absurd (T.dst k o t ho e1) (Nat.not_lt.2 htt)
        rcases ht.step k o ho with ⟨_, _, e1⟩ | ⟨_, _, _, e1⟩ <;> rw [e1, put_out hne] <;> exact ih (by omega) t htt
    exact key _ (Nat.le_refl _)
  refine wp_region_any hm ?_
  have hst : Step X0 base β h w β h { w with drawn := w.drawn + 1 } := Step.heap hat.rel rfl rfl rfl rfl
  have hnoex : ∀ k, ¬ Ex' R.ord (Array.replicate ops.size false) k := fun k ⟨i, _, h2⟩ => by
    by_cases hi : i < ops.size <;> simp [hi] at h2
  have I0 : RInv R 0 β [] (Array.replicate ops.size false) a { w with drawn := w.drawn + 1 } := by
    refine { closed := fun k o _ hx => absurd hx (hnoex k), size := by simp [R], ple := Nat.zero_le _, done := fun k o hk => by omega, nowr := fun k o _ _ hx => absurd hx (hnoex k), pe := fun k o _ _ hx => absurd hx (hnoex k), pdk := fun k b x hmem => absurd hmem List.not_mem_nil, pdo := fun k b x hmem => absurd hmem List.not_mem_nil, inj := fun k k' b x x' hmem => absurd hmem List.not_mem_nil, fn := fun k b b' x x' hmem => absurd hmem List.not_mem_nil, rel := ?_, low := ?_, glob := ?_, nx := ?_, kp := ?_, tm := hat.env.size, df := hat.env.defers, env := fun t d hval _ => ?_ }
    · show Rel (XP X0 []) β (hs 0) _
      rw [XP_nil, q2]; exact hst.rel
    · show XLow (XP X0 []) _
      rw [XP_nil]; exact hat.low.next hst.nx
    · show GlobOk A (XP X0 []) β (hs 0) _
      rw [XP_nil, q2]; exact hat.glob.next hst.nx
    · show Nx X0 β h w β (hs 0) _
      rw [q2]; exact hst.nx
    · show Keeps base h (hs 0)
      rw [q2]; exact Keeps.refl _ _
    · show VW (XP X0 []) β (hs 0) _ d _ ∧ rb (hs 0).length d = true
      rw [XP_nil, q2]
      have hd : d = e.get t := by
        rcases hval with ⟨k, o, _, hx, _⟩ | ⟨_, h2⟩
        · exact absurd hx (hnoex k)
        · rw [h2]; show (es 0).get t = _; rw [q1]
      rw [hd]
      have := (hat.env.next hst.nx).val t
      exact this
  refine any_ok (R := R) O hout (fun β' a' w' h1 h2 => ?_) ops.size I0 ?_
  · refine hQ a' w' ⟨β', ?_, ?_⟩
    · have h1' : Step X0 base β h w β' (hs (regList A f id ops).length) w' := h1
      rwa [q4] at h1'
    · have h2' : EnvOk ntm X0 β' (hs (regList A f id ops).length) w' (es (regList A f id ops).length) a' := h2
      rwa [q4, q3] at h2'
  · show unl ops (Array.replicate ops.size false) ≤ ops.size
    unfold unl
    have := List.countP_le_length (p := fun i => !(Array.replicate ops.size false).getD i false) (l := List.range ops.size)
    simpa using this
end Go.Dn

namespace Go.Dn
variable {P : Program} {A : Ann}

def maskOf (ord ms : List Nat) (o : Oper) : Nat :=
  o.after.toList.foldl (fun m e => if Region.binds .any e then m ||| (1 <<< ord.idxOf e.on) ||| ms.getD (ord.idxOf e.on) 0 else m) 0
def masks (ord : List Nat) : List Oper → List Nat → List Nat
  | [], ms => ms
  | o :: r, ms => masks ord r (ms ++ [maskOf ord ms o])

def textOkB (A : Ann) (f : FuncId) (id ntm : Nat) (ops : Array Oper) : Bool :=
  let ord := ordOf A f id ops
  let l := regList A f id ops
  let ps := A.pairs f id
  let ms := masks ord l []
  ord.all (fun i => decide (i < ops.size)) && (List.range ops.size).all (fun i => ord.contains i) && decide ord.Nodup &&
  (List.range l.length).all fun k =>
    match l[k]? with
    | none => false
    | some o =>
      let m := ms.getD k 0
      let rk := rdAt A ps k o
      let al := isAlloc A f o
      o.after.toList.all (fun e => !(Region.binds .any e) || (ord.take k).contains e.on) &&
      (match o.dst with | some t => decide (t < ntm) | none => true) &&
      ((List.range k).all fun j =>
        match l[j]? with
        | none => false
        | some oj =>
          let bf := m.testBit j
          let rj := rdAt A ps j oj
          (bf || oj.apart ops o) && (rj || rk || al || bf) && (!rk || rj || bf || pureOp A o || ps.contains (k, j)) && (!rj || rk || al || bf || pureOp A oj || ps.contains (j, k + 1))) &&
      (!al || (!rk && o.guard.isNone && (match o.dst with
        | none => false
        | some t => (List.range l.length).all fun j =>
          match l[j]? with
          | none => true
          | some oj => (oj.dst != some t || j == k) && (!((oj.looksAt ops).contains t) || (decide (k < j) && !(rdAt A ps j oj) && !(isAlloc A f oj))))))

theorem filterMap_get {ops : Array Oper} : ∀ {ord : List Nat}, (∀ i ∈ ord, i < ops.size) → ∀ k : Nat, (ord.filterMap (ops[·]?))[k]? = (ord[k]?).bind (ops[·]?)
  | [], _, k => by simp
  | i :: r, h, k => by
    have hi : ops[i]? = some ops[i]! := by
      have := h i (by simp)
      simp [this]
    rw [List.filterMap_cons_some hi]
    cases k with
    | zero => simp [hi]
    | succ k =>
      simp only [List.getElem?_cons_succ]
      exact filterMap_get (fun j hj => h j (by simp [hj])) k
theorem regList_get {f : FuncId} {id : Nat} {ops : Array Oper} (h : ∀ i ∈ ordOf A f id ops, i < ops.size) (k : Nat) : (regList A f id ops)[k]? = ((ordOf A f id ops)[k]?).bind (ops[·]?) := by
  unfold regList ordOf at *
  cases ho : A.ord f id with
  | some ord =>
    simp only [ho, Option.getD_some] at h ⊢
    exact filterMap_get h k
  | none =>
    simp only [Option.getD_none]
    by_cases hk : k < ops.size
    · rw [List.getElem?_range hk]; simp
    · rw [List.getElem?_eq_none (by simpa using hk), List.getElem?_eq_none (by simpa using hk)]; rfl

theorem mask_fold {ord ms : List Nat} {Good : Nat → Prop} : ∀ {es : List Edge} {m0 : Nat}, (∀ j, m0.testBit j = true → Good j) → (∀ e ∈ es, Region.binds .any e = true → Good (ord.idxOf e.on) ∧ ∀ j, (ms.getD (ord.idxOf e.on) 0).testBit j = true → Good j) →
    ∀ j, (es.foldl (fun m e => if Region.binds .any e then m ||| (1 <<< ord.idxOf e.on) ||| ms.getD (ord.idxOf e.on) 0 else m) m0).testBit j = true → Good j
  | [], m0, h0, _, j, hj => h0 j hj
  | e :: es, m0, h0, h1, j, hj => by
    simp only [List.foldl_cons] at hj
    refine mask_fold (fun i hi => ?_) (fun e' he' => h1 e' (by simp [he'])) j hj
    split at hi
    · rename_i hb
      obtain ⟨g1, g2⟩ := h1 e (by simp) hb
      simp only [Nat.testBit_or, Bool.or_eq_true, Nat.one_shiftLeft, Nat.testBit_two_pow, decide_eq_true_eq] at hi
      rcases hi with (hi | hi) | hi
      · exact h0 i hi
      · exact hi ▸ g1
      · exact g2 i hi
    · exact h0 i hi

theorem masks_ok {ord : List Nat} {l : List Oper} (htopo : ∀ (k : Nat) o, l[k]? = some o → ∀ e ∈ o.after, Region.binds .any e = true → ∃ j : Nat, j < k ∧ ord[j]? = some e.on) (hidx : ∀ (j : Nat) i, ord[j]? = some i → ord.idxOf i = j) :
    ∀ (r : List Oper) (ms : List Nat), (∀ (j : Nat), r[j]? = l[ms.length + j]?) → (∀ k, k < ms.length → ∀ j, (ms.getD k 0).testBit j = true → Fb ord l j k) →
      ∀ k j, ((masks ord r ms).getD k 0).testBit j = true → Fb ord l j k
  | [], ms, _, hm, k, j, hj => by
    by_cases hk : k < ms.length
    · exact hm k hk j hj
    · simp only [masks] at hj
      rw [List.getD_eq_getElem?_getD, List.getElem?_eq_none (by omega)] at hj
      simp at hj
  | o :: r, ms, hl, hm, k, j, hj => by
    simp only [masks] at hj
    refine masks_ok htopo hidx r (ms ++ [maskOf ord ms o]) (fun i => ?_) (fun k2 hk2 j2 hj2 => ?_) k j hj
    · have := hl (i + 1)
      simp only [List.getElem?_cons_succ] at this
      rw [this, List.length_append]
      congr 1
      simp
      omega
    · by_cases hlt : k2 < ms.length
      · rw [List.getD_eq_getElem?_getD, List.getElem?_append_left hlt, ← List.getD_eq_getElem?_getD] at hj2
        exact hm k2 hlt j2 hj2
      · have e : k2 = ms.length := by simp at hk2; omega
        subst e
        have ho : l[ms.length]? = some o := by simpa using (hl 0).symm
        have hg : (ms ++ [maskOf ord ms o]).getD ms.length 0 = maskOf ord ms o := by simp [List.getD]
        rw [hg] at hj2
        refine mask_fold (Good := fun j => Fb ord l j ms.length) (m0 := 0) (fun i hi => by simp at hi) (fun e he hb => ?_) j2 hj2
        have he' : e ∈ o.after := Array.mem_toList_iff.1 he
        obtain ⟨i, hi, hoi⟩ := htopo _ o ho e he' hb
        have hix := hidx i e.on hoi
        rw [hix]
        have hedge : Fb ord l i ms.length := .edge ho he' hb hoi
        exact ⟨hedge, fun j3 hj3 => .trans (hm i hi j3 hj3) hedge⟩

theorem textOk_of {f : FuncId} {id ntm : Nat} {ops : Array Oper} (hB : textOkB A f id ntm ops = true) : TextOk A f ntm ops (ordOf A f id ops) (regList A f id ops) (A.pairs f id) := by
  unfold textOkB at hB
  simp only [Bool.and_eq_true] at hB
  obtain ⟨⟨⟨h1, h2⟩, h3⟩, h4⟩ := hB
  generalize hps : A.pairs f id = ps at *
  have hlt : ∀ i ∈ ordOf A f id ops, i < ops.size := fun i hi => by simpa using List.all_eq_true.1 h1 i hi
  have hget := regList_get hlt
  generalize hord : ordOf A f id ops = ord at *
  generalize hl : regList A f id ops = l at *
  have hnd : ord.Nodup := by simpa using h3
  have hlen : l.length = ord.length := by
    apply Nat.le_antisymm
    · rcases Nat.lt_or_ge ord.length l.length with h5 | h5
      · have := hget ord.length
        rw [List.getElem?_eq_getElem h5, List.getElem?_eq_none (Nat.le_refl _)] at this
        cases this
      · exact h5
    · rcases Nat.lt_or_ge l.length ord.length with h5 | h5
      · have := hget l.length
        rw [List.getElem?_eq_none (Nat.le_refl _), List.getElem?_eq_getElem h5] at this
        have h6 := hlt ord[l.length] (List.getElem_mem _)
        simp [h6] at this
      · exact h5
  have hat : ∀ (k i : Nat), ord[k]? = some i → ∃ o, l[k]? = some o ∧ ops[i]? = some o := fun k i hi => by
    have hm := hlt i (List.mem_of_getElem? hi)
    refine ⟨ops[i], ?_, by simp [hm]⟩
    rw [hget k, hi]
    simp [hm]
  have hk4 : ∀ (k : Nat) o, l[k]? = some o → _ := fun k o ho => by
    have h5 := List.all_eq_true.1 h4 k (List.mem_range.2 (List.getElem?_eq_some_iff.1 ho).1)
    rw [ho] at h5
    simp only [Bool.and_eq_true] at h5
    exact h5
  have htopo : ∀ (k : Nat) o, l[k]? = some o → ∀ e ∈ o.after, Region.binds .any e = true → ∃ j : Nat, j < k ∧ ord[j]? = some e.on := fun k o ho e he hb => by
    have h5 := List.all_eq_true.1 (hk4 k o ho).1.1.1 e (Array.mem_toList_iff.2 he)
    simp only [hb, Bool.not_true, Bool.false_or, List.contains_iff_mem] at h5
    obtain ⟨j, hj⟩ := List.mem_iff_getElem?.1 h5
    rw [List.getElem?_take] at hj
    split at hj
    · exact ⟨j, by assumption, hj⟩
    · cases hj
  have hidx : ∀ (j : Nat) i, ord[j]? = some i → ord.idxOf i = j := fun j i hi => by
    obtain ⟨hj, rfl⟩ := List.getElem?_eq_some_iff.1 hi
    exact hnd.idxOf_getElem j hj
  have hms : ∀ k j, ((masks ord l []).getD k 0).testBit j = true → Fb ord l j k := masks_ok htopo hidx l [] (fun j => by simp) (fun k hk => by simp at hk)
  have hjk : ∀ (j k : Nat) oj ok, j < k → l[j]? = some oj → l[k]? = some ok → _ := fun j k oj ok hlt hj hk => by
    have h5 := List.all_eq_true.1 (hk4 k ok hk).1.2 j (List.mem_range.2 hlt)
    rw [hj] at h5
    simp only [Bool.and_eq_true] at h5
    exact h5
  have hbf : ∀ {j k : Nat}, ((masks ord l []).getD k 0).testBit j = true → Fb ord l j k := fun h => hms _ _ h
  refine ⟨hat, hlen, fun i o ho => ?_, fun j k i hj hk => ?_, htopo, fun j k oj ok hlt hj hk => ?_, fun j k oj ok hlt hj hk r1 r2 r3 => ?_, fun k o hk hal => ?_, fun k o p op hk hp hlt r1 r2 => ?_, fun k o j oj hk hj hlt r1 r2 r3 => ?_, fun k o t hk hd => ?_⟩
  · have h5 := List.all_eq_true.1 h2 i (List.mem_range.2 (Array.getElem?_eq_some_iff.1 ho).1)
    simp only [List.contains_iff_mem] at h5
    exact List.mem_iff_getElem?.1 h5
  · rw [← hidx j i hj, hidx k i hk]
  · have h5 := (hjk j k oj ok hlt hj hk).1.1.1
    simp only [Bool.or_eq_true] at h5
    exact h5.imp hbf (fun h => h)
  · have h5 := (hjk j k oj ok hlt hj hk).1.1.2
    simp only [r1, r2, r3, Bool.false_or] at h5
    exact hbf h5
  · have h5 := (hk4 k o hk).2
    simp only [hal, Bool.not_true, Bool.false_or, Bool.and_eq_true, Bool.not_eq_true'] at h5
    obtain ⟨⟨g1, g2⟩, g3⟩ := h5
    cases hd : o.dst with
    | none => simp [hd] at g3
    | some t =>
      simp only [hd] at g3
      have key : ∀ (j : Nat) oj, l[j]? = some oj → _ := fun j oj hj => by
        have h6 := List.all_eq_true.1 g3 j (List.mem_range.2 (List.getElem?_eq_some_iff.1 hj).1)
        rw [hj] at h6
        simp only [Bool.and_eq_true] at h6
        exact h6
      refine ⟨g1, by simpa using g2, t, rfl, fun j oj hj hdj => ?_, fun j oj hj hla => ?_⟩
      · have := (key j oj hj).1
        simpa [hdj] using this
      · have := (key j oj hj).2
        simp only [Bool.or_eq_true, Bool.not_eq_true', Bool.and_eq_true, decide_eq_true_eq] at this
        rcases this with h7 | h7
        · have : (oj.looksAt ops).contains t = true := by simpa using hla
          rw [this] at h7; cases h7
        · exact ⟨h7.1.1, h7.1.2, h7.2⟩
  · have h5 := (hjk p k op o hlt hp hk).1.2
    simp only [r1, r2, Bool.not_true, Bool.false_or, Bool.or_eq_true] at h5
    rcases h5 with (h5 | h5) | h5
    · exact .inl (hbf h5)
    · exact .inr (.inl h5)
    · exact .inr (.inr (by simpa using h5))
  · have h5 := (hjk k j o oj hlt hk hj).2
    simp only [r1, r2, r3, Bool.not_true, Bool.false_or, Bool.or_eq_true] at h5
    rcases h5 with (h5 | h5) | h5
    · exact .inl (hbf h5)
    · exact .inr (.inl h5)
    · exact .inr (.inr (by simpa using h5))
  · have h5 := (hk4 k o hk).1.1.2
    rw [hd] at h5
    simpa using h5

/-- What is asked of code, looked at. -/
def codeOkB (A : Ann) (n : Nat) (f : FuncId) : Code → Bool
  | .region id ops draw => dstsOk n ops && (!draw || textOkB A f id n ops)
  | .seq a b => codeOkB A n f a && codeOkB A n f b
  | .cond _ a b => codeOkB A n f a && codeOkB A n f b
  | .block _ b => codeOkB A n f b
  | .loop b => codeOkB A n f b
  | _ => true

theorem codeOk_of (hm : P.follows .mixedOrders = true) (hP : ProgOk P A) {n : Nat} {f : FuncId} : ∀ {c : Code}, codeOkB A n f c = true → CodeOk P A n f c
  | .region id ops draw, h => by
    simp only [codeOkB, Bool.and_eq_true, Bool.or_eq_true, Bool.not_eq_true'] at h
    exact ⟨h.1, fun hd => region_ok hm hP (textOk_of (h.2.resolve_left (by rw [hd]; exact nofun)))⟩
  | .seq a b, h => by simp only [codeOkB, Bool.and_eq_true] at h; exact ⟨codeOk_of hm hP h.1, codeOk_of hm hP h.2⟩
  | .cond _ a b, h => by simp only [codeOkB, Bool.and_eq_true] at h; exact ⟨codeOk_of hm hP h.1, codeOk_of hm hP h.2⟩
  | .block _ b, h => codeOk_of (c := b) hm hP (by simpa only [codeOkB] using h)
  | .loop b, h => codeOk_of (c := b) hm hP (by simpa only [codeOkB] using h)
  | .skip, _ => trivial
  | .exit _, _ => trivial
  | .ret, _ => trivial
  | .label _, _ => trivial
  | .goto _, _ => trivial
  | .scope _, _ => trivial
  | .rangeFunc .., _ => trivial
  | .refuse _, _ => trivial
end Go.Dn

namespace Go.Dn
variable {A : Ann}

def Le (c c' : CallFn) : Prop := ∀ f b g args h r, c f b g args h = some r → c' f b g args h = some r

theorem denOp_mono {c c' : CallFn} (hle : Le c c') {f : FuncId} {base : Nat} {ev : Operand → Option D} {o : Oper} {h : H} {r : D × H} (hl : denOp A c f base ev o h = some r) : denOp A c' f base ev o h = some r := by
  unfold denOp at *
  cases hop : o.op <;> simp only [hop] at hl ⊢ <;> (first | exact hl | skip)
  rename_i cl
  cases hc : cl.callee with
  | builtin b => simp only [hc] at hl ⊢; exact hl
  | value x =>
    simp only [hc, Option.bind_eq_bind, Option.bind_eq_some_iff] at hl ⊢
    obtain ⟨dx, h1, hl⟩ := hl
    refine ⟨dx, h1, ?_⟩
    split at hl
    · simp only [Option.bind_eq_some_iff] at hl ⊢
      obtain ⟨ds, h2, hl⟩ := hl
      exact ⟨ds, h2, hle _ _ _ _ _ _ hl⟩
    · cases hl
  | invoke x nm =>
    simp only [hc, Option.bind_eq_bind, Option.bind_eq_some_iff] at hl ⊢
    obtain ⟨dx, h1, hl⟩ := hl
    refine ⟨dx, h1, ?_⟩
    split at hl
    · simp only [Option.bind_eq_some_iff] at hl ⊢
      obtain ⟨g, h3, ds, h2, hl⟩ := hl
      exact ⟨g, h3, ds, h2, hle _ _ _ _ _ _ hl⟩
    · cases hl

theorem stepD_mono {c c' : CallFn} (hle : Le c c') {f : FuncId} {base : Nat} {ops : Array Oper} {o : Oper} {e : Env} {h : H} {r : Env × H} (hl : stepD A c f base ops o e h = some r) : stepD A c' f base ops o e h = some r := by
  unfold stepD at *
  split
  · rename_i hw
    rw [if_pos hw] at hl
    simp only [Option.bind_eq_bind, Option.bind_eq_some_iff] at hl ⊢
    obtain ⟨d, h1, h2⟩ := hl
    exact ⟨d, denOp_mono hle h1, h2⟩
  · rename_i hw
    rw [if_neg hw] at hl
    exact hl

theorem opsD_mono {c c' : CallFn} (hle : Le c c') {f : FuncId} {base : Nat} {ops : Array Oper} : ∀ {l : List Oper} {e : Env} {h : H} {r : Env × H}, opsD A c f base ops l e h = some r → opsD A c' f base ops l e h = some r ∧ traceD A c' f base ops l e h = traceD A c f base ops l e h
  | [], e, h, r, hl => ⟨hl, rfl⟩
  | o :: l, e, h, r, hl => by
    unfold opsD at hl
    cases hs : stepD A c f base ops o e h with
    | none => simp [hs] at hl
    | some x =>
      obtain ⟨e1, h1⟩ := x
      simp only [hs] at hl
      obtain ⟨q1, q2⟩ := opsD_mono hle hl
      have hs' := stepD_mono hle hs
      unfold opsD traceD
      simp only [hs, hs', q2, and_true]
      exact q1

theorem pairOk_mono {c c' : CallFn} (hle : Le c c') {f : FuncId} {base : Nat} {ops : Array Oper} {l : List Oper} {tr : List (Env × H)} {k p : Nat} (hl : pairOk A c f base ops l tr k p = true) : pairOk A c' f base ops l tr k p = true := by
  unfold pairOk at *
  split
  · rename_i o e h x h' q1 q2 q3
    rw [q1, q2, q3] at hl
    simp only [Bool.or_eq_true] at hl ⊢
    refine hl.imp id fun hl => ?_
    split at hl
    · rename_i d h1 d' h2 e1 e2
      rw [denOp_mono hle e1, denOp_mono hle e2]
      exact hl
    · cases hl
  · rename_i hn
    split at hl
    · rename_i o e h x h' q1 q2 q3
      exact absurd q3 (by intro q; exact hn _ _ _ _ _ q1 q2 q)
    · exact hl

theorem pairsOk_mono {c c' : CallFn} (hle : Le c c') {f : FuncId} {base : Nat} {ops : Array Oper} {l : List Oper} {tr : List (Env × H)} {ps : List (Nat × Nat)} (hl : pairsOk A c f base ops l tr ps = true) : pairsOk A c' f base ops l tr ps = true :=
  List.all_eq_true.2 fun x hx => pairOk_mono hle (List.all_eq_true.1 hl x hx)

theorem regionD_mono {c c' : CallFn} (hle : Le c c') {f : FuncId} {base id : Nat} {ops : Array Oper} {draw : Bool} {e : Env} {h : H} {r : Env × H} (hl : regionD A c f base id ops draw e h = some r) : regionD A c' f base id ops draw e h = some r := by
  unfold regionD at *
  split
  · rename_i hd
    rw [if_pos hd] at hl
    split
    · rename_i hp
      rw [hp] at hl
      exact (opsD_mono hle hl).1
    · rename_i ps hp
      split at hl
      · rename_i hp2
        exact absurd hp2 hp
      · split at hl
        · rename_i hok
          obtain ⟨q1, q2⟩ := opsD_mono hle hl
          rw [q2, if_pos (pairsOk_mono hle hok)]
          exact q1
        · cases hl
  · rename_i hd
    rw [if_neg hd] at hl
    exact (opsD_mono hle hl).1

theorem iterD_mono {n : Nat} {b b' : Env → H → Option (Ex × Env × H)} (hb : ∀ e h r, b e h = some r → b' e h = some r) : ∀ {k k' : Nat} {e : Env} {h : H} {r : Ex × Env × H}, k ≤ k' → iterD n b k e h = some r → iterD n b' k' e h = some r
  | 0, _, e, h, r, _, hl => by simp [iterD] at hl
  | k + 1, 0, e, h, r, hk, hl => by omega
  | k + 1, k' + 1, e, h, r, hk, hl => by
    unfold iterD at hl ⊢
    cases h1 : b e h with
    | none => simp [h1] at hl
    | some x =>
      obtain ⟨x1, e1, h2⟩ := x
      rw [hb _ _ _ h1]
      rw [h1] at hl
      cases x1 with
      | norm => exact iterD_mono hb (by omega) hl
      | exit i => exact hl
      | ret => exact hl

theorem denC_mono {c c' : CallFn} (hle : Le c c') {f : FuncId} {base fuel fuel' : Nat} (hf : fuel ≤ fuel') : ∀ {cd : Code} {e : Env} {h : H} {r : Ex × Env × H}, denC A c f base fuel cd e h = some r → denC A c' f base fuel' cd e h = some r
  | .skip, e, h, r, hl => by simpa only [denC] using hl
  | .region id ops draw, e, h, r, hl => by
    simp only [denC] at hl ⊢
    cases h1 : regionD A c f base id ops draw e h with
    | none => simp [h1] at hl
    | some x => rw [regionD_mono hle h1]; rw [h1] at hl; exact hl
  | .seq a b, e, h, r, hl => by
    simp only [denC] at hl ⊢
    cases h1 : denC A c f base fuel a e h with
    | none => simp [h1] at hl
    | some x =>
      obtain ⟨x1, e1, h2⟩ := x
      rw [denC_mono hle hf h1]
      rw [h1] at hl
      cases x1 with
      | norm => exact denC_mono hle hf hl
      | exit i => exact hl
      | ret => exact hl
  | .cond cc a b, e, h, r, hl => by
    simp only [denC] at hl ⊢
    split at hl
    · exact denC_mono hle hf hl
    · exact denC_mono hle hf hl
    · cases hl
  | .block id b, e, h, r, hl => by
    simp only [denC] at hl ⊢
    cases h1 : denC A c f base fuel b e h with
    | none => simp [h1] at hl
    | some x => rw [denC_mono hle hf h1]; rw [h1] at hl; exact hl
  | .loop b, e, h, r, hl => by
    simp only [denC] at hl ⊢
    exact iterD_mono (fun e h r h1 => denC_mono hle hf h1) hf hl
  | .exit id, e, h, r, hl => by simpa only [denC] using hl
  | .ret, e, h, r, hl => by simpa only [denC] using hl
  | .label _, e, h, r, hl => by simp [denC] at hl
  | .goto _, e, h, r, hl => by simp [denC] at hl
  | .scope _, e, h, r, hl => by simp [denC] at hl
  | .rangeFunc .., e, h, r, hl => by simp [denC] at hl
  | .refuse _, e, h, r, hl => by simp [denC] at hl

theorem bodyD_mono {F : FuncId → Option Func} {c c' : CallFn} (hle : Le c c') {fuel fuel' : Nat} (hf : fuel ≤ fuel') {g base : Nat} {args : List D} {h : H} {r : D × H} (hl : bodyD A F c fuel g base args h = some r) : bodyD A F c' fuel' g base args h = some r := by
  unfold bodyD at *
  cases h1 : F g with
  | none => simp [h1] at hl
  | some fn =>
    cases h2 : fn.body with
    | none => simp [h1, h2] at hl
    | some cd =>
      simp only [h1, h2] at hl ⊢
      split at hl
      · cases hl
      · rename_i hn
        rw [if_neg hn]
        cases h3 : denC A c g base fuel cd (Env.init 0 args) h with
        | none => simp [h3] at hl
        | some x => rw [denC_mono hle hf h3]; rw [h3] at hl; exact hl

/-- One call, over what the calls inside it say. -/
def callD (A : Ann) (F : FuncId → Option Func) (c : CallFn) (n : Nat) : CallFn := fun f base g args h =>
  match A.mode f g with
  | .auto =>
    if rbL 0 args then (do
      let (r, h') ← bodyD A F c n g 0 args []
      let r' ← frz 10 h' 0 r
      if rb 0 r' then some (r', h) else none)
    else (do
      let (r, h') ← bodyD A F c n g h.length args h
      let r' ← frz 10 h' h.length r
      if rb h.length r' then some (r', h'.take h.length) else none)
  | .lent => do
    let as' ← args.mapM (frz 10 h 0)
    if rbL 0 as' then (do
      let (r, _) ← bodyD A F c n g 0 as' []
      if isScalar r then some (r, h) else none)
    else none
  | .scopd => do
    let (r, h') ← bodyD A F c n g h.length args h
    let r' ← frz 10 h' h.length r
    if rb h.length r' then some (r', h'.take h.length) else none
  | .grow => bodyD A F c n g base args h
theorem denF_eq (F : FuncId → Option Func) (n : Nat) : denF A F (n + 1) = callD A F (denF A F n) n := rfl

theorem callD_mono {F : FuncId → Option Func} {c c' : CallFn} (hle : Le c c') {n n' : Nat} (hn : n ≤ n') : Le (callD A F c n) (callD A F c' n') := fun f b g args h r hl => by
  have hb : ∀ {g base args h r}, bodyD A F c n g base args h = some r → bodyD A F c' n' g base args h = some r := fun hl => bodyD_mono hle hn hl
  unfold callD at hl ⊢
  cases hm : A.mode f g with
  | auto =>
    simp only [hm] at hl ⊢
    split at hl
    · rename_i h0
      rw [if_pos h0]
      simp only [Option.bind_eq_bind, Option.bind_eq_some_iff] at hl ⊢
      obtain ⟨x, h1, hl⟩ := hl
      exact ⟨x, hb h1, hl⟩
    · rename_i h0
      rw [if_neg h0]
      simp only [Option.bind_eq_bind, Option.bind_eq_some_iff] at hl ⊢
      obtain ⟨x, h1, hl⟩ := hl
      exact ⟨x, hb h1, hl⟩
  | lent =>
    simp only [hm] at hl ⊢
    simp only [Option.bind_eq_bind, Option.bind_eq_some_iff] at hl ⊢
    obtain ⟨as', h0, hl⟩ := hl
    refine ⟨as', h0, ?_⟩
    split at hl
    · rename_i h0
      rw [if_pos h0]
      simp only [Option.bind_eq_some_iff] at hl ⊢
      obtain ⟨x, h1, hl⟩ := hl
      exact ⟨x, hb h1, hl⟩
    · cases hl
  | scopd =>
    simp only [hm] at hl ⊢
    simp only [Option.bind_eq_bind, Option.bind_eq_some_iff] at hl ⊢
    obtain ⟨x, h1, hl⟩ := hl
    exact ⟨x, hb h1, hl⟩
  | grow =>
    simp only [hm] at hl ⊢
    exact hb hl

theorem denF_succ {F : FuncId → Option Func} : ∀ (n : Nat), Le (denF A F n) (denF A F (n + 1))
  | 0 => fun f b g args h r hl => by simp [denF] at hl
  | n + 1 => by
    rw [denF_eq, denF_eq F (n + 1)]
    exact callD_mono (denF_succ n) (Nat.le_succ n)

theorem denF_mono {F : FuncId → Option Func} {n m : Nat} (h : n ≤ m) : Le (denF A F n) (denF A F m) := by
  induction m with
  | zero => obtain rfl : n = 0 := by omega
            exact fun _ _ _ _ _ _ h => h
  | succ m ih =>
    by_cases e : n = m + 1
    · subst e; exact fun _ _ _ _ _ _ h => h
    · exact fun f b g args hh r hl => denF_succ m _ _ _ _ _ _ (ih (by omega) _ _ _ _ _ _ hl)
end Go.Dn

namespace Go.Dn
variable {A : Ann} {F : FuncId → Option Func}

open Classical in
/-- What a call gives, with fuel enough. -/
noncomputable def Lim (A : Ann) (F : FuncId → Option Func) : CallFn := fun f b g args h =>
  if hx : ∃ r, ∃ n, denF A F n f b g args h = some r then some (Classical.choose hx) else none

theorem Lim_of {n : Nat} {f b g : Nat} {args : List D} {h : H} {r : D × H} (hn : denF A F n f b g args h = some r) : Lim A F f b g args h = some r := by
  have hx : ∃ r, ∃ n, denF A F n f b g args h = some r := ⟨r, n, hn⟩
  unfold Lim
  rw [dif_pos hx]
  obtain ⟨m, hm⟩ := Classical.choose_spec hx
  have h1 := denF_mono (F := F) (A := A) (Nat.le_max_left n m) _ _ _ _ _ _ hn
  have h2 := denF_mono (F := F) (A := A) (Nat.le_max_right n m) _ _ _ _ _ _ hm
  rw [h1] at h2
  exact h2.symm
theorem Lim_some {f b g : Nat} {args : List D} {h : H} {r : D × H} (hl : Lim A F f b g args h = some r) : ∃ n, ∀ m, n ≤ m → denF A F m f b g args h = some r := by
  unfold Lim at hl
  split at hl
  · rename_i hx
    obtain ⟨m, hm⟩ := Classical.choose_spec hx
    simp only [Option.some.injEq] at hl
    rw [hl] at hm
    exact ⟨m, fun k hk => denF_mono hk _ _ _ _ _ _ hm⟩
  · cases hl
theorem le_Lim (n : Nat) : Le (denF A F n) (Lim A F) := fun _ _ _ _ _ _ hl => Lim_of hl

theorem callOk_lim {P : Program} (hP : ProgOk P A) (hF : FunsOk P A F) : CallOk P A (Lim A F) := fun f base g args h r h' hl => by
  obtain ⟨n, hn⟩ := Lim_some hl
  exact callOk hP hF n f base g args h r h' (hn n (Nat.le_refl n))

/-- What the limit says, some fuel says. -/
def Ap (A : Ann) (F : FuncId → Option Func) {α : Type} (p : CallFn → Option α) : Prop := ∀ r, p (Lim A F) = some r → ∃ n, ∀ m, n ≤ m → p (denF A F m) = some r

theorem Ap.const {α : Type} (x : Option α) : Ap A F fun _ => x := fun _ h => ⟨0, fun _ _ => h⟩
theorem Ap.bind {α β : Type} {p : CallFn → Option α} {q : CallFn → α → Option β} (hp : Ap A F p) (hq : ∀ a, Ap A F fun c => q c a) : Ap A F fun c => (p c).bind (q c) := fun r hr => by
  simp only [Option.bind_eq_some_iff] at hr
  obtain ⟨a, h1, h2⟩ := hr
  obtain ⟨n1, k1⟩ := hp a h1
  obtain ⟨n2, k2⟩ := hq a r h2
  refine ⟨max n1 n2, fun m hm => ?_⟩
  simp only [Option.bind_eq_some_iff]
  exact ⟨a, k1 m (by omega), k2 m (by omega)⟩
theorem Ap.call {f b g : Nat} {args : List D} {h : H} : Ap A F fun c => c f b g args h := fun _ hr => Lim_some hr

theorem denOp_ap {f : FuncId} {base : Nat} {ev : Operand → Option D} {o : Oper} {h : H} : Ap A F fun c => denOp A c f base ev o h := by
  intro r hr
  unfold denOp at *
  cases hop : o.op <;> simp only [hop] at hr ⊢ <;> (first | exact ⟨0, fun _ _ => hr⟩ | skip)
  rename_i cl
  cases hc : cl.callee with
  | builtin b => simp only [hc] at hr ⊢; exact ⟨0, fun _ _ => hr⟩
  | value x =>
    simp only [hc, Option.bind_eq_bind, Option.bind_eq_some_iff] at hr ⊢
    obtain ⟨dx, h1, hl⟩ := hr
    split at hl
    · simp only [Option.bind_eq_some_iff] at hl
      obtain ⟨ds, h2, hl⟩ := hl
      obtain ⟨n, hn⟩ := Lim_some hl
      exact ⟨n, fun m hm => ⟨_, h1, by simp only [Option.bind_eq_some_iff]; exact ⟨ds, h2, hn m hm⟩⟩⟩
    · cases hl
  | invoke x nm =>
    simp only [hc, Option.bind_eq_bind, Option.bind_eq_some_iff] at hr ⊢
    obtain ⟨dx, h1, hl⟩ := hr
    split at hl
    · simp only [Option.bind_eq_some_iff] at hl
      obtain ⟨g, h3, ds, h2, hl⟩ := hl
      obtain ⟨n, hn⟩ := Lim_some hl
      exact ⟨n, fun m hm => ⟨_, h1, by simp only [Option.bind_eq_some_iff]; exact ⟨g, h3, ds, h2, hn m hm⟩⟩⟩
    · cases hl

theorem stepD_ap {f : FuncId} {base : Nat} {ops : Array Oper} {o : Oper} {e : Env} {h : H} : Ap A F fun c => stepD A c f base ops o e h := by
  unfold stepD
  split
  · exact denOp_ap.bind fun a => Ap.const _
  · exact Ap.const _

theorem opsD_ap {f : FuncId} {base : Nat} {ops : Array Oper} : ∀ {l : List Oper} {e : Env} {h : H}, Ap A F fun c => opsD A c f base ops l e h
  | [], e, h => Ap.const _
  | o :: l, e, h => by
    have : (fun c => opsD A c f base ops (o :: l) e h) = fun c => (stepD A c f base ops o e h).bind fun r => opsD A c f base ops l r.1 r.2 := by
      funext c
      rw [opsD]
      cases stepD A c f base ops o e h <;> rfl
    rw [this]
    exact stepD_ap.bind fun a => opsD_ap

theorem pairOk_ap {f : FuncId} {base : Nat} {ops : Array Oper} {l : List Oper} {tr : List (Env × H)} {k p : Nat} (hl : pairOk A (Lim A F) f base ops l tr k p = true) : ∃ n, ∀ m, n ≤ m → pairOk A (denF A F m) f base ops l tr k p = true := by
  unfold pairOk at hl
  split at hl
  · rename_i o e h x h' q1 q2 q3
    simp only [Bool.or_eq_true] at hl
    rcases hl with hl | hl
    · exact ⟨0, fun m _ => by unfold pairOk; rw [q1, q2, q3]; simp only [Bool.or_eq_true]; exact .inl hl⟩
    · split at hl
      · rename_i d h1 d' h2 e1 e2
        obtain ⟨n1, k1⟩ := denOp_ap _ e1
        obtain ⟨n2, k2⟩ := denOp_ap _ e2
        refine ⟨max n1 n2, fun m hm => ?_⟩
        unfold pairOk
        rw [q1, q2, q3]
        simp only [Bool.or_eq_true]
        right
        have a1 := k1 m (by omega)
        have a2 := k2 m (by omega)
        simp only at a1 a2
        rw [a1, a2]
        exact hl
      · cases hl
  · cases hl
theorem pairsOk_ap {f : FuncId} {base : Nat} {ops : Array Oper} {l : List Oper} {tr : List (Env × H)} : ∀ {ps : List (Nat × Nat)}, pairsOk A (Lim A F) f base ops l tr ps = true → ∃ n, ∀ m, n ≤ m → pairsOk A (denF A F m) f base ops l tr ps = true
  | [], _ => ⟨0, fun _ _ => rfl⟩
  | (k, p) :: ps, hl => by
    simp only [pairsOk, List.all_cons, Bool.and_eq_true] at hl ⊢
    obtain ⟨n1, k1⟩ := pairOk_ap hl.1
    obtain ⟨n2, k2⟩ := pairsOk_ap (ps := ps) hl.2
    exact ⟨max n1 n2, fun m hm => ⟨k1 m (by omega), k2 m (by omega)⟩⟩

theorem regionD_ap {f : FuncId} {base id : Nat} {ops : Array Oper} {draw : Bool} {e : Env} {h : H} : Ap A F fun c => regionD A c f base id ops draw e h := by
  intro r hr
  simp only [regionD] at hr
  split at hr
  · rename_i hd
    split at hr
    · rename_i hp
      obtain ⟨n, hn⟩ := opsD_ap _ hr
      exact ⟨n, fun m hm => by simp only [regionD, if_pos hd, hp]; exact hn m hm⟩
    · rename_i hp
      split at hr
      · rename_i hok
        obtain ⟨n1, h1⟩ := opsD_ap _ hr
        obtain ⟨n2, h2⟩ := pairsOk_ap hok
        refine ⟨max n1 n2, fun m hm => ?_⟩
        have a1 := h1 m (by omega)
        have a2 := h2 m (by omega)
        have a3 := (opsD_mono (le_Lim m) a1).2
        simp only [regionD, if_pos hd]
        simp only at a1 a2
        split
        · exact a1
        · rename_i hno
          exact absurd (a3 ▸ a2) hno
      · cases hr
  · rename_i hd
    obtain ⟨n, hn⟩ := opsD_ap _ hr
    exact ⟨n, fun m hm => by simp only [regionD, if_neg hd]; exact hn m hm⟩

theorem iterD_ap {n : Nat} {b : CallFn → Env → H → Option (Ex × Env × H)} (hb : ∀ e h, Ap A F fun c => b c e h) : ∀ {k : Nat} {e : Env} {h : H}, Ap A F fun c => iterD n (b c) k e h
  | 0, e, h => Ap.const _
  | k + 1, e, h => by
    have : (fun c => iterD n (b c) (k + 1) e h) = fun c => (b c e h).bind fun r => match r with | (.norm, e', h') => iterD n (b c) k (e'.compact n) h' | r => some r := by
      funext c
      rw [iterD]
      rcases b c e h with _ | ⟨x, e', h'⟩
      · rfl
      · cases x <;> rfl
    rw [this]
    refine (hb e h).bind fun a => ?_
    obtain ⟨x, e', h'⟩ := a
    cases x with
    | norm => exact iterD_ap hb
    | exit i => exact Ap.const _
    | ret => exact Ap.const _

theorem denC_ap {f : FuncId} {base fuel : Nat} : ∀ {cd : Code} {e : Env} {h : H}, Ap A F fun c => denC A c f base fuel cd e h
  | .skip, e, h => by simp only [denC]; exact Ap.const _
  | .region id ops draw, e, h => by
    have : (fun c => denC A c f base fuel (.region id ops draw) e h) = fun c => (regionD A c f base id ops draw e h).bind fun r => some (.norm, r.1, r.2) := by
      funext c
      rw [denC]
      rcases regionD A c f base id ops draw e h with _ | ⟨e', h'⟩ <;> rfl
    rw [this]
    exact regionD_ap.bind fun a => Ap.const _
  | .seq a b, e, h => by
    have : (fun c => denC A c f base fuel (.seq a b) e h) = fun c => (denC A c f base fuel a e h).bind fun r => match r with | (.norm, e', h') => denC A c f base fuel b e' h' | r => some r := by
      funext c
      rw [denC]
      rcases denC A c f base fuel a e h with _ | ⟨x, e', h'⟩
      · rfl
      · cases x <;> rfl
    rw [this]
    refine (denC_ap (cd := a)).bind fun r => ?_
    obtain ⟨x, e', h'⟩ := r
    cases x with
    | norm => exact denC_ap (cd := b)
    | exit i => exact Ap.const _
    | ret => exact Ap.const _
  | .cond cc a b, e, h => by
    simp only [denC]
    split
    · exact denC_ap (cd := a)
    · exact denC_ap (cd := b)
    · exact Ap.const _
  | .block id b, e, h => by
    have : (fun c => denC A c f base fuel (.block id b) e h) = fun c => (denC A c f base fuel b e h).bind fun r => match r with | (.exit i, e', h') => if i = id then some (.norm, e', h') else some (.exit i, e', h') | r => some r := by
      funext c
      rw [denC]
      rcases denC A c f base fuel b e h with _ | ⟨x, e', h'⟩
      · rfl
      · cases x <;> rfl
    rw [this]
    refine (denC_ap (cd := b)).bind fun r => ?_
    obtain ⟨x, e', h'⟩ := r
    cases x with
    | norm => exact Ap.const _
    | exit i => exact Ap.const _
    | ret => exact Ap.const _
  | .loop b, e, h => by
    simp only [denC]
    exact iterD_ap fun e h => denC_ap (cd := b)
  | .exit id, e, h => by simp only [denC]; exact Ap.const _
  | .ret, e, h => by simp only [denC]; exact Ap.const _
  | .label _, e, h => by simp only [denC]; exact Ap.const _
  | .goto _, e, h => by simp only [denC]; exact Ap.const _
  | .scope _, e, h => by simp only [denC]; exact Ap.const _
  | .rangeFunc .., e, h => by simp only [denC]; exact Ap.const _
  | .refuse _, e, h => by simp only [denC]; exact Ap.const _

theorem bodyD_ap {fuel g base : Nat} {args : List D} {h : H} : Ap A F fun c => bodyD A F c fuel g base args h := by
  intro r hr
  simp only [bodyD] at hr ⊢
  cases h1 : F g with
  | none => simp [h1] at hr
  | some fn =>
    cases h2 : fn.body with
    | none => simp [h1, h2] at hr
    | some cd =>
      simp only [h1, h2] at hr ⊢
      split at hr
      · cases hr
      · rename_i hn
        simp only [if_neg hn]
        cases h3 : denC A (Lim A F) g base fuel cd (Env.init 0 args) h with
        | none => simp [h3] at hr
        | some x =>
          obtain ⟨n, hk⟩ := denC_ap _ h3
          rw [h3] at hr
          exact ⟨n, fun m hm => by have := hk m hm; simp only at this; rw [this]; exact hr⟩

theorem callD_ap {fuel f g base : Nat} {args : List D} {h : H} : Ap A F fun c => callD A F c fuel f base g args h := by
  unfold callD
  cases A.mode f g with
  | auto =>
    simp only
    split
    · exact bodyD_ap.bind fun a => Ap.const _
    · exact bodyD_ap.bind fun a => Ap.const _
  | lent =>
    simp only
    refine (Ap.const _).bind fun a => ?_
    split
    · exact bodyD_ap.bind fun a => Ap.const _
    · exact Ap.const _
  | scopd =>
    simp only
    exact bodyD_ap.bind fun a => Ap.const _
  | grow => exact bodyD_ap

/-- The limit is closed under one call more. -/
theorem Lim_call {fuel f g base : Nat} {args : List D} {h : H} {r : D × H} (hl : callD A F (Lim A F) fuel f base g args h = some r) : Lim A F f base g args h = some r := by
  obtain ⟨n, hn⟩ := callD_ap _ hl
  have h1 := hn (max n fuel) (Nat.le_max_left _ _)
  have h2 : denF A F (max n fuel + 1) f base g args h = some r := by
    rw [denF_eq]
    exact callD_mono (fun _ _ _ _ _ _ h => h) (Nat.le_max_right n fuel) _ _ _ _ _ _ h1
  exact Lim_of h2

/-- A call of plain data that gives plain data. -/
theorem Lim_auto {fuel f g base : Nat} {args : List D} {h h' : H} {r r' : D} (hm : A.mode f g = .auto) (ha : rbL 0 args = true) (hb : bodyD A F (Lim A F) fuel g 0 args [] = some (r, h')) (hf : frz 10 h' 0 r = some r') (hr : rb 0 r' = true) :
    Lim A F f base g args h = some (r', h) := by
  refine Lim_call (fuel := fuel) ?_
  unfold callD
  simp only [hm, ha, if_true, hb, Option.bind_eq_bind, Option.bind_some, hf, hr]
theorem Lim_auto' {fuel f g base : Nat} {args : List D} {h h' : H} {r : D} (hm : A.mode f g = .auto) (ha : rbL 0 args = true) (hb : bodyD A F (Lim A F) fuel g 0 args [] = some (r, h')) (hr : rb 0 r = true) :
    Lim A F f base g args h = some (r, h) :=
  Lim_auto hm ha hb (by unfold frz; rw [if_pos hr]) hr
/-- A call that looks at memory. -/
theorem Lim_autoH {fuel f g base : Nat} {args : List D} {h h' : H} {r r' : D} (hm : A.mode f g = .auto) (ha : rbL 0 args = false) (hb : bodyD A F (Lim A F) fuel g h.length args h = some (r, h')) (hf : frz 10 h' h.length r = some r') (hr : rb h.length r' = true) :
    Lim A F f base g args h = some (r', h'.take h.length) := by
  refine Lim_call (fuel := fuel) ?_
  unfold callD
  simp only [hm, ha, if_false, hb, Option.bind_eq_bind, Option.bind_some, hf, hr, if_true, Bool.false_eq_true]
theorem Lim_grow {fuel f g base : Nat} {args : List D} {h : H} {r : D × H} (hm : A.mode f g = .grow) (hb : bodyD A F (Lim A F) fuel g base args h = some r) : Lim A F f base g args h = some r := by
  refine Lim_call (fuel := fuel) ?_
  unfold callD
  simp only [hm, hb]
theorem Lim_lent {fuel f g base : Nat} {args as' : List D} {h h' : H} {r : D} (hm : A.mode f g = .lent) (hz : args.mapM (frz 10 h 0) = some as') (ha : rbL 0 as' = true) (hb : bodyD A F (Lim A F) fuel g 0 as' [] = some (r, h')) (hs : isScalar r = true) :
    Lim A F f base g args h = some (r, h) := by
  refine Lim_call (fuel := fuel) ?_
  unfold callD
  simp only [hm, hz, Option.bind_eq_bind, Option.bind_some, ha, if_true, hb, hs]
end Go.Dn

namespace Go.Dn
variable {A : Ann} {R : Type}

def pickO (c : D) (a b : Option D) : Option D :=
  match c with
  | .bool true => a
  | .bool false => b
  | _ => none
def allocO (A : Ann) (h : H) (t : TypeId) : Option H := if 0 < (A.ty t).size ∧ (A.ty t).zero.length = (A.ty t).size then some (h ++ [some ⟨0, (A.ty t).zero⟩]) else none
def boxO (fz ro : Bool) (h : H) (v : D) : Option (D × H) := if (v.okc && (!fz || rbL 0 v.cells)) = false then none else if ro && rbL 0 v.cells then some (.iptr v.cells, h) else some (.ptr h.length 0 0, h ++ [some ⟨0, v.cells⟩])
def nilCheckO : D → Option D
  | .ptr id ver off => some (.ptr id ver off)
  | .iptr cs => some (.iptr cs)
  | .fn f a b => match f with | .func _ => some (.fn f a b) | _ => none
  | _ => none
def ifcO (A : Ann) (t : TypeId) (d : D) : Option D := if (A.ty t).size = 0 ∨ (A.ty t).isIface = true then none else some (.ifc t d)
def extrO (x : D) (i : Nat) : Option D :=
  match x with
  | .tup l => l[i]?
  | _ => none
def callV (call : CallFn) (f base : Nat) (x : D) (as : List D) (h : H) : Option (D × H) :=
  match x with
  | .fn (.func g) first captured => call f base g (first ++ as ++ captured) h
  | _ => none
def invoV (A : Ann) (call : CallFn) (f base : Nat) (x : D) (name : String) (as : List D) (h : H) : Option (D × H) :=
  match x with
  | .ifc t d => (A.meth t name).bind fun g => call f base g (d :: as) h
  | _ => none
def lenO (A : Ann) (t : TypeId) (x : D) : Option D :=
  match (A.ty t).kd, x with
  | .arr n _ _, _ => some (.int .i64 n)
  | .str, .str l => some (.int .i64 l.length)
  | .slice _ _ _ _, x => match lenS x with | some n => some (.int .i64 ((n : Nat) : Int)) | none => none
  | .map, .nilm => some (.int .i64 0)
  | _, _ => none

def flO (o : Oper) (f : FuncId) (sel : FuncId → Tmp → Bool) : Bool := match o.dst with | some t => sel f t | none => false

/-- A builtin's answer, handed on. -/
def builtinK (A : Ann) (fz : Bool) (base : Nat) (h : H) (b : Builtin) (ts : List TypeId) (args : List D) (K : D → H → Option R) : Option R :=
  match b, ts, args with
  | .len, [t], [x] => (lenO A t x).bind fun d => K d h
  | .min, _, l => (minD l).bind fun d => K d h
  | .max, _, l => (maxD l).bind fun d => K d h
  | .clear, [t], [x] => (clearD A h t x).bind fun h' => K undefD h'
  | b, ts, args => (builtinD A fz base h b ts args).bind fun p => K p.1 p.2

/-- Open what is there at once. -/
abbrev adm {α β : Type} (x : Option α) (f : α → Option β) : Option β :=
  match x with
  | some a => f a
  | none => none
theorem adm_eq {α β : Type} (x : Option α) (f : α → Option β) : adm x f = x.bind f := by cases x <;> rfl

/-- One operation, and what comes behind it. -/
def opK (A : Ann) (call : CallFn) (f : FuncId) (base : Nat) (ev : Operand → Option D) (o : Oper) (h : H) (K : D → H → Option R) : Option R :=
  match o.op with
  | .move x | .assign x => adm (ev x) fun d => K d h
  | .pick c a b => adm (ev c) fun c => (pickO c (ev a) (ev b)).bind fun d => K d h
  | .alloc t => (allocO A h t).bind fun h' => K (.ptr h.length 0 0) h'
  | .box _ x => adm (ev x) fun v => (boxO (flO o f A.fz) (flO o f A.ro) h v).bind fun p => K p.1 p.2
  | .build t ps => adm (partsD ev ps.toList) fun ps => (buildD A t ps).bind fun d => K d h
  | .buildSlice t n ps => adm (partsD ev ps.toList) fun ps => (buildSliceD A (!(flO o f A.fz)) h t n ps).bind fun p => K p.1 p.2
  | .load t a => adm (ev a) fun a => (loadD A h t a).bind fun d => K d h
  | .store t a x => adm (ev a) fun a => adm (ev x) fun x => (storeD A base h t a x).bind fun h' => K undefD h'
  | .nilCheck x => adm (ev x) fun x => (nilCheckO x).bind fun d => K d h
  | .binOp op t x y _ => adm (ev x) fun a => adm (ev y) fun b => (binD A (Region.isConst x || Region.isConst y) op t a b).bind fun d => K d h
  | .unOp op _ x => adm (ev x) fun x => (unD op x).bind fun d => K d h
  | .convert s d x => adm (ev x) fun x => (convD A (flO o f A.fz) h s d x).bind fun p => K p.1 p.2
  | .makeInterface t x => adm (ev x) fun x => (ifcO A t x).bind fun d => K d h
  | .makeFunc fn a b => adm (argsD ev a.toList) fun a => adm (argsD ev b.toList) fun b => K (.fn fn a b) h
  | .makeSlice t l c => adm (ev l) fun l => adm (ev c) fun c => (makeSliceD A h t l c).bind fun p => K p.1 p.2
  | .slice t x lo hi mx => adm (ev x) fun x => adm (optD ev lo) fun lo => adm (optD ev hi) fun hi => adm (optD ev mx) fun mx => (sliceD A h t x lo hi mx).bind fun d => K d h
  | .fieldAddr s x i => adm (ev x) fun x => (fieldAddrD A s i x).bind fun d => K d h
  | .field s x i => adm (ev x) fun x => (fieldD A s i x).bind fun d => K d h
  | .indexAddr t x i => adm (ev x) fun x => adm (ev i) fun i => (indexAddrD A t x i).bind fun d => K d h
  | .index t x i => adm (ev x) fun x => adm (ev i) fun i => (indexD A t x i).bind fun d => K d h
  | .extract x i => adm (ev x) fun x => (extrO x i).bind fun d => K d h
  | .call c =>
    match c.callee with
    | .builtin b => adm (argsD ev c.args.toList) fun as => builtinK A (flO o f A.fz) base h b c.argTypes.toList as K
    | .value x => adm (ev x) fun x => adm (argsD ev c.args.toList) fun as => (callV call f base x as h).bind fun p => K p.1 p.2
    | .invoke r name => adm (ev r) fun r => adm (argsD ev c.args.toList) fun as => (invoV A call f base r name as h).bind fun p => K p.1 p.2
  | _ => none

theorem builtinK_eq {fz : Bool} {base : Nat} {h : H} {b : Builtin} {ts : List TypeId} {args : List D} {K : D → H → Option R} : builtinK A fz base h b ts args K = (builtinD A fz base h b ts args).bind fun p => K p.1 p.2 := by
  cases b <;> (try rfl)
  case len =>
    rcases ts with _ | ⟨t, _ | ⟨t', ts⟩⟩ <;> rcases args with _ | ⟨x, _ | ⟨y, args⟩⟩ <;> (try rfl)
    unfold builtinK builtinD lenO
    simp only
    generalize (A.ty t).kd = kd
    cases kd <;> cases x <;> (try rfl) <;> simp only [lenS] <;> rfl
  case clear =>
    rcases ts with _ | ⟨t, _ | ⟨t', ts⟩⟩ <;> rcases args with _ | ⟨x, _ | ⟨y, args⟩⟩ <;> (try rfl)
    unfold builtinK builtinD
    simp only
    cases clearD A h t x <;> rfl
  case min =>
    rcases ts with _ | ⟨t, _ | ⟨t', ts⟩⟩ <;> rcases args with _ | ⟨x, _ | ⟨y, _ | ⟨z, args⟩⟩⟩ <;> (unfold builtinK builtinD; simp only; cases minD _ <;> rfl)
  case max =>
    rcases ts with _ | ⟨t, _ | ⟨t', ts⟩⟩ <;> rcases args with _ | ⟨x, _ | ⟨y, _ | ⟨z, args⟩⟩⟩ <;> (unfold builtinK builtinD; simp only; cases maxD _ <;> rfl)

theorem opt_assoc {α β γ : Type} (x : Option α) (f : α → Option β) (g : β → Option γ) : (x.bind f).bind g = x.bind fun a => (f a).bind g := by cases x <;> rfl
theorem bind_congr' {α β : Type} {x : Option α} {f g : α → Option β} (h : ∀ a, f a = g a) : x.bind f = x.bind g := by cases x <;> simp [h]
theorem bind_swap {α β γ : Type} {x : Option α} {y : Option β} {k : α → β → Option γ} : (x.bind fun a => y.bind fun b => k a b) = y.bind fun b => x.bind fun a => k a b := by
  cases x <;> cases y <;> rfl

theorem opK_eq {call : CallFn} {f : FuncId} {base : Nat} {ev : Operand → Option D} {o : Oper} {h : H} {K : D → H → Option R} : opK A call f base ev o h K = (denOp A call f base ev o h).bind fun p => K p.1 p.2 := by
  unfold opK denOp flO
  cases o.op <;> simp only [adm_eq, Option.bind_eq_bind, opt_assoc, Option.bind_some, Option.bind_none, allocO, boxO] <;> (try rfl)
  case pick c a b =>
    refine bind_congr' fun c => ?_
    cases c <;> simp only [pickO, Option.bind_none] <;> (try rfl)
    rename_i b'
    cases b' <;> simp only [pickO, opt_assoc, Option.bind_some] <;> rfl
  case alloc t =>
    split <;> rfl
  case nilCheck x =>
    refine bind_congr' fun v => ?_
    cases v <;> try rfl
    rename_i f' a b
    cases f' <;> rfl
  case makeInterface t x =>
    split
    · rename_i hc
      have : ∀ d, ifcO A t d = none := fun d => by unfold ifcO; rw [if_pos hc]
      simp [this]
    · rename_i hc
      have : ∀ d, ifcO A t d = some (.ifc t d) := fun d => by unfold ifcO; rw [if_neg hc]
      simp [this, opt_assoc]
  case extract x i =>
    refine bind_congr' fun v => ?_
    cases v <;> simp only [extrO, opt_assoc, Option.bind_some] <;> rfl
  case call c =>
    cases c.callee with
    | builtin b => simp only [opt_assoc]; exact bind_congr' fun as => builtinK_eq
    | value x =>
      simp only [opt_assoc]
      refine bind_congr' fun v => ?_
      cases v <;> simp only [callV, Option.bind_none] <;> (try (cases argsD ev c.args.toList <;> rfl))
      rename_i f' a b
      cases f' <;> simp only [Option.bind_none, opt_assoc] <;> (try (cases argsD ev c.args.toList <;> rfl))
    | invoke r name =>
      simp only [opt_assoc]
      refine bind_congr' fun v => ?_
      cases v <;> simp only [invoV, Option.bind_none, opt_assoc] <;> (try (cases argsD ev c.args.toList <;> rfl))
      exact bind_swap

/-- A guarded operation. -/
def guardO (b : Bool) (h : H) (x : Option (D × H)) : Option (D × H) := if b then x else some (undefD, h)
def boolIs (d : D) (want : Bool) : Bool := match d with | .bool b => b == want | _ => false

def stepK (A : Ann) (call : CallFn) (f : FuncId) (base : Nat) (ops : Array Oper) (o : Oper) (e : Env) (h : H) (K : Env → H → Option R) : Option R :=
  match o.guard with
  | none => opK A call f base (evalD A e) o h fun d h' => K (e.put o.dst d) h'
  | some _ => (guardO (wantD ops e o) h (denOp A call f base (evalD A e) o h)).bind fun p => K (e.put o.dst p.1) p.2
theorem stepK_eq {call : CallFn} {f : FuncId} {base : Nat} {ops : Array Oper} {o : Oper} {e : Env} {h : H} {K : Env → H → Option R} : stepK A call f base ops o e h K = (stepD A call f base ops o e h).bind fun p => K p.1 p.2 := by
  unfold stepK stepD
  split
  · rename_i hg
    have hw : wantD ops e o = true := by unfold wantD; rw [hg]
    rw [if_pos hw, opK_eq]
    cases denOp A call f base (evalD A e) o h <;> rfl
  · unfold guardO
    split
    · cases denOp A call f base (evalD A e) o h <;> rfl
    · rfl

def opsK (A : Ann) (call : CallFn) (f : FuncId) (base : Nat) (ops : Array Oper) : List Oper → Env → H → (Env → H → Option R) → Option R
  | [], e, h, K => K e h
  | o :: r, e, h, K => stepK A call f base ops o e h fun e' h' => opsK A call f base ops r e' h' K
theorem opsK_eq {call : CallFn} {f : FuncId} {base : Nat} {ops : Array Oper} {K : Env → H → Option R} : ∀ {l : List Oper} {e : Env} {h : H}, opsK A call f base ops l e h K = (opsD A call f base ops l e h).bind fun p => K p.1 p.2
  | [], e, h => rfl
  | o :: r, e, h => by
    unfold opsK opsD
    rw [stepK_eq]
    cases stepD A call f base ops o e h with
    | none => rfl
    | some p => exact opsK_eq

/-- The states are kept. -/
def opsT (A : Ann) (call : CallFn) (f : FuncId) (base : Nat) (ops : Array Oper) : List Oper → List (Env × H) → Env → H → (List (Env × H) → Env → H → Option R) → Option R
  | [], tr, e, h, K => K (tr ++ [(e, h)]) e h
  | o :: r, tr, e, h, K => stepK A call f base ops o e h fun e' h' => opsT A call f base ops r (tr ++ [(e, h)]) e' h' K
theorem opsT_eq {call : CallFn} {f : FuncId} {base : Nat} {ops : Array Oper} {K : List (Env × H) → Env → H → Option R} : ∀ {l : List Oper} {tr : List (Env × H)} {e : Env} {h : H},
    opsT A call f base ops l tr e h K = (opsD A call f base ops l e h).bind fun p => K (tr ++ traceD A call f base ops l e h) p.1 p.2
  | [], tr, e, h => rfl
  | o :: r, tr, e, h => by
    unfold opsT opsD traceD
    rw [stepK_eq]
    cases stepD A call f base ops o e h with
    | none => rfl
    | some p =>
      simp only [Option.bind_some]
      rw [opsT_eq]
      simp

def regionK (A : Ann) (call : CallFn) (f : FuncId) (base id : Nat) (ops : Array Oper) (draw : Bool) (e : Env) (h : H) (K : Env → H → Option R) : Option R :=
  if draw then
    match A.pairs f id with
    | [] => opsK A call f base ops (regList A f id ops) e h K
    | p :: ps => opsT A call f base ops (regList A f id ops) [] e h fun tr e' h' => if pairsOk A call f base ops (regList A f id ops) tr (p :: ps) then K e' h' else none
  else opsK A call f base ops ops.toList e h K
theorem regionK_eq {call : CallFn} {f : FuncId} {base id : Nat} {ops : Array Oper} {draw : Bool} {e : Env} {h : H} {K : Env → H → Option R} : regionK A call f base id ops draw e h K = (regionD A call f base id ops draw e h).bind fun p => K p.1 p.2 := by
  unfold regionK regionD
  split
  · cases hp : A.pairs f id with
    | nil => simp only []; rw [opsK_eq]
    | cons q qs =>
      simp only []
      rw [opsT_eq]
      simp only [List.nil_append]
      cases hd : opsD A call f base ops (regList A f id ops) e h with
      | none => split <;> rfl
      | some p =>
        simp only [Option.bind_some]
        split <;> rfl
  · rw [opsK_eq]

abbrev seqK (J : Env → H → Option R) (K : Ex → Env → H → Option R) : Ex → Env → H → Option R
  | .norm, e, h => J e h
  | x, e, h => K x e h
abbrev blockK (id : Nat) (K : Ex → Env → H → Option R) : Ex → Env → H → Option R
  | .exit i, e, h => if i = id then K .norm e h else K (.exit i) e h
  | x, e, h => K x e h
abbrev loopK (n : Nat) (L : Env → H → Option R) (K : Ex → Env → H → Option R) : Ex → Env → H → Option R
  | .norm, e, h => L (e.compact n) h
  | x, e, h => K x e h

def iterK (n : Nat) (body : (Ex → Env → H → Option R) → Env → H → Option R) (K : Ex → Env → H → Option R) : Nat → Env → H → Option R
  | 0, _, _ => none
  | k + 1, e, h => body (loopK n (iterK n body K k) K) e h

def condD (d : D) (a b : Option R) : Option R :=
  match d with
  | .bool true => a
  | .bool false => b
  | _ => none

def denK (A : Ann) (call : CallFn) (f : FuncId) (base : Nat) (fuel : Nat) : Code → (Ex → Env → H → Option R) → Env → H → Option R
  | .skip, K, e, h => K .norm e h
  | .region id ops draw, K, e, h => regionK A call f base id ops draw e h fun e h => K .norm e h
  | .seq a b, K, e, h => denK A call f base fuel a (seqK (denK A call f base fuel b K) K) e h
  | .cond c a b, K, e, h => adm (evalD A e c) fun d => condD d (denK A call f base fuel a K e h) (denK A call f base fuel b K e h)
  | .block id b, K, e, h => denK A call f base fuel b (blockK id K) e h
  | .loop b, K, e, h => iterK (A.ntmps f) (fun K e h => denK A call f base fuel b K e h) K fuel e h
  | .exit id, K, e, h => K (.exit id) e h
  | .ret, K, e, h => K .ret e h
  | _, _, _, _ => none

theorem iterK_eq {n : Nat} {body : (Ex → Env → H → Option R) → Env → H → Option R} {bD : Env → H → Option (Ex × Env × H)} {K : Ex → Env → H → Option R} (hb : ∀ K e h, body K e h = (bD e h).bind fun p => K p.1 p.2.1 p.2.2) : ∀ {k : Nat} {e : Env} {h : H},
    iterK n body K k e h = (iterD n bD k e h).bind fun p => K p.1 p.2.1 p.2.2
  | 0, e, h => rfl
  | k + 1, e, h => by
    unfold iterK iterD
    rw [hb]
    rcases bD e h with _ | ⟨x, e', h'⟩
    · rfl
    · cases x with
      | norm => exact iterK_eq hb
      | exit i => rfl
      | ret => rfl

theorem denK_eq {call : CallFn} {f : FuncId} {base fuel : Nat} : ∀ {c : Code} {K : Ex → Env → H → Option R} {e : Env} {h : H}, denK A call f base fuel c K e h = (denC A call f base fuel c e h).bind fun p => K p.1 p.2.1 p.2.2
  | .skip, K, e, h => by simp only [denK, denC, Option.bind_some]
  | .region id ops draw, K, e, h => by
    simp only [denK, denC]
    rw [regionK_eq]
    rcases regionD A call f base id ops draw e h with _ | ⟨e', h'⟩ <;> rfl
  | .seq a b, K, e, h => by
    simp only [denK, denC]
    rw [denK_eq (c := a)]
    rcases denC A call f base fuel a e h with _ | ⟨x, e', h'⟩
    · rfl
    · cases x with
      | norm => exact denK_eq (c := b)
      | exit i => rfl
      | ret => rfl
  | .cond c a b, K, e, h => by
    simp only [denK, denC]
    rw [denK_eq (c := a), denK_eq (c := b)]
    rcases evalD A e c with _ | d
    · rfl
    · cases d <;> try rfl
      rename_i b'
      cases b' <;> rfl
  | .block id b, K, e, h => by
    simp only [denK, denC]
    rw [denK_eq (c := b)]
    rcases denC A call f base fuel b e h with _ | ⟨x, e', h'⟩
    · rfl
    · cases x with
      | norm => rfl
      | exit i => simp only [Option.bind_some, blockK]; split <;> rfl
      | ret => rfl
  | .loop b, K, e, h => by
    simp only [denK, denC]
    exact iterK_eq (bD := fun e h => denC A call f base fuel b e h) fun K e h => denK_eq (c := b)
  | .exit id, K, e, h => by simp only [denK, denC, Option.bind_some]
  | .ret, K, e, h => by simp only [denK, denC, Option.bind_some]
  | .label _, K, e, h => by simp only [denK, denC, Option.bind_none]
  | .goto _, K, e, h => by simp only [denK, denC, Option.bind_none]
  | .scope _, K, e, h => by simp only [denK, denC, Option.bind_none]
  | .rangeFunc .., K, e, h => by simp only [denK, denC, Option.bind_none]
  | .refuse _, K, e, h => by simp only [denK, denC, Option.bind_none]

def bodyOf (fn : Func) : Code := match fn.body with | some c => c | none => .skip
/-! For guarded operations. -/
def pickP (h : H) (c a b : D) : Option (D × H) :=
  match c with
  | .bool true => some (a, h)
  | .bool false => some (b, h)
  | _ => none
def nilCheckP (h : H) (x : D) : Option (D × H) :=
  match x with
  | .ptr id ver off => some (.ptr id ver off, h)
  | .iptr cs => some (.iptr cs, h)
  | .fn f a b => match f with | .func _ => some (.fn f a b, h) | _ => none
  | _ => none
def extrP (h : H) (x : D) (i : Nat) : Option (D × H) :=
  match x with
  | .tup l => (l[i]?).bind fun d => some (d, h)
  | _ => none
/-- A pair of places: the same is read at both. -/
def pkB (h h' : H) (a b : Option (D × H)) : Bool :=
  match a, b with
  | some (d, h1), some (d', h2) => D.same d d' && h1.length == h.length && h2.length == h'.length
  | _, _ => false

/-- The end of a function. -/
def endK (A : Ann) (rs : List ResultVar) (x : Ex) (e : Env) (h : H) : Option (D × H) :=
  match x with
  | .exit _ => none
  | _ => (resD A h e rs).bind fun ds => some (oneD ds, h)

/-- A function's text, as it stands. -/
theorem bodyD_eq {F : FuncId → Option Func} {call : CallFn} {fuel g base : Nat} {args : List D} {h : H} {fn : Func} {c : Code} (hf : F g = some fn) (hb : fn.body = some c) (hn : Nat.ble args.length (A.ntmps g) = true) :
    bodyD A F call fuel g base args h = denK A call g base fuel c (endK A fn.results.toList) (Env.init 0 args) h := by
  unfold bodyD
  have hn' : ¬ A.ntmps g < args.length := by have := Nat.le_of_ble_eq_true hn; omega
  simp only [hf, hb, if_neg hn']
  rw [denK_eq]
  rcases denC A call g base fuel c (Env.init 0 args) h with _ | ⟨x, e', h'⟩
  · rfl
  · cases x <;> rfl

/-! What is put together. -/
section
variable {call : CallFn} {f base fuel : Nat}
/-- What comes behind has a name. -/
theorem seq_at {a b : Code} {K : Ex → Env → H → Option R} {J S : Env → H → Option R} (hb : ∀ e h, denK A call f base fuel b K e h = J e h)
    (ha : ∀ e h, denK A call f base fuel a (seqK J K) e h = S e h) : ∀ e h, denK A call f base fuel (.seq a b) K e h = S e h := fun e h => by
  have : denK A call f base fuel b K = J := by funext e h; exact hb e h
  subst this
  exact ha e h
theorem cond_at {c : Operand} {a b : Code} {K : Ex → Env → H → Option R} {S T : Env → H → Option R} (ha : ∀ e h, denK A call f base fuel a K e h = S e h) (hb : ∀ e h, denK A call f base fuel b K e h = T e h) :
    ∀ e h, denK A call f base fuel (.cond c a b) K e h = adm (evalD A e c) fun d => condD d (S e h) (T e h) := fun e h => by
  unfold denK
  rw [ha e h, hb e h]
theorem block_at {id : Nat} {b : Code} {K : Ex → Env → H → Option R} {S : Env → H → Option R} (ha : ∀ e h, denK A call f base fuel b (blockK id K) e h = S e h) : ∀ e h, denK A call f base fuel (.block id b) K e h = S e h := ha
theorem loop_at {n : Nat} {b : Code} {K : Ex → Env → H → Option R} {L : Nat → Env → H → Option R} (hn : A.ntmps f = n) (h0 : ∀ e h, L 0 e h = none)
    (hs : ∀ k e h, denK A call f base fuel b (loopK n (L k) K) e h = L (k + 1) e h) : ∀ e h, denK A call f base fuel (.loop b) K e h = L fuel e h := by
  subst hn
  have key : ∀ k, iterK (A.ntmps f) (fun K e h => denK A call f base fuel b K e h) K k = L k := by
    intro k
    induction k with
    | zero => funext e h; exact (h0 e h).symm
    | succ k ih =>
      funext e h
      rw [← hs k e h, ← ih]
      rfl
  intro e h
  exact congrFun (congrFun (key fuel) e) h
end
end Go.Dn

namespace Go.Dn
variable {A : Ann}

attribute [simp] undefD
@[simp] theorem bind_some' {α β : Type} (a : α) (f : α → Option β) : (some a).bind f = f a := rfl
@[simp] theorem condD_bool {R : Type} (b : Bool) (x y : Option R) : condD (.bool b) x y = if b = true then x else y := by cases b <;> rfl
@[simp] theorem pickO_bool (b : Bool) (x y : Option D) : pickO (.bool b) x y = if b = true then x else y := by cases b <;> rfl
@[simp] theorem pickP_bool (h : H) (b : Bool) (x y : D) : pickP h (.bool b) x y = if b = true then some (x, h) else some (y, h) := by cases b <;> rfl
@[simp] theorem boolIs_bool (b w : Bool) : boolIs (.bool b) w = (b == w) := rfl
@[simp] theorem guardO_true (h : H) (x : Option (D × H)) : guardO true h x = x := rfl
@[simp] theorem guardO_false (h : H) (x : Option (D × H)) : guardO false h x = some (undefD, h) := rfl
@[simp] theorem extrO_tup (l : List D) (i : Nat) : extrO (.tup l) i = l[i]? := rfl
@[simp] theorem callV_fn (call : CallFn) (f base g : Nat) (a b as : List D) (h : H) : callV call f base (.fn (.func g) a b) as h = call f base g (a ++ as ++ b) h := rfl
@[simp] theorem nilCheckO_ptr (id ver off : Nat) : nilCheckO (.ptr id ver off) = some (.ptr id ver off) := rfl
@[simp] theorem nilCheckO_iptr (cs : List D) : nilCheckO (.iptr cs) = some (.iptr cs) := rfl
@[simp] theorem nilCheckO_fn (g : Nat) (a b : List D) : nilCheckO (.fn (.func g) a b) = some (.fn (.func g) a b) := rfl
@[simp] theorem nilCheckP_ptr (h : H) (id ver off : Nat) : nilCheckP h (.ptr id ver off) = some (.ptr id ver off, h) := rfl
@[simp] theorem nilCheckP_iptr (h : H) (cs : List D) : nilCheckP h (.iptr cs) = some (.iptr cs, h) := rfl

@[simp] theorem allocO_eq (h : H) (t : TypeId) : allocO A h t = if 0 < (A.ty t).size ∧ (A.ty t).zero.length = (A.ty t).size then some (h ++ [some ⟨0, (A.ty t).zero⟩]) else none := rfl
@[simp] theorem boxO_eq (fz ro : Bool) (h : H) (v : D) : boxO fz ro h v = if (v.okc && (!fz || rbL 0 v.cells)) = false then none else if (ro && rbL 0 v.cells) = true then some (.iptr v.cells, h) else some (.ptr h.length 0 0, h ++ [some ⟨0, v.cells⟩]) := rfl

/-! Memory. -/
@[simp] theorem hget_append (X : H) (b : Option Blk) (id : Nat) : H.get (X ++ [b]) id = if id = X.length then b else H.get X id := by
  unfold H.get
  by_cases h1 : id = X.length
  · subst h1; simp
  · rw [if_neg h1]
    by_cases h2 : id < X.length
    · rw [List.getElem?_append_left h2]
    · rw [List.getElem?_append_right (by omega), List.getElem?_eq_none (l := X) (by omega), List.getElem?_eq_none]
      simp; omega
@[simp] theorem hset_append (X : H) (b v : Option Blk) (id : Nat) : List.set (X ++ [b]) id v = if id = X.length then X ++ [v] else X.set id v ++ [b] := by
  by_cases h1 : id = X.length
  · subst h1; simp
  · rw [if_neg h1]
    by_cases h2 : id < X.length
    · rw [List.set_append_left _ _ h2]
    · rw [List.set_append_right _ _ (by omega), List.set_eq_of_length_le (l := X) (by omega), List.set_eq_of_length_le]
      simp; omega
@[simp] theorem rdC_eq (h : H) (id ver off n : Nat) : rdC h id ver off n = match h.get id with
  | some b => if b.ver = ver ∧ off + n ≤ b.cells.length then some ((b.cells.drop off).take n) else none
  | none => none := rfl
@[simp] theorem wrC_eq (h : H) (id ver off : Nat) (cs : List D) : wrC h id ver off cs = match h.get id with
  | some b => if b.ver = ver ∧ off + cs.length ≤ b.cells.length then some (h.set id (some { b with cells := splice b.cells off cs })) else none
  | none => none := rfl
attribute [simp] splice buildD fillD buildSliceD chunks
@[simp] theorem hget_nil (i : Nat) : H.get [] i = none := by simp [H.get]
@[simp] theorem hget_zero (b : Option Blk) (l : H) : H.get (b :: l) 0 = b := by simp [H.get]
@[simp] theorem hget_succ (b : Option Blk) (l : H) (n : Nat) : H.get (b :: l) (n + 1) = H.get l n := by simp [H.get]

@[simp] theorem loadD_ptr (h : H) (t id ver off : Nat) : loadD A h t (.ptr id ver off) = (rdC h id ver off (A.ty t).size).bind (mkV (A.ty t).agg) := rfl
@[simp] theorem loadD_iptr (h : H) (t : Nat) (cs : List D) : loadD A h t (.iptr cs) = (if (A.ty t).size ≤ cs.length then some (cs.take (A.ty t).size) else none).bind (mkV (A.ty t).agg) := rfl
@[simp] theorem mkV_true (cs : List D) : mkV true cs = some (.agg cs) := rfl
@[simp] theorem mkV_false_one (c : D) : mkV false [c] = some c := rfl
@[simp] theorem storeD_ptr (base : Nat) (h : H) (t id ver off : Nat) (v : D) : storeD A base h t (.ptr id ver off) v =
  if v.okc = true ∧ v.cells.length = (A.ty t).size ∧ (A.ty t).size ≠ 0 ∧ (base ≤ id ∨ rbL (id + 1) v.cells = true) then wrC h id ver off v.cells else none := rfl
@[simp] theorem cells_agg (cs : List D) : (D.agg cs).cells = cs := rfl
@[simp] theorem cells_bool (b : Bool) : (D.bool b).cells = [.bool b] := rfl
@[simp] theorem cells_int (k : IntKind) (n : Int) : (D.int k n).cells = [.int k n] := rfl
@[simp] theorem cells_str (l : List UInt8) : (D.str l).cells = [.str l] := rfl
@[simp] theorem cells_nilp : D.nilp.cells = [.nilp] := rfl
@[simp] theorem cells_nils : D.nils.cells = [.nils] := rfl
@[simp] theorem cells_vs (xs : List (List D)) (c : Bool) : (D.vs xs c).cells = [.vs xs c] := rfl
@[simp] theorem cells_ptr (a b c : Nat) : (D.ptr a b c).cells = [.ptr a b c] := rfl
@[simp] theorem cells_iptr (cs : List D) : (D.iptr cs).cells = [.iptr cs] := rfl
@[simp] theorem cells_rs (a b c d e f : Nat) (g : Bool) : (D.rs a b c d e f g).cells = [.rs a b c d e f g] := rfl
@[simp] theorem cells_fn (f : Fn) (a b : List D) : (D.fn f a b).cells = [.fn f a b] := rfl
@[simp] theorem cells_ifc (t : TypeId) (d : D) : (D.ifc t d).cells = [.ifc t d] := rfl
@[simp] theorem cells_nilif : D.nilif.cells = [.nilif] := rfl
@[simp] theorem cells_nilfn : D.nilfn.cells = [.nilfn] := rfl
@[simp] theorem okc_agg (cs : List D) : (D.agg cs).okc = true := rfl
@[simp] theorem okc_bool (b : Bool) : (D.bool b).okc = true := rfl
@[simp] theorem okc_int (k : IntKind) (n : Int) : (D.int k n).okc = true := rfl
@[simp] theorem okc_str (l : List UInt8) : (D.str l).okc = true := rfl
@[simp] theorem okc_nilp : D.nilp.okc = true := rfl
@[simp] theorem okc_nils : D.nils.okc = true := rfl
@[simp] theorem okc_vs (xs : List (List D)) (c : Bool) : (D.vs xs c).okc = true := rfl
@[simp] theorem okc_ptr (a b c : Nat) : (D.ptr a b c).okc = true := rfl
@[simp] theorem okc_iptr (cs : List D) : (D.iptr cs).okc = true := rfl
@[simp] theorem okc_rs (a b c d e f : Nat) (g : Bool) : (D.rs a b c d e f g).okc = true := rfl
@[simp] theorem okc_fn (f : Fn) (a b : List D) : (D.fn f a b).okc = true := rfl
@[simp] theorem okc_ifc (t : TypeId) (d : D) : (D.ifc t d).okc = true := rfl
@[simp] theorem okc_nilif : D.nilif.okc = true := rfl
@[simp] theorem okc_nilfn : D.nilfn.okc = true := rfl

attribute [simp] rb rbL fieldOff

@[simp] theorem fieldAddrD_ptr (s f id ver o : Nat) : fieldAddrD A s f (.ptr id ver o) = (fieldOff A s f).bind fun x => if x.2.1 = 0 then none else some (.ptr id ver (o + x.1)) := rfl
@[simp] theorem fieldAddrD_iptr (s f : Nat) (cs : List D) : fieldAddrD A s f (.iptr cs) = (fieldOff A s f).bind fun x => if x.2.1 = 0 then none else if x.1 ≤ cs.length then some (.iptr (cs.drop x.1)) else none := rfl
@[simp] theorem fieldD_agg (s f : Nat) (cs : List D) : fieldD A s f (.agg cs) = (fieldOff A s f).bind fun x => partD x.2.2 cs x.1 x.2.1 := rfl
@[simp] theorem partD_false (cs : List D) (off sz : Nat) : partD false cs off sz = cs[off]? := rfl
@[simp] theorem partD_true (cs : List D) (off sz : Nat) : partD true cs off sz = if off + sz ≤ cs.length then some (.agg ((cs.drop off).take sz)) else none := rfl

/-! Lengths. -/
def lenK (kd : Kd) (x : D) : Option D :=
  match kd, x with
  | .arr n _ _, _ => some (.int .i64 n)
  | .str, .str l => some (.int .i64 l.length)
  | .slice _ _ _ _, x => match lenS x with | some n => some (.int .i64 ((n : Nat) : Int)) | none => none
  | .map, .nilm => some (.int .i64 0)
  | _, _ => none
@[simp] theorem lenO_eq (t : Nat) (x : D) : lenO A t x = lenK (A.ty t).kd x := rfl
@[simp] theorem lenK_slice (esz eb : Nat) (ez : List D) (by_ : Bool) (x : D) : lenK (.slice esz eb ez by_) x = match lenS x with | some n => some (.int .i64 ((n : Nat) : Int)) | none => none := rfl
@[simp] theorem lenK_str (l : List UInt8) : lenK .str (.str l) = some (.int .i64 l.length) := rfl
@[simp] theorem lenK_arr (n a : Nat) (b : Bool) (x : D) : lenK (.arr n a b) x = some (.int .i64 n) := rfl
@[simp] theorem lenS_nils : lenS .nils = some 0 := rfl
@[simp] theorem lenS_vs (xs : List (List D)) (c : Bool) : lenS (.vs xs c) = some xs.length := rfl
@[simp] theorem lenS_rs (a b c d e f : Nat) (g : Bool) : lenS (.rs a b c d e f g) = some d := rfl

/-! Whole numbers. -/
@[simp] theorem bin_add (c : Bool) (t : Nat) (k : IntKind) (a b : Int) : binD A c .add t (.int k a) (.int k b) = some (.int k (k.wrap (a + b))) := by simp [binD, intOp]
@[simp] theorem bin_sub (c : Bool) (t : Nat) (k : IntKind) (a b : Int) : binD A c .sub t (.int k a) (.int k b) = some (.int k (k.wrap (a - b))) := by simp [binD, intOp]
@[simp] theorem bin_mul (c : Bool) (t : Nat) (k : IntKind) (a b : Int) : binD A c .mul t (.int k a) (.int k b) = some (.int k (k.wrap (a * b))) := by simp [binD, intOp]
@[simp] theorem bin_quo (c : Bool) (t : Nat) (k : IntKind) (a b : Int) : binD A c .quo t (.int k a) (.int k b) = if b = 0 then none else some (.int k (k.wrap (a.tdiv b))) := by simp [binD, intOp]
@[simp] theorem bin_rem (c : Bool) (t : Nat) (k : IntKind) (a b : Int) : binD A c .rem t (.int k a) (.int k b) = if b = 0 then none else some (.int k (a.tmod b)) := by simp [binD, intOp]
@[simp] theorem bin_eql (c : Bool) (t : Nat) (k : IntKind) (a b : Int) : binD A c .eql t (.int k a) (.int k b) = some (.bool (a == b)) := by simp [binD, intOp]
@[simp] theorem bin_neq (c : Bool) (t : Nat) (k : IntKind) (a b : Int) : binD A c .neq t (.int k a) (.int k b) = some (.bool (a != b)) := by simp [binD, intOp]
@[simp] theorem bin_lss (c : Bool) (t : Nat) (k : IntKind) (a b : Int) : binD A c .lss t (.int k a) (.int k b) = some (.bool (decide (a < b))) := by simp [binD, intOp]
@[simp] theorem bin_leq (c : Bool) (t : Nat) (k : IntKind) (a b : Int) : binD A c .leq t (.int k a) (.int k b) = some (.bool (decide (a ≤ b))) := by simp [binD, intOp]
@[simp] theorem bin_gtr (c : Bool) (t : Nat) (k : IntKind) (a b : Int) : binD A c .gtr t (.int k a) (.int k b) = some (.bool (decide (a > b))) := by simp [binD, intOp]
@[simp] theorem bin_geq (c : Bool) (t : Nat) (k : IntKind) (a b : Int) : binD A c .geq t (.int k a) (.int k b) = some (.bool (decide (a ≥ b))) := by simp [binD, intOp]
@[simp] theorem bin_str_add (c : Bool) (t : Nat) (a b : List UInt8) : binD A c .add t (.str a) (.str b) = if a.length + b.length ≤ maxN then some (.str (a ++ b)) else none := by simp [binD, strOp]
@[simp] theorem bin_str_eql (c : Bool) (t : Nat) (a b : List UInt8) : binD A c .eql t (.str a) (.str b) = some (.bool (a == b)) := by simp [binD, strOp]
@[simp] theorem bin_str_neq (c : Bool) (t : Nat) (a b : List UInt8) : binD A c .neq t (.str a) (.str b) = some (.bool (!(a == b))) := by simp [binD, strOp]
@[simp] theorem bin_str_lss (c : Bool) (t : Nat) (a b : List UInt8) : binD A c .lss t (.str a) (.str b) = some (.bool (Op.bytesLess a b)) := by simp [binD, strOp]
@[simp] theorem bin_str_gtr (c : Bool) (t : Nat) (a b : List UInt8) : binD A c .gtr t (.str a) (.str b) = some (.bool (!(Op.bytesLess a b || a == b))) := by simp [binD, strOp]
@[simp] theorem un_not (b : Bool) : unD .not (.bool b) = some (.bool (!b)) := rfl
@[simp] theorem un_neg (k : IntKind) (n : Int) : unD .neg (.int k n) = some (.int k (k.wrap (0 - n))) := rfl

/-! What lies in a row. -/
def iaK (kd : Kd) (x : D) (n : Int) : Option D :=
  match kd, x with
  | .slice esz _ _ _, .vs xs _ => if 0 ≤ n then (match xs[n.toNat]? with | some c => if c.length = esz then some (.iptr c) else none | none => none) else none
  | .slice esz _ _ _, .rs id ver off len _ sz _ => if 0 ≤ n ∧ n < len ∧ sz = esz then some (.ptr id ver (off + n.toNat * esz)) else none
  | .arr len esz _, .ptr id ver off => if 0 ≤ n ∧ n < len then some (.ptr id ver (off + n.toNat * esz)) else none
  | .arr len esz _, .iptr cs => if 0 ≤ n ∧ n < len ∧ n.toNat * esz ≤ cs.length then some (.iptr (cs.drop (n.toNat * esz))) else none
  | _, _ => none
@[simp] theorem ia_eq (t : Nat) (x : D) (k : IntKind) (n : Int) : indexAddrD A t x (.int k n) = iaK (A.ty t).kd x n := rfl
@[simp] theorem iaK_vs (esz eb : Nat) (ez : List D) (by_ : Bool) (xs : List (List D)) (c : Bool) (n : Int) :
    iaK (.slice esz eb ez by_) (.vs xs c) n = if 0 ≤ n then (match xs[n.toNat]? with | some c => if c.length = esz then some (.iptr c) else none | none => none) else none := rfl
@[simp] theorem iaK_rs (esz eb : Nat) (ez : List D) (by_ : Bool) (id ver off len cap sz : Nat) (c : Bool) (n : Int) :
    iaK (.slice esz eb ez by_) (.rs id ver off len cap sz c) n = if 0 ≤ n ∧ n < len ∧ sz = esz then some (.ptr id ver (off + n.toNat * esz)) else none := rfl
@[simp] theorem iaK_arr (len esz : Nat) (b : Bool) (id ver off : Nat) (n : Int) : iaK (.arr len esz b) (.ptr id ver off) n = if 0 ≤ n ∧ n < len then some (.ptr id ver (off + n.toNat * esz)) else none := rfl
@[simp] theorem iaK_arri (len esz : Nat) (b : Bool) (cs : List D) (n : Int) : iaK (.arr len esz b) (.iptr cs) n = if 0 ≤ n ∧ n < len ∧ n.toNat * esz ≤ cs.length then some (.iptr (cs.drop (n.toNat * esz))) else none := rfl

/-- Whole numbers of 64 bits. -/
def Fits (n : Int) : Prop := -9223372036854775808 ≤ n ∧ n ≤ 9223372036854775807
theorem wrap_fits {n : Int} (h : Fits n) : IntKind.i64.wrap n = n := by
  unfold Fits at h
  unfold IntKind.wrap
  have e1 : (2 : Int) ^ IntKind.i64.bits = 18446744073709551616 := rfl
  have e2 : (2 : Int) ^ (IntKind.i64.bits - 1) = 9223372036854775808 := rfl
  have e3 : IntKind.i64.signed = true := rfl
  simp only [e1, e2, e3, Bool.true_and, decide_eq_true_eq]
  split <;> omega
end Go.Dn
namespace Go.Dn
theorem Lim_pure {A : Ann} {F : FuncId → Option Func} {fuel f g base : Nat} {args : List D} {h : H} {r : D} (hm : A.mode f g = .auto) (ha : rbL 0 args = true) (hb : (bodyD A F (Lim A F) fuel g 0 args []).map Prod.fst = some r) (hr : rb 0 r = true) :
    Lim A F f base g args h = some (r, h) := by
  simp only [Option.map_eq_some_iff, Prod.exists] at hb
  obtain ⟨a, h', hb, rfl⟩ := hb
  exact Lim_auto' hm ha hb hr
end Go.Dn
namespace Go.Dn
theorem Lim_den {A : Ann} {F : FuncId → Option Func} {n f g base : Nat} {args : List D} {h : H} {r : D} (hm : A.mode f g = .auto) (ha : rbL 0 args = true) (hb : (bodyD A F (denF A F n) n g 0 args []).map Prod.fst = some r) (hr : rb 0 r = true) :
    Lim A F f base g args h = some (r, h) := by
  simp only [Option.map_eq_some_iff, Prod.exists] at hb
  obtain ⟨a, h', hb, rfl⟩ := hb
  exact Lim_auto' hm ha (bodyD_mono (le_Lim n) (Nat.le_refl n) hb) hr
end Go.Dn
namespace Go.Dn
@[simp] theorem builtin_len {A : Ann} (fz : Bool) (base : Nat) (h : H) (t : TypeId) (x : D) : builtinD A fz base h .len [t] [x] = (lenK (A.ty t).kd x).bind fun d => some (d, h) := by
  unfold builtinD lenK
  simp only
  generalize (A.ty t).kd = kd
  cases kd <;> cases x <;> (try rfl) <;> simp only [lenS] <;> rfl
end Go.Dn
namespace Go.Dn
@[simp] theorem wrapI {n : Int} (h : -9223372036854775808 ≤ n ∧ n ≤ 9223372036854775807) : IntKind.i64.wrap n = n := wrap_fits h
end Go.Dn

namespace Go.Dn
variable {A : Ann} {F : FuncId → Option Func}
def callO (A : Ann) (F : FuncId → Option Func) (O : FuncId → List D → Option D) (c : CallFn) (n : Nat) : CallFn := fun f b g args h =>
  match A.mode f g with
  | .auto =>
    if rbL 0 args then
      match O g args with
      | some r => some (r, h)
      | none => callD A F c n f b g args h
    else callD A F c n f b g args h
  | .lent =>
    match args.mapM (frz 10 h 0) with
    | some as' =>
      if rbL 0 as' then
        match O g as' with
        | some r => if isScalar r then some (r, h) else none
        | none => callD A F c n f b g args h
      else none
    | none => none
  | _ => callD A F c n f b g args h
def denO (A : Ann) (F : FuncId → Option Func) (O : FuncId → List D → Option D) : Nat → CallFn
  | 0 => fun _ _ _ _ _ => none
  | n + 1 => callO A F O (denO A F O n) n

theorem denO_le {O : FuncId → List D → Option D} (hO : ∀ g args r, O g args = some r → rb 0 r = true ∧ ∃ k h', bodyD A F (Lim A F) k g 0 args [] = some (r, h')) : ∀ n, Le (denO A F O n) (Lim A F)
  | 0 => fun f b g args h r hl => by simp [denO] at hl
  | n + 1 => fun f b g args h r hl => by
    have hd : callD A F (denO A F O n) n f b g args h = some r → Lim A F f b g args h = some r := fun hl => Lim_call (callD_mono (denO_le hO n) (Nat.le_refl n) _ _ _ _ _ _ hl)
    simp only [denO, callO] at hl
    cases hm : A.mode f g with
    | auto =>
      simp only [hm] at hl
      split at hl
      · rename_i ha
        split at hl
        · rename_i r' ho
          simp only [Option.some.injEq] at hl
          subst hl
          obtain ⟨h1, k, h', h2⟩ := hO g args r' ho
          exact Lim_auto' hm ha h2 h1
        · exact hd hl
      · exact hd hl
    | lent =>
      simp only [hm] at hl
      split at hl
      · rename_i as' hz
        split at hl
        · rename_i ha
          split at hl
          · rename_i r' ho
            split at hl
            · rename_i hs
              simp only [Option.some.injEq] at hl
              subst hl
              obtain ⟨h1, k, h', h2⟩ := hO g as' r' ho
              exact Lim_lent hm hz ha h2 hs
            · cases hl
          · exact hd hl
        · cases hl
      · cases hl
    | scopd => simp only [hm] at hl; exact hd hl
    | grow => simp only [hm] at hl; exact hd hl
end Go.Dn

namespace Go.Dn
variable {P : Program} {w : World}

def HasTy (P : Program) : Nat → TypeId → List D → Prop
  | 0, _, _ => False
  | n + 1, t, ds =>
    match P.underlying t with
    | some .bool => ∃ b, ds = [.bool b]
    | some (.int k) => ∃ z, ds = [.int k z] ∧ (Lit.int k z).wf = true
    | some .string => ∃ l : List UInt8, ds = [.str l] ∧ l.length ≤ maxLen
    | some (.slice e) => ds = [.nils] ∨ ∃ xs c, ds = [.vs xs c] ∧ xs.length ≤ maxLen ∧ ∀ x ∈ xs, HasTy P n e x
    | some (.struct fs) => ds.length = P.cellsOf t ∧ ∀ f ∈ fs.toList, HasTy P n f.type ((ds.drop f.offset).take (P.cellsOf f.type))
    | some (.array m e) => ds.length = P.cellsOf t ∧ ∀ i, i < m → HasTy P n e ((ds.drop (i * P.cellsOf e)).take (P.cellsOf e))
    | _ => False

/-- Fields one behind the other. -/
def tiledB (P : Program) : List Field → Nat → Nat → Bool
  | [], o, n => o == n
  | f :: fs, o, n => f.offset == o && tiledB P fs (o + P.cellsOf f.type) n
/-- A set of types that are read plainly. -/
def closedB (P : Program) (S : List TypeId) : Bool := S.all fun t =>
  match P.underlying t with
  | some .bool | some (.int _) | some .string => P.cellsOf t == 1
  | some (.slice e) => S.contains e && P.cellsOf t == 1
  | some (.struct fs) => fs.toList.all (fun f => S.contains f.type) && tiledB P fs.toList 0 (P.cellsOf t)
  | some (.array m e) => S.contains e && P.cellsOf t == m * P.cellsOf e
  | _ => false

/-- Plain data, cell by cell. -/
def Plain (w : World) (ds : List D) (cs : List Value) : Prop := VL w.cell? (fun _ => False) Rf.nil ds cs ∧ rbL 0 ds = true ∧ ds.all D.isCell = true

theorem Plain.append {ds es : List D} {cs bs : List Value} (h : Plain w ds cs) (h' : Plain w es bs) : Plain w (ds ++ es) (cs ++ bs) :=
  ⟨h.1.append h'.1, rbL_append.2 ⟨h.2.1, h'.2.1⟩, by simp [h.2.2, h'.2.2]⟩
theorem Plain.length {ds : List D} {cs : List Value} (h : Plain w ds cs) : ds.length = cs.length := h.1.length.symm

theorem list_exists {α : Type} {Q : Nat → α → Prop} : ∀ (n : Nat), (∀ i, i < n → ∃ x, Q i x) → ∃ xs : List α, xs.length = n ∧ ∀ i x, xs[i]? = some x → Q i x
  | 0, _ => ⟨[], rfl, fun i x h => by simp at h⟩
  | n + 1, h => by
    obtain ⟨xs, h1, h2⟩ := list_exists n fun i hi => h i (by omega)
    obtain ⟨x, hx⟩ := h n (by omega)
    refine ⟨xs ++ [x], by simp [h1], fun i y hy => ?_⟩
    by_cases hi : i < n
    · rw [List.getElem?_append_left (by omega)] at hy
      exact h2 i y hy
    · rw [List.getElem?_append_right (by omega)] at hy
      by_cases e : i = n
      · subst e
        rw [h1] at hy
        simp at hy
        exact hy ▸ hx
      · rw [List.getElem?_eq_none (by simp; omega)] at hy
        cases hy

theorem mapM_get {α β : Type} {f : α → Option β} : ∀ {l : List α} {ys : List β}, l.mapM f = some ys → ys.length = l.length ∧ ∀ (i : Nat) (x : α), l[i]? = some x → ∃ y, ys[i]? = some y ∧ f x = some y
  | [], ys, h => by simp at h; subst h; exact ⟨rfl, fun i x hx => by simp at hx⟩
  | x :: l, ys, h => by
    simp only [List.mapM_cons, Option.bind_eq_bind, Option.bind_eq_some_iff, Option.pure_def, Option.some.injEq] at h
    obtain ⟨y, h1, r, h2, rfl⟩ := h
    obtain ⟨q1, q2⟩ := mapM_get h2
    refine ⟨by simp [q1], fun i z hz => ?_⟩
    cases i with
    | zero => simp at hz; subst hz; exact ⟨y, rfl, h1⟩
    | succ i => simpa using q2 i z (by simpa using hz)

theorem cells_get {base : Nat} {a : Addr} {n : Nat} {cs : List Value} (h : w.cells? base a n = some cs) : cs.length = n ∧ ∀ i, i < n → ∃ v, cs[i]? = some v ∧ w.cell? (a.add i) = some v := by
  unfold World.cells? at h
  split at h
  · obtain ⟨q1, q2⟩ := mapM_get h
    refine ⟨by simpa using q1, fun i hi => ?_⟩
    exact q2 i i (by simp [hi])
  · cases h

theorem Plain.VA {ds : List D} {cs : List Value} {a : Addr} {k : Nat} (h : Plain w ds cs) (hc : ∀ i, i < cs.length → ∃ v, cs[i]? = some v ∧ w.cell? (a.add (k + i)) = some v) : VA w.cell? (fun _ => False) ds a k :=
  VA.of_get fun i d hd => by
    obtain ⟨v, h1, h2⟩ := h.1.get hd
    have hi : i < cs.length := (List.getElem?_eq_some_iff.1 h1).1
    obtain ⟨v', h3, h4⟩ := hc i hi
    rw [h1] at h3
    simp only [Option.some.injEq] at h3
    subst h3
    exact ⟨v, h4, id, rbL_iff.1 h.2.1 d (List.mem_of_getElem? hd), List.all_eq_true.1 h.2.2 d (List.mem_of_getElem? hd), h2⟩

/-- Fields that tile, read one by one. -/
theorem tiled_ok {H : Type} {n : Nat} {cs : List Value} (rd : TypeId → List Value → Option (DataW H × List MemPlace)) (S : List TypeId)
    (ih : ∀ t cs x, S.contains t = true → rd t cs = some x → ∃ ds, HasTy P n t ds ∧ Plain w ds cs ∧ cs.length = P.cellsOf t) :
    ∀ (fs : List Field) (o N : Nat), fs.all (fun f => S.contains f.type) = true → tiledB P fs o N = true → cs.length = N → (∀ f ∈ fs, ∃ y, rd f.type ((cs.drop f.offset).take (P.cellsOf f.type)) = some y) →
      ∃ ds, Plain w ds (cs.drop o) ∧ ∀ f ∈ fs, o ≤ f.offset ∧ HasTy P n f.type ((ds.drop (f.offset - o)).take (P.cellsOf f.type))
  | [], o, N, _, ht, hN, _ => by
    simp only [tiledB, beq_iff_eq] at ht
    subst ht
    refine ⟨[], ?_, fun f hf => by cases hf⟩
    rw [List.drop_eq_nil_of_le (by omega)]
    exact ⟨VL.nil, rfl, rfl⟩
  | f :: fs, o, N, hS, ht, hN, hm => by
    simp only [tiledB, Bool.and_eq_true, beq_iff_eq] at ht
    simp only [List.all_cons, Bool.and_eq_true] at hS
    obtain ⟨x, h1⟩ := hm f (by simp)
    obtain ⟨ds1, p1, p2, p3⟩ := ih _ _ _ hS.1 h1
    obtain ⟨ds2, q1, q2⟩ := tiled_ok rd S ih fs (o + P.cellsOf f.type) N hS.2 ht.2 hN fun g hg => hm g (by simp [hg])
    rw [ht.1] at p2 p3
    have l1 : ds1.length = P.cellsOf f.type := by rw [p2.length, p3]
    refine ⟨ds1 ++ ds2, ?_, fun g hg => ?_⟩
    · have : cs.drop o = (cs.drop o).take (P.cellsOf f.type) ++ cs.drop (o + P.cellsOf f.type) := by
        rw [← List.drop_drop, List.take_append_drop]
      rw [this]
      exact p2.append q1
    · rcases List.mem_cons.1 hg with rfl | hg
      · refine ⟨by omega, ?_⟩
        rw [ht.1, Nat.sub_self, List.drop_zero, List.take_append_of_le_length (by omega), ← l1, List.take_length]
        exact p1
      · obtain ⟨g1, g2⟩ := q2 g hg
        refine ⟨by omega, ?_⟩
        rw [List.drop_append, List.drop_eq_nil_of_le (by omega), List.nil_append, l1, show g.offset - o - P.cellsOf f.type = g.offset - (o + P.cellsOf f.type) by omega]
        exact g2

/-- Elements of an array, one by one. -/
theorem rows_ok {n m sz : Nat} {e : TypeId} {cs : List Value} (hl : cs.length = m * sz) (ih : ∀ i, i < m → ∃ ds, HasTy P n e ds ∧ Plain w ds ((cs.drop (i * sz)).take sz) ∧ ((cs.drop (i * sz)).take sz).length = sz) :
    ∀ k, k ≤ m → ∃ ds, Plain w ds (cs.take (k * sz)) ∧ ds.length = k * sz ∧ ∀ i, i < k → HasTy P n e ((ds.drop (i * sz)).take sz)
  | 0, _ => ⟨[], by simp [Plain, VL, rbL], by simp, fun i hi => by omega⟩
  | k + 1, hk => by
    obtain ⟨ds, h1, h2, h3⟩ := rows_ok hl ih k (by omega)
    obtain ⟨es, g1, g2, g3⟩ := ih k (by omega)
    have le : es.length = sz := by rw [g2.length, g3]
    refine ⟨ds ++ es, ?_, by rw [List.length_append, h2, le, Nat.add_mul, Nat.one_mul], fun i hi => ?_⟩
    · have : cs.take ((k + 1) * sz) = cs.take (k * sz) ++ (cs.drop (k * sz)).take sz := by
        rw [Nat.add_mul, Nat.one_mul, List.take_add]
      rw [this]
      exact h1.append g2
    · by_cases e1 : i < k
      · have hle : i * sz + sz ≤ k * sz := by
          have : (i + 1) * sz ≤ k * sz := Nat.mul_le_mul_right sz (by omega)
          rwa [Nat.add_mul, Nat.one_mul] at this
        rw [List.drop_append_of_le_length (by omega), List.take_append_of_le_length (by rw [List.length_drop]; omega)]
        exact h3 i e1
      · obtain rfl : i = k := by omega
        rw [List.drop_append, List.drop_eq_nil_of_le (by omega), List.nil_append, h2, Nat.sub_self, List.drop_zero, ← le, List.take_length]
        exact g1

theorem read_ok {H : Type} {enc : TypeId × Value → H} {base : Nat} {sp : Nat → Bool} {held : Bool} {S : List TypeId} (hS : closedB P S = true) : ∀ (fuel : Nat) (t : TypeId) (cs : List Value) (x : DataW H × List MemPlace), S.contains t = true →
    DataW.trod enc P w base sp held fuel t cs = some x → ∃ ds, HasTy P fuel t ds ∧ Plain w ds cs ∧ cs.length = P.cellsOf t
  | 0, t, cs, x, _, h => by simp [DataW.trod] at h
  | n + 1, t, cs, x, ht, h => by
    have hc := List.all_eq_true.1 hS t (List.contains_iff_mem.1 ht)
    have ih : ∀ t cs x, S.contains t = true → DataW.trod enc P w base sp held n t cs = some x → ∃ ds, HasTy P n t ds ∧ Plain w ds cs ∧ cs.length = P.cellsOf t := fun t cs x => read_ok hS n t cs x
    unfold HasTy
    cases hu : P.underlying t with
    | none => simp [hu] at hc
    | some dsc =>
    rw [hu] at hc
    cases dsc <;> simp only [Bool.false_eq_true] at hc
    case bool =>
      obtain ⟨b, rfl, _⟩ := DataW.trod_bool hu h
      exact ⟨[.bool b], ⟨b, rfl⟩, ⟨VL.single (by simp [V]), rfl, rfl⟩, (beq_iff_eq.1 hc).symm⟩
    case int k =>
      obtain ⟨z, rfl, _, hw⟩ := DataW.trod_int hu h
      exact ⟨[.int k z], ⟨z, rfl, hw⟩, ⟨VL.single (by simp [V]), rfl, rfl⟩, (beq_iff_eq.1 hc).symm⟩
    case string =>
      obtain ⟨s, rfl, _, hw⟩ := DataW.trod_string hu h
      refine ⟨[.str s.data.toList], ⟨_, rfl, by rw [Array.length_toList]; exact hw⟩, ⟨VL.single ?_, rfl, rfl⟩, (beq_iff_eq.1 hc).symm⟩
      simp only [V]
    case slice e =>
      simp only [Bool.and_eq_true, beq_iff_eq] at hc
      rcases DataW.trod_slice hu h with ⟨rfl, _⟩ | ⟨a, len, cap, elems, rest, m, hm, rfl, _, hb, hle, hcap, hel, hi, _⟩
      · exact ⟨[.nils], .inl rfl, ⟨VL.single (by simp [V]), rfl, rfl⟩, by simpa using hc.2.symm⟩
      · obtain rfl : n = m := by omega
        obtain ⟨xs, l1, l2⟩ := list_exists (Q := fun i (x : List D) => x.length = P.cellsOf e ∧ HasTy P n e x ∧ VA w.cell? (fun _ => False) x a (i * P.cellsOf e)) len fun i hlt => by
          have h1 := hi i hlt
          have h2 : elems[i]? = some (elems[i]'(by omega)) := List.getElem?_eq_getElem (by omega)
          rw [h2] at h1
          simp only [Option.bind_eq_some_iff] at h1
          obtain ⟨ci, h3, h4⟩ := h1
          obtain ⟨ds, g1, g2, g3⟩ := ih e ci _ hc.1 h4
          obtain ⟨c1, c2⟩ := cells_get h3
          refine ⟨ds, by rw [g2.length, g3], g1, g2.VA fun j hj => ?_⟩
          obtain ⟨v, p1, p2⟩ := c2 j (by omega)
          exact ⟨v, p1, by rw [← add_add]; exact p2⟩
        refine ⟨[.vs xs (cap == len)], .inr ⟨xs, _, rfl, by omega, fun x hx => ?_⟩, ⟨VL.single ?_, rfl, rfl⟩, by simpa using hc.2.symm⟩
        · obtain ⟨i, hi2⟩ := List.mem_iff_getElem?.1 hx
          exact (l2 i x hi2).2.1
        · simp only [V]
          refine ⟨a, cap, P.cellsOf e, by rw [l1], by omega, fun hq => by simpa [l1] using hq, VE.of_get fun i x hx => ?_⟩
          obtain ⟨p1, _, p3⟩ := l2 i x hx
          exact ⟨p1, by simpa using p3⟩
    case struct fs =>
      simp only [Bool.and_eq_true] at hc
      obtain ⟨xs, m, hm, _, hl, hlen, hf⟩ := DataW.trod_struct hu h
      obtain rfl : n = m := by omega
      obtain ⟨ds, p1, p2⟩ := tiled_ok (P := P) (w := w) (n := n) (cs := cs) (fun t cs => DataW.trod enc P w base sp held n t cs) S ih fs.toList 0 (P.cellsOf t) hc.1 hc.2 hl fun f hfm => by
        obtain ⟨i, hi⟩ := List.mem_iff_getElem?.1 hfm
        have hi' : fs[i]? = some f := by simpa using hi
        have := hf i f hi'
        have hlt : i < xs.length := by rw [hlen]; exact (Array.getElem?_eq_some_iff.1 hi').1
        exact ⟨xs[i], by rw [this]; exact List.getElem?_eq_getElem hlt⟩
      rw [List.drop_zero] at p1
      refine ⟨ds, ⟨by rw [p1.length, hl], fun f hfm => ?_⟩, p1, hl⟩
      have := (p2 f hfm).2
      rwa [Nat.sub_zero] at this
    case array m e =>
      simp only [Bool.and_eq_true, beq_iff_eq] at hc
      obtain ⟨xs, m', hm, _, hl, hlen, hf⟩ := DataW.trod_array hu h
      obtain rfl : n = m' := by omega
      have hl2 : cs.length = m * P.cellsOf e := by rw [hl, hc.2]
      obtain ⟨ds, p1, p2, p3⟩ := rows_ok (P := P) (w := w) (n := n) (e := e) hl2 (fun i hlt => by
        have h1 := hf i hlt
        have h2 : xs[i]? = some (xs[i]'(by omega)) := List.getElem?_eq_getElem (by omega)
        rw [h2] at h1
        exact ih e _ _ hc.1 h1) m (Nat.le_refl m)
      rw [← hl2, List.take_length] at p1
      exact ⟨ds, ⟨by rw [p1.length, hl], p3⟩, p1, hl⟩

theorem HasTy.str {n : Nat} {t : TypeId} {ds : List D} (hu : P.underlying t = some .string) (h : HasTy P n t ds) : ∃ l : List UInt8, ds = [.str l] ∧ l.length ≤ maxLen := by
  cases n with
  | zero => exact h.elim
  | succ n => unfold HasTy at h; rw [hu] at h; exact h
theorem HasTy.int {n : Nat} {t : TypeId} {k : IntKind} {ds : List D} (hu : P.underlying t = some (.int k)) (h : HasTy P n t ds) : ∃ z, ds = [.int k z] ∧ (Lit.int k z).wf = true := by
  cases n with
  | zero => exact h.elim
  | succ n => unfold HasTy at h; rw [hu] at h; exact h
theorem HasTy.bool {n : Nat} {t : TypeId} {ds : List D} (hu : P.underlying t = some .bool) (h : HasTy P n t ds) : ∃ b, ds = [.bool b] := by
  cases n with
  | zero => exact h.elim
  | succ n => unfold HasTy at h; rw [hu] at h; exact h
theorem HasTy.slice {n : Nat} {t e : TypeId} {ds : List D} (hu : P.underlying t = some (.slice e)) (h : HasTy P n t ds) : ds = [.nils] ∨ ∃ m xs c, n = m + 1 ∧ ds = [.vs xs c] ∧ xs.length ≤ maxLen ∧ ∀ x ∈ xs, HasTy P m e x := by
  cases n with
  | zero => exact h.elim
  | succ n =>
    unfold HasTy at h
    rw [hu] at h
    exact h.imp id fun ⟨xs, c, h⟩ => ⟨n, xs, c, rfl, h⟩
theorem HasTy.struct {n : Nat} {t : TypeId} {fs : Array Field} {ds : List D} (hu : P.underlying t = some (.struct fs)) (h : HasTy P n t ds) : ∃ m, n = m + 1 ∧ ds.length = P.cellsOf t ∧ ∀ (i : Nat) (f : Field), fs[i]? = some f → HasTy P m f.type ((ds.drop f.offset).take (P.cellsOf f.type)) := by
  cases n with
  | zero => exact h.elim
  | succ n =>
    unfold HasTy at h
    rw [hu] at h
    exact ⟨n, rfl, h.1, fun i f hf => h.2 f (Array.mem_toList_iff.2 (Array.mem_of_getElem? hf))⟩
end Go.Dn

