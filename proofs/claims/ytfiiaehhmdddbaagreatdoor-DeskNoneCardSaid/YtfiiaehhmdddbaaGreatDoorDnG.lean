/-
  What the functions come to.
-/
import Derived.Test.YtfiiaehhmdddbaaGreatDoorDnD
import Derived.Test.YtfiiaehhmdddbaaGreatDoorDnF
import Derived.Test.YtfiiaehhmdddbaaGreatDoorDnC
set_option linter.all false
open Go Go.Dn Go.Proofs
namespace Go.Dn
/-! tabulary/tabularylaw14.Small -/
noncomputable def f13L0 (call : CallFn) (base fuel : Nat) : Nat → D → D → D → D → H → Option (D × H)
  | 0, _, _, _, _, _ => none
  | k + 1, t1, t7, t8, t9, h =>
  (binD An false .lss 3 t9 t8).bind fun t10 =>
  condD t10 (
  (indexAddrD An 25 t7 t9).bind fun t11 =>
  (loadD An h 93 t11).bind fun t12 =>
  (allocO An h 93).bind fun h1 =>
  (storeD An base h1 93 (.ptr (List.length h) 0 0) t12).bind fun h1x1 =>
  (fieldAddrD An 93 3 (.ptr (List.length h) 0 0)).bind fun t14 =>
  (loadD An h1x1 9 t14).bind fun t15 =>
  (lenO An 9 t15).bind fun t16 =>
  (fieldAddrD An 93 0 (.ptr (List.length h) 0 0)).bind fun t17 =>
  (loadD An h1x1 9 t17).bind fun t18 =>
  (lenO An 9 t18).bind fun t19 =>
  (binD An false .add 3 t16 t19).bind fun t20 =>
  (fieldAddrD An 93 1 (.ptr (List.length h) 0 0)).bind fun t21 =>
  (loadD An h1x1 9 t21).bind fun t22 =>
  (lenO An 9 t22).bind fun t23 =>
  (binD An false .add 3 t20 t23).bind fun t24 =>
  (binD An true .quo 3 t24 (.int .i64 50)).bind fun t25 =>
  (binD An true .add 3 (.int .i64 1) t25).bind fun t26 =>
  (fieldAddrD An 93 2 (.ptr (List.length h) 0 0)).bind fun t27 =>
  (loadD An h1x1 91 t27).bind fun t28 =>
  (lenO An 91 t28).bind fun t29 =>
  (binD An false .add 3 t26 t29).bind fun t30 =>
  (binD An false .sub 3 t1 t30).bind fun t31 =>
  (binD An true .lss 3 t31 (.int .i64 0)).bind fun t33 =>
  condD t33 (
  some (t31, h1x1)) (
  (fieldAddrD An 93 4 (.ptr (List.length h) 0 0)).bind fun t35 =>
  (loadD An h1x1 25 t35).bind fun t36 =>
  (call 13 base 13 [t36, t31] h1x1).bind fun pt38 =>
  (binD An true .add 3 t9 (.int .i64 1)).bind fun t39 =>
  (f13L0 call base fuel k) pt38.1 t7 t8 t39 pt38.2)) (
  some (t1, h))
noncomputable def f13 (call : CallFn) (base fuel : Nat) (t0 t1 : D) (h : H) : Option (D × H) :=
  (lenO An 25 t0).bind fun t8 =>
  f13L0 call base fuel fuel t1 t0 t8 (.int .i64 0) h
theorem f13_eq (call : CallFn) (base fuel : Nat) (t0 t1 : D) (h : H) : bodyD An Fn call fuel 13 base [t0, t1] h = f13 call base fuel t0 t1 h :=
  (bodyD_eq (F := Fn) (by kernel_rfl : Fn 13 = some Tryz.f13) (by kernel_rfl : Tryz.f13.body = some (bodyOf Tryz.f13)) (by kernel_rfl)).trans
  (((seq_at (seq_at (fun _ _ => rfl) (seq_at (block_at (loop_at (n := 41) (L := fun k e h => f13L0 call base fuel k (e.get 1) (e.get 7) (e.get 8) (e.get 9) h) (by kernel_rfl) (fun _ _ => rfl) (fun k0 e h => ((fun _ _ => rfl) e h).trans (by kernel_rfl)))) (fun _ _ => rfl))) (fun _ _ => rfl)) _ _).trans (by kernel_rfl))

end Go.Dn

open Go Go.Dn Go.Proofs
namespace Go.Dn
/-! tabulary/tabularylaw20.DeskNone -/
noncomputable def f8 (call : CallFn) (base fuel : Nat) (t0 t1 : D) (h : H) : Option (D × H) :=
  (boxO false true h t1).bind fun pt3 =>
  (call 8 base 11 [] pt3.2).bind fun pt10 =>
  (unD .not pt10.1).bind fun t11 =>
  condD t11 (
  some ((.bool false), pt10.2)) (
  (fieldAddrD An 43 5 pt3.1).bind fun t12 =>
  (loadD An pt10.2 25 t12).bind fun t13 =>
  (call 8 base 13 [t13, (.int .i64 150)] pt10.2).bind fun pt14 =>
  (binD An true .lss 3 pt14.1 (.int .i64 0)).bind fun t15 =>
  (guardO (boolIs t15 false) pt14.2 ((fieldAddrD An 43 10 pt3.1).bind fun d => some (d, pt14.2))).bind fun pt17 =>
  (guardO (boolIs t15 false) pt17.2 ((loadD An pt17.2 25 pt17.1).bind fun d => some (d, pt17.2))).bind fun pt18 =>
  (guardO (boolIs t15 false) pt18.2 (call 8 base 13 [pt18.1, (.int .i64 150)] pt18.2)).bind fun pt19 =>
  (guardO (boolIs t15 false) pt19.2 ((binD An true .lss 3 pt19.1 (.int .i64 0)).bind fun d => some (d, pt19.2))).bind fun pt20 =>
  (pickO t15 (some (.bool true)) (some pt20.1)).bind fun t21 =>
  condD t21 (
  some ((.bool true), pt20.2)) (
  (buildD An 32 [(0, t0)]).bind fun t23 =>
  (allocO An pt20.2 32).bind fun h1 =>
  (storeD An base h1 32 (.ptr (List.length pt20.2) 0 0) t23).bind fun h1x1 =>
  (call 8 base 23 [.nilp, t0] h1x1).bind fun pt26 =>
  (call 8 base 20 [.nilp] pt26.2).bind fun pt28 =>
  (loadD An pt28.2 32 (.ptr (List.length pt20.2) 0 0)).bind fun t31 =>
  (fieldAddrD An 43 9 pt3.1).bind fun t33 =>
  (loadD An pt28.2 4 t33).bind fun t34 =>
  (fieldAddrD An 43 10 pt3.1).bind fun t35 =>
  (loadD An pt28.2 25 t35).bind fun t36 =>
  (call 8 base 27 [.nilp, t31, t0, t34, t36] pt28.2).bind fun pt37 =>
  (extrO pt37.1 0).bind fun t38 =>
  (extrO pt37.1 1).bind fun t39 =>
  (loadD An pt37.2 32 (.ptr (List.length pt20.2) 0 0)).bind fun t41 =>
  (loadD An pt37.2 43 pt3.1).bind fun t42 =>
  (call 8 base 15 [.nilp, t41, t42] pt37.2).bind fun pt43 =>
  (lenO An 33 t38).bind fun t45 =>
  (call 8 base 14 [.nilp, t0] pt43.2).bind fun pt48 =>
  (lenO An 33 pt48.1).bind fun t49 =>
  (binD An false .add 3 t45 t49).bind fun t50 =>
  (call 8 base 24 [.nilp, t0] pt48.2).bind fun pt53 =>
  (binD An false .add 3 t50 pt53.1).bind fun t54 =>
  (call 8 base 21 [.nilp] pt53.2).bind fun pt56 =>
  (binD An false .add 3 t54 pt56.1).bind fun t57 =>
  (binD An true .eql 3 t57 (.int .i64 0)).bind fun t58 =>
  (guardO (boolIs t58 true) pt56.2 (some (t39, pt56.2))).bind fun pt60 =>
  (guardO (boolIs t58 true) pt60.2 ((binD An true .eql 44 pt60.1 (.int .i64 1)).bind fun d => some (d, pt60.2))).bind fun pt61 =>
  (pickO t58 (some pt61.1) (some (.bool false))).bind fun t62 =>
  (guardO (boolIs t62 true) pt61.2 (some (pt43.1, pt61.2))).bind fun pt64 =>
  (guardO (boolIs t62 true) pt64.2 (builtinD An false base pt64.2 .len [40] [pt64.1])).bind fun pt65 =>
  (guardO (boolIs t62 true) pt65.2 ((binD An true .eql 3 pt65.1 (.int .i64 1)).bind fun d => some (d, pt65.2))).bind fun pt66 =>
  (pickO t62 (some pt66.1) (some (.bool false))).bind fun t67 =>
  (guardO (boolIs t67 true) pt66.2 (some (pt43.1, pt66.2))).bind fun pt69 =>
  (guardO (boolIs t67 true) pt69.2 ((indexAddrD An 40 pt69.1 (.int .i64 0)).bind fun d => some (d, pt69.2))).bind fun pt70 =>
  (guardO (boolIs t67 true) pt70.2 ((loadD An pt70.2 44 pt70.1).bind fun d => some (d, pt70.2))).bind fun pt71 =>
  (guardO (boolIs t67 true) pt71.2 ((binD An true .eql 44 pt71.1 (.int .i64 23)).bind fun d => some (d, pt71.2))).bind fun pt72 =>
  (pickO t67 (some pt72.1) (some (.bool false))).bind fun t73 =>
  (guardO (boolIs t73 true) pt72.2 (some (.nilp, pt72.2))).bind fun pt75 =>
  (guardO (boolIs t73 true) pt75.2 ((loadD An pt75.2 32 (.ptr (List.length pt20.2) 0 0)).bind fun d => some (d, pt75.2))).bind fun pt76 =>
  (guardO (boolIs t73 true) pt76.2 ((loadD An pt76.2 43 pt3.1).bind fun d => some (d, pt76.2))).bind fun pt77 =>
  (guardO (boolIs t73 true) pt77.2 (call 8 base 28 [pt75.1, pt76.1, pt77.1] pt77.2)).bind fun pt78 =>
  (guardO (boolIs t73 true) pt78.2 ((binD An true .eql 44 pt78.1 (.int .i64 23)).bind fun d => some (d, pt78.2))).bind fun pt79 =>
  (pickO t73 (some pt79.1) (some (.bool false))).bind fun t80 =>
  (guardO (boolIs t80 true) pt79.2 (some (.nilp, pt79.2))).bind fun pt82 =>
  (guardO (boolIs t80 true) pt82.2 ((loadD An pt82.2 32 (.ptr (List.length pt20.2) 0 0)).bind fun d => some (d, pt82.2))).bind fun pt83 =>
  (guardO (boolIs t80 true) pt83.2 (some (t0, pt83.2))).bind fun pt84 =>
  (guardO (boolIs t80 true) pt84.2 (call 8 base 29 [pt82.1, pt83.1, pt84.1] pt84.2)).bind fun pt85 =>
  (guardO (boolIs t80 true) pt85.2 ((binD An true .eql 44 pt85.1 (.int .i64 23)).bind fun d => some (d, pt85.2))).bind fun pt86 =>
  (pickO t80 (some pt86.1) (some (.bool false))).bind fun t87 =>
  (guardO (boolIs t87 true) pt86.2 (some (.nilp, pt86.2))).bind fun pt89 =>
  (guardO (boolIs t87 true) pt89.2 ((loadD An pt89.2 32 (.ptr (List.length pt20.2) 0 0)).bind fun d => some (d, pt89.2))).bind fun pt90 =>
  (guardO (boolIs t87 true) pt90.2 (some (t0, pt90.2))).bind fun pt91 =>
  (guardO (boolIs t87 true) pt91.2 (call 8 base 22 [pt89.1, pt90.1, pt91.1] pt91.2)).bind fun pt92 =>
  (guardO (boolIs t87 true) pt92.2 ((binD An true .eql 44 pt92.1 (.int .i64 1)).bind fun d => some (d, pt92.2))).bind fun pt93 =>
  (pickO t87 (some pt93.1) (some (.bool false))).bind fun t94 =>
  (guardO (boolIs t94 true) pt93.2 (some (.nilp, pt93.2))).bind fun pt96 =>
  (guardO (boolIs t94 true) pt96.2 ((loadD An pt96.2 32 (.ptr (List.length pt20.2) 0 0)).bind fun d => some (d, pt96.2))).bind fun pt97 =>
  (guardO (boolIs t94 true) pt97.2 (some (t0, pt97.2))).bind fun pt98 =>
  (guardO (boolIs t94 true) pt98.2 (call 8 base 30 [pt96.1, pt97.1, pt98.1] pt98.2)).bind fun pt99 =>
  (guardO (boolIs t94 true) pt99.2 ((binD An true .eql 44 pt99.1 (.int .i64 1)).bind fun d => some (d, pt99.2))).bind fun pt100 =>
  (pickO t94 (some pt100.1) (some (.bool false))).bind fun t101 =>
  (guardO (boolIs t101 true) pt100.2 (some (.nilp, pt100.2))).bind fun pt103 =>
  (guardO (boolIs t101 true) pt103.2 ((loadD An pt103.2 32 (.ptr (List.length pt20.2) 0 0)).bind fun d => some (d, pt103.2))).bind fun pt104 =>
  (guardO (boolIs t101 true) pt104.2 ((loadD An pt104.2 43 pt3.1).bind fun d => some (d, pt104.2))).bind fun pt105 =>
  (guardO (boolIs t101 true) pt105.2 (call 8 base 17 [pt103.1, pt104.1, pt105.1] pt105.2)).bind fun pt106 =>
  (guardO (boolIs t101 true) pt106.2 ((binD An true .eql 44 pt106.1 (.int .i64 1)).bind fun d => some (d, pt106.2))).bind fun pt107 =>
  (pickO t101 (some pt107.1) (some (.bool false))).bind fun t108 =>
  (guardO (boolIs t108 true) pt107.2 (some (.nilp, pt107.2))).bind fun pt110 =>
  (guardO (boolIs t108 true) pt110.2 ((loadD An pt110.2 32 (.ptr (List.length pt20.2) 0 0)).bind fun d => some (d, pt110.2))).bind fun pt111 =>
  (guardO (boolIs t108 true) pt111.2 ((fieldAddrD An 43 14 pt3.1).bind fun d => some (d, pt111.2))).bind fun pt112 =>
  (guardO (boolIs t108 true) pt112.2 ((loadD An pt112.2 9 pt112.1).bind fun d => some (d, pt112.2))).bind fun pt113 =>
  (guardO (boolIs t108 true) pt113.2 (call 8 base 31 [pt110.1, pt111.1, pt113.1] pt113.2)).bind fun pt114 =>
  (guardO (boolIs t108 true) pt114.2 ((binD An true .eql 44 pt114.1 (.int .i64 8)).bind fun d => some (d, pt114.2))).bind fun pt115 =>
  (pickO t108 (some pt115.1) (some (.bool false))).bind fun t116 =>
  (guardO (boolIs t116 true) pt115.2 (some (.nilp, pt115.2))).bind fun pt118 =>
  (guardO (boolIs t116 true) pt118.2 ((loadD An pt118.2 32 (.ptr (List.length pt20.2) 0 0)).bind fun d => some (d, pt118.2))).bind fun pt119 =>
  (guardO (boolIs t116 true) pt119.2 (call 8 base 32 [pt118.1, pt119.1] pt119.2)).bind fun pt120 =>
  (guardO (boolIs t116 true) pt120.2 ((binD An true .eql 44 pt120.1 (.int .i64 1)).bind fun d => some (d, pt120.2))).bind fun pt121 =>
  (pickO t116 (some pt121.1) (some (.bool false))).bind fun t122 =>
  (guardO (boolIs t122 true) pt121.2 (some (.nilp, pt121.2))).bind fun pt124 =>
  (guardO (boolIs t122 true) pt124.2 ((loadD An pt124.2 32 (.ptr (List.length pt20.2) 0 0)).bind fun d => some (d, pt124.2))).bind fun pt125 =>
  (guardO (boolIs t122 true) pt125.2 ((loadD An pt125.2 43 pt3.1).bind fun d => some (d, pt125.2))).bind fun pt126 =>
  (guardO (boolIs t122 true) pt126.2 (call 8 base 33 [pt124.1, pt125.1, pt126.1] pt126.2)).bind fun pt127 =>
  (guardO (boolIs t122 true) pt127.2 ((binD An true .eql 44 pt127.1 (.int .i64 1)).bind fun d => some (d, pt127.2))).bind fun pt128 =>
  (pickO t122 (some pt128.1) (some (.bool false))).bind fun t129 =>
  some (t129, pt128.2)))
theorem f8_eq (call : CallFn) (base fuel : Nat) (t0 t1 : D) (h : H) : bodyD An Fn call fuel 8 base [t0, t1] h = f8 call base fuel t0 t1 h :=
  (bodyD_eq (F := Fn) (by kernel_rfl : Fn 8 = some Tryz.f8) (by kernel_rfl : Tryz.f8.body = some (bodyOf Tryz.f8)) (by kernel_rfl)).trans
  (((fun _ _ => rfl) _ _).trans (by kernel_rfl))

end Go.Dn

open Go Go.Dn Go.Proofs
namespace Go.Dn
/-- What a string, a slice may have. -/
def maxL : Nat := 9223372036854775807
inductive Ats : D → Prop
  | nils : Ats .nils
  | vs (xs : List (List D)) (c : Bool) : xs.length ≤ maxL → (∀ x ∈ xs, ∃ n v : List UInt8, x = [.str n, .str v] ∧ n.length ≤ maxL ∧ v.length ≤ maxL) → Ats (.vs xs c)
mutual
inductive El : List D → Prop
  | mk (sp nm tx : List UInt8) (at_ kids : D) : sp.length ≤ maxL → nm.length ≤ maxL → tx.length ≤ maxL → Ats at_ → Els kids → El [.str sp, .str nm, at_, .str tx, kids]
inductive Els : D → Prop
  | nils : Els .nils
  | vs (xs : List (List D)) (c : Bool) : xs.length ≤ maxL → (∀ x ∈ xs, El x) → Els (.vs xs c)
end
noncomputable abbrev LL : CallFn := Lim An Fn

theorem Ats.len {d : D} (h : Ats d) : ∃ n : Nat, lenS d = some n ∧ n ≤ maxL := by
  cases h with
  | nils => exact ⟨0, rfl, Nat.zero_le _⟩
  | vs xs c h1 h2 => exact ⟨xs.length, rfl, h1⟩
theorem Els.len {d : D} (h : Els d) : ∃ n : Nat, lenS d = some n ∧ n ≤ maxL := by
  cases h with
  | nils => exact ⟨0, rfl, Nat.zero_le _⟩
  | vs xs c h1 h2 => exact ⟨xs.length, rfl, h1⟩
theorem Ats.rb {d : D} (h : Ats d) : rb 0 d = true := by cases h <;> simp
theorem Els.rb {d : D} (h : Els d) : rb 0 d = true := by cases h <;> simp
theorem Ats.okc {d : D} (h : Ats d) : d.okc = true := by cases h <;> simp
theorem Els.okc {d : D} (h : Els d) : d.okc = true := by cases h <;> simp

theorem small_loop (fu : Nat) (xs : List (List D)) (c : Bool) (hl : xs.length ≤ maxL) (hx : ∀ x ∈ xs, El x)
    (ih : ∀ sp nm tx at_ kids, [.str sp, .str nm, at_, .str tx, kids] ∈ xs → Els kids → ∀ n : Int, ∃ m : Int, ∀ f b h, LL f b 13 [kids, .int .i64 n] h = some (.int .i64 m, h)) :
    ∀ (j i k : Nat) (n : Int) (h : H), j + i = xs.length → j < k → ∃ m h', f13L0 LL 0 fu k (.int .i64 n) (.vs xs c) (.int .i64 xs.length) (.int .i64 i) h = some (.int .i64 m, h') := by
  have hmx : maxL = 9223372036854775807 := rfl
  intro j
  induction j with
  | zero =>
    intro i k n h hi hk
    obtain ⟨k, rfl⟩ : ∃ k', k = k' + 1 := ⟨k - 1, by omega⟩
    refine ⟨n, h, ?_⟩
    have : ¬ ((i : Int) < xs.length) := by omega
    simp [f13L0, this]
  | succ j ihj =>
    intro i k n h hi hk
    obtain ⟨k, rfl⟩ : ∃ k', k = k' + 1 := ⟨k - 1, by omega⟩
    have hlt : i < xs.length := by omega
    have hlt' : ((i : Int) < xs.length) := by omega
    have hm : xs[i] ∈ xs := List.getElem_mem hlt
    have he := hx _ hm
    have hg : xs[i]? = some xs[i] := by simp [hlt]
    revert hm
    generalize hxi : xs[i] = x at *
    intro hm
    cases he with
    | mk sp nm tx at_ kids hsp hnm htx hat hkids =>
    obtain ⟨na, hna, hna'⟩ := hat.len
    have e7 : IntKind.i64.wrap ((i : Int) + 1) = ((i + 1 : Nat) : Int) := by rw [wrap_fits (by unfold Fits; omega)]; omega
    simp [f13L0, hlt', hg, hna, e7, -Int.natCast_add]
    generalize IntKind.i64.wrap (n - _) = n'
    by_cases hneg : n' < 0
    · simp only [hneg, if_true]
      exact ⟨_, _, rfl⟩
    · simp only [hneg, if_false]
      obtain ⟨m, hcall⟩ := ih sp nm tx at_ kids hm hkids n'
      obtain ⟨m', h', g3⟩ := ihj (i + 1) k m _ (by omega) (by omega)
      exact ⟨m', h', by rw [hcall]; exact g3⟩

theorem small_ok : ∀ (N : Nat) (d : D), SizeOf.sizeOf d ≤ N → Els d → ∀ n : Int, ∃ m : Int, ∀ f b h, LL f b 13 [d, .int .i64 n] h = some (.int .i64 m, h) := by
  intro N
  induction N with
  | zero => intro d hd; cases d <;> simp at hd
  | succ N ih =>
    intro d hd he n
    have key : ∃ m h', ∃ k, f13 LL 0 k d (.int .i64 n) [] = some (.int .i64 m, h') := by
      cases he with
      | nils => exact ⟨n, [], 1, by simp [f13, f13L0]⟩
      | vs xs c h1 h2 =>
        have hz : ∀ sp nm tx at_ kids, [.str sp, .str nm, at_, .str tx, kids] ∈ xs → Els kids → ∀ n : Int, ∃ m : Int, ∀ f b h, LL f b 13 [kids, .int .i64 n] h = some (.int .i64 m, h) := by
          intro sp nm tx at_ kids hm hk
          refine ih kids ?_ hk
          have s1 := List.sizeOf_lt_of_mem hm
          simp at s1 hd
          omega
        have hl : f13 LL 0 (xs.length + 1) (.vs xs c) (.int .i64 n) [] = f13L0 LL 0 (xs.length + 1) (xs.length + 1) (.int .i64 n) (.vs xs c) (.int .i64 xs.length) (.int .i64 (0 : Nat)) [] := by simp [f13]
        obtain ⟨m, h', g⟩ := small_loop (xs.length + 1) xs c h1 h2 hz xs.length 0 (xs.length + 1) n [] (by omega) (by omega)
        exact ⟨m, h', xs.length + 1, by rw [hl]; exact g⟩
    obtain ⟨m, h', k, hb⟩ := key
    refine ⟨m, fun f b h => Lim_auto' (fuel := k) (h' := h') (by kernel_rfl) ?_ ?_ rfl⟩
    · simp [he.rb]
    · rw [f13_eq]; exact hb
end Go.Dn

open Go Go.Dn Go.Proofs
namespace Go.Dn
theorem nil_leave (i : Int) (f b : Nat) (h : H) : LL f b 23 [.nilp, .int .i64 i] h = some (.tup [], h) :=
  Lim_pure (fuel := 3) (by kernel_rfl) rfl (by kernel_rfl) rfl
theorem nil_tick (f b : Nat) (h : H) : LL f b 20 [.nilp] h = some (.tup [], h) :=
  Lim_pure (fuel := 3) (by kernel_rfl) rfl (by kernel_rfl) rfl
theorem nil_store (i : Int) (f b : Nat) (h : H) : LL f b 14 [.nilp, .int .i64 i] h = some (.nils, h) :=
  Lim_pure (fuel := 3) (by kernel_rfl) rfl (by kernel_rfl) rfl
theorem nil_holder (i : Int) (f b : Nat) (h : H) : LL f b 24 [.nilp, .int .i64 i] h = some (.int .i64 0, h) :=
  Lim_pure (fuel := 3) (by kernel_rfl) rfl (by kernel_rfl) rfl
theorem nil_until (f b : Nat) (h : H) : LL f b 21 [.nilp] h = some (.int .i64 0, h) :=
  Lim_pure (fuel := 3) (by kernel_rfl) rfl (by kernel_rfl) rfl
theorem nil_get (i j : Int) (x : Bool) (d : D) (hd : rb 0 d = true) (f b : Nat) (h : H) : LL f b 27 [.nilp, .agg [.int .i64 j, .nils], .int .i64 i, .bool x, d] h = some (.tup [.nils, .int .i64 1], h) :=
  Lim_pure (fuel := 3) (by kernel_rfl) (by simp [hd]) (by kernel_rfl) rfl
theorem nil_delete (i j : Int) (f b : Nat) (h : H) : LL f b 29 [.nilp, .agg [.int .i64 j, .nils], .int .i64 i] h = some (.int .i64 23, h) :=
  Lim_pure (fuel := 3) (by kernel_rfl) (by simp) (by kernel_rfl) rfl
theorem nil_lock (i j : Int) (f b : Nat) (h : H) : LL f b 22 [.nilp, .agg [.int .i64 j, .nils], .int .i64 i] h = some (.int .i64 1, h) :=
  Lim_pure (fuel := 3) (by kernel_rfl) (by simp) (by kernel_rfl) rfl
theorem nil_unlock (i j : Int) (f b : Nat) (h : H) : LL f b 30 [.nilp, .agg [.int .i64 j, .nils], .int .i64 i] h = some (.int .i64 1, h) :=
  Lim_pure (fuel := 3) (by kernel_rfl) (by simp) (by kernel_rfl) rfl
theorem nil_discard (j : Int) (f b : Nat) (h : H) : LL f b 32 [.nilp, .agg [.int .i64 j, .nils]] h = some (.int .i64 1, h) :=
  Lim_pure (fuel := 3) (by kernel_rfl) (by simp) (by kernel_rfl) rfl
theorem nil_cancel (j : Int) (s : List UInt8) (f b : Nat) (h : H) : LL f b 31 [.nilp, .agg [.int .i64 j, .nils], .str s] h = some (.int .i64 8, h) :=
  Lim_pure (fuel := 3) (by kernel_rfl) (by simp) (by kernel_rfl) rfl
section
variable (a b' o1 o2 o3 o4 o5 : List UInt8) (tg sr df te oe ti se : Int) (inl fi co : Bool) (cf ft : D) (h1 : Els cf) (h2 : Els ft)
def rpc : List D := [.str o1, .str o2, .int .i64 tg, .int .i64 sr, .bool inl, cf, .int .i64 df, .int .i64 te, .int .i64 oe, .bool fi, ft, .bool co, .int .i64 ti, .str o3, .str o4, .int .i64 se]
include h1 h2
theorem rpc_rb : rbL 0 (rpc o1 o2 o3 o4 tg sr df te oe ti se inl fi co cf ft) = true := by simp [rpc, h1.rb, h2.rb]
theorem nil_copy (j : Int) (f b : Nat) (h : H) : LL f b 28 [.nilp, .agg [.int .i64 j, .nils], .agg (rpc o1 o2 o3 o4 tg sr df te oe ti se inl fi co cf ft)] h = some (.int .i64 23, h) :=
  Lim_pure (fuel := 3) (by kernel_rfl) (by simp [rpc_rb, h1, h2]) (by cases h1 <;> cases h2 <;> kernel_rfl) rfl
theorem nil_commit (j : Int) (f b : Nat) (h : H) : LL f b 17 [.nilp, .agg [.int .i64 j, .nils], .agg (rpc o1 o2 o3 o4 tg sr df te oe ti se inl fi co cf ft)] h = some (.int .i64 1, h) :=
  Lim_pure (fuel := 3) (by kernel_rfl) (by simp [rpc_rb, h1, h2]) (by cases h1 <;> cases h2 <;> kernel_rfl) rfl
theorem nil_validate (j : Int) (f b : Nat) (h : H) : LL f b 33 [.nilp, .agg [.int .i64 j, .nils], .agg (rpc o1 o2 o3 o4 tg sr df te oe ti se inl fi co cf ft)] h = some (.int .i64 1, h) :=
  Lim_pure (fuel := 3) (by kernel_rfl) (by simp [rpc_rb, h1, h2]) (by cases h1 <;> cases h2 <;> kernel_rfl) rfl
end
end Go.Dn

open Go Go.Dn Go.Proofs
namespace Go.Dn
section
variable (o1 o2 o3 o4 : List UInt8) (tg sr df te oe ti se : Int) (inl fi co : Bool) (cf ft : D) (h1 : Els cf) (h2 : Els ft)
include h1 h2
theorem nil_edit (j : Int) (f b : Nat) (h : H) : LL f b 15 [.nilp, .agg [.int .i64 j, .nils], .agg (rpc o1 o2 o3 o4 tg sr df te oe ti se inl fi co cf ft)] h = some (.vs [[.int .i64 23]] true, h) :=
  Lim_den (n := 4) (by kernel_rfl) (by simp [rpc_rb, h1, h2]) (by cases h1 <;> cases h2 <;> kernel_rfl) rfl
end
end Go.Dn

open Go Go.Dn Go.Proofs
namespace Go.Dn
section
variable (o1 o2 o3 o4 : List UInt8) (tg sr df te oe ti se : Int) (inl fi co : Bool) (cf ft : D) (h1 : Els cf) (h2 : Els ft)
include h1 h2
theorem none_body (i : Int) : (f8 LL 0 1 (.int .i64 i) (.agg (rpc o1 o2 o3 o4 tg sr df te oe ti se inl fi co cf ft)) []).map Prod.fst = some (.bool true) := by
  obtain ⟨m1, c1⟩ := small_ok _ cf (Nat.le_refl _) h1 150
  obtain ⟨m2, c2⟩ := small_ok _ ft (Nat.le_refl _) h2 150
  have hr := rpc_rb o1 o2 o3 o4 tg sr df te oe ti se inl fi co cf ft h1 h2
  have e1 := nil_copy o1 o2 o3 o4 tg sr df te oe ti se inl fi co cf ft h1 h2
  have e2 := nil_commit o1 o2 o3 o4 tg sr df te oe ti se inl fi co cf ft h1 h2
  have e3 := nil_validate o1 o2 o3 o4 tg sr df te oe ti se inl fi co cf ft h1 h2
  have e4 := nil_edit o1 o2 o3 o4 tg sr df te oe ti se inl fi co cf ft h1 h2
  simp only [rpc] at hr e1 e2 e3 e4
  by_cases n1 : m1 < 0
  · simp [f8, rpc, fit_ok, c1, n1, h1.rb, h2.rb]
  · by_cases n2 : m2 < 0
    · simp [f8, rpc, fit_ok, c1, n1, c2, n2, h1.rb, h2.rb]
    · simp [f8, rpc, fit_ok, c1, n1, c2, n2, h1.rb, h2.rb, nil_leave, nil_tick, nil_get, nil_store, nil_holder, nil_until, nil_delete, nil_lock, nil_unlock, nil_discard, nil_cancel, e1, e2, e3, e4]
theorem none_den (i : Int) : LL 0 0 8 [.int .i64 i, .agg (rpc o1 o2 o3 o4 tg sr df te oe ti se inl fi co cf ft)] [] = some (.bool true, []) :=
  Lim_pure (fuel := 1) (by kernel_rfl) (by simp [rpc_rb, h1, h2]) (by rw [f8_eq]; exact none_body o1 o2 o3 o4 tg sr df te oe ti se inl fi co cf ft h1 h2 i) rfl
end
end Go.Dn

open Go Go.Dn Go.Proofs
namespace Go.Dn
theorem c158 : Tryz.prog.cellsOf 158 = 2 := by kernel_rfl
theorem c93 : Tryz.prog.cellsOf 93 = 5 := by kernel_rfl
theorem c43 : Tryz.prog.cellsOf 43 = 16 := by kernel_rfl
theorem c9 : Tryz.prog.cellsOf 9 = 1 := by kernel_rfl
theorem c3 : Tryz.prog.cellsOf 3 = 1 := by kernel_rfl
theorem c4 : Tryz.prog.cellsOf 4 = 1 := by kernel_rfl
theorem c25 : Tryz.prog.cellsOf 25 = 1 := by kernel_rfl
theorem c91 : Tryz.prog.cellsOf 91 = 1 := by kernel_rfl

theorem len2 {α : Type} {l : List α} (h : l.length = 2) : ∃ a0 a1, l = [a0, a1] := by
  match l, h with
  | [a0, a1], _ => exact ⟨a0, a1, rfl⟩
theorem len5 {α : Type} {l : List α} (h : l.length = 5) : ∃ a0 a1 a2 a3 a4, l = [a0, a1, a2, a3, a4] := by
  match l, h with
  | [a0, a1, a2, a3, a4], _ => exact ⟨a0, a1, a2, a3, a4, rfl⟩
theorem len16 {α : Type} {l : List α} (h : l.length = 16) : ∃ a0 a1 a2 a3 a4 a5 a6 a7 a8 a9 a10 a11 a12 a13 a14 a15, l = [a0, a1, a2, a3, a4, a5, a6, a7, a8, a9, a10, a11, a12, a13, a14, a15] := by
  match l, h with
  | [a0, a1, a2, a3, a4, a5, a6, a7, a8, a9, a10, a11, a12, a13, a14, a15], _ => exact ⟨a0, a1, a2, a3, a4, a5, a6, a7, a8, a9, a10, a11, a12, a13, a14, a15, rfl⟩
theorem ty_ats {n : Nat} {ds : List D} (h : HasTy Tryz.prog n 91 ds) : ∃ d, ds = [d] ∧ Ats d := by
  rcases h.slice Tryz.underlying91 with rfl | ⟨m, xs, c, rfl, rfl, h1, h2⟩
  · exact ⟨_, rfl, .nils⟩
  · refine ⟨_, rfl, .vs xs c h1 fun x hx => ?_⟩
    obtain ⟨k, _, hl, hf⟩ := (h2 x hx).struct Tryz.underlying158
    rw [c158] at hl
    obtain ⟨a, b, rfl⟩ := len2 hl
    · skip
      have f0 : HasTy Tryz.prog k 9 (([a, b].drop 0).take (Tryz.prog.cellsOf 9)) := hf 0 _ rfl
      have f1 : HasTy Tryz.prog k 9 (([a, b].drop 1).take (Tryz.prog.cellsOf 9)) := hf 1 _ rfl
      simp only [c9, List.drop, List.take] at f0 f1
      obtain ⟨l0, e0, g0⟩ := f0.str Tryz.underlying9
      obtain ⟨l1, e1, g1⟩ := f1.str Tryz.underlying9
      simp only [List.cons.injEq, and_true] at e0 e1
      exact ⟨l0, l1, by rw [e0, e1], g0, g1⟩

theorem ty_els : ∀ (N n : Nat), n ≤ N → ∀ {ds : List D}, HasTy Tryz.prog n 25 ds → ∃ d, ds = [d] ∧ Els d
  | 0, n, hn, ds, h => by
    obtain rfl : n = 0 := by omega
    exact h.elim
  | N + 1, n, hn, ds, h => by
    rcases h.slice Tryz.underlying25 with rfl | ⟨m, xs, c, rfl, rfl, h1, h2⟩
    · exact ⟨_, rfl, .nils⟩
    · refine ⟨_, rfl, .vs xs c h1 fun x hx => ?_⟩
      obtain ⟨k, rfl, hl, hf⟩ := (h2 x hx).struct Tryz.underlying93
      rw [c93] at hl
      obtain ⟨a, b, cc, d, e, rfl⟩ := len5 hl
      · skip
        have f0 : HasTy Tryz.prog k 9 (([a, b, cc, d, e].drop 0).take (Tryz.prog.cellsOf 9)) := hf 0 _ rfl
        have f1 : HasTy Tryz.prog k 9 (([a, b, cc, d, e].drop 1).take (Tryz.prog.cellsOf 9)) := hf 1 _ rfl
        have f2 : HasTy Tryz.prog k 91 (([a, b, cc, d, e].drop 2).take (Tryz.prog.cellsOf 91)) := hf 2 _ rfl
        have f3 : HasTy Tryz.prog k 9 (([a, b, cc, d, e].drop 3).take (Tryz.prog.cellsOf 9)) := hf 3 _ rfl
        have f4 : HasTy Tryz.prog k 25 (([a, b, cc, d, e].drop 4).take (Tryz.prog.cellsOf 25)) := hf 4 _ rfl
        simp only [c9, c91, c25, List.drop, List.take] at f0 f1 f2 f3 f4
        obtain ⟨l0, e0, g0⟩ := f0.str Tryz.underlying9
        obtain ⟨l1, e1, g1⟩ := f1.str Tryz.underlying9
        obtain ⟨l2, e2, g2⟩ := ty_ats f2
        obtain ⟨l3, e3, g3⟩ := f3.str Tryz.underlying9
        obtain ⟨l4, e4, g4⟩ := ty_els N k (by omega) f4
        simp only [List.cons.injEq, and_true] at e0 e1 e2 e3 e4
        subst e0; subst e1; subst e2; subst e3; subst e4
        exact .mk l0 l1 l3 _ _ g0 g1 g3 g2 g4

theorem ty_rpc {n : Nat} {ds : List D} (h : HasTy Tryz.prog n 43 ds) : ∃ (o1 o2 o3 o4 : List UInt8) (tg sr df te oe ti se : Int) (inl fi co : Bool) (cf ft : D), ds = [.str o1, .str o2, .int .i64 tg, .int .i64 sr, .bool inl, cf, .int .i64 df, .int .i64 te, .int .i64 oe, .bool fi, ft, .bool co, .int .i64 ti, .str o3, .str o4, .int .i64 se] ∧ Els cf ∧ Els ft := by
  obtain ⟨k, rfl, hl, hf⟩ := h.struct Tryz.underlying43
  rw [c43] at hl
  obtain ⟨a0, a1, a2, a3, a4, a5, a6, a7, a8, a9, a10, a11, a12, a13, a14, a15, rfl⟩ := len16 hl
  · skip
    have f0 : HasTy Tryz.prog k 9 (([a0, a1, a2, a3, a4, a5, a6, a7, a8, a9, a10, a11, a12, a13, a14, a15].drop 0).take (Tryz.prog.cellsOf 9)) := hf 0 _ rfl
    have f1 : HasTy Tryz.prog k 9 (([a0, a1, a2, a3, a4, a5, a6, a7, a8, a9, a10, a11, a12, a13, a14, a15].drop 1).take (Tryz.prog.cellsOf 9)) := hf 1 _ rfl
    have f2 : HasTy Tryz.prog k 3 (([a0, a1, a2, a3, a4, a5, a6, a7, a8, a9, a10, a11, a12, a13, a14, a15].drop 2).take (Tryz.prog.cellsOf 3)) := hf 2 _ rfl
    have f3 : HasTy Tryz.prog k 3 (([a0, a1, a2, a3, a4, a5, a6, a7, a8, a9, a10, a11, a12, a13, a14, a15].drop 3).take (Tryz.prog.cellsOf 3)) := hf 3 _ rfl
    have f4 : HasTy Tryz.prog k 4 (([a0, a1, a2, a3, a4, a5, a6, a7, a8, a9, a10, a11, a12, a13, a14, a15].drop 4).take (Tryz.prog.cellsOf 4)) := hf 4 _ rfl
    have f5 : HasTy Tryz.prog k 25 (([a0, a1, a2, a3, a4, a5, a6, a7, a8, a9, a10, a11, a12, a13, a14, a15].drop 5).take (Tryz.prog.cellsOf 25)) := hf 5 _ rfl
    have f6 : HasTy Tryz.prog k 3 (([a0, a1, a2, a3, a4, a5, a6, a7, a8, a9, a10, a11, a12, a13, a14, a15].drop 6).take (Tryz.prog.cellsOf 3)) := hf 6 _ rfl
    have f7 : HasTy Tryz.prog k 3 (([a0, a1, a2, a3, a4, a5, a6, a7, a8, a9, a10, a11, a12, a13, a14, a15].drop 7).take (Tryz.prog.cellsOf 3)) := hf 7 _ rfl
    have f8 : HasTy Tryz.prog k 3 (([a0, a1, a2, a3, a4, a5, a6, a7, a8, a9, a10, a11, a12, a13, a14, a15].drop 8).take (Tryz.prog.cellsOf 3)) := hf 8 _ rfl
    have f9 : HasTy Tryz.prog k 4 (([a0, a1, a2, a3, a4, a5, a6, a7, a8, a9, a10, a11, a12, a13, a14, a15].drop 9).take (Tryz.prog.cellsOf 4)) := hf 9 _ rfl
    have f10 : HasTy Tryz.prog k 25 (([a0, a1, a2, a3, a4, a5, a6, a7, a8, a9, a10, a11, a12, a13, a14, a15].drop 10).take (Tryz.prog.cellsOf 25)) := hf 10 _ rfl
    have f11 : HasTy Tryz.prog k 4 (([a0, a1, a2, a3, a4, a5, a6, a7, a8, a9, a10, a11, a12, a13, a14, a15].drop 11).take (Tryz.prog.cellsOf 4)) := hf 11 _ rfl
    have f12 : HasTy Tryz.prog k 3 (([a0, a1, a2, a3, a4, a5, a6, a7, a8, a9, a10, a11, a12, a13, a14, a15].drop 12).take (Tryz.prog.cellsOf 3)) := hf 12 _ rfl
    have f13 : HasTy Tryz.prog k 9 (([a0, a1, a2, a3, a4, a5, a6, a7, a8, a9, a10, a11, a12, a13, a14, a15].drop 13).take (Tryz.prog.cellsOf 9)) := hf 13 _ rfl
    have f14 : HasTy Tryz.prog k 9 (([a0, a1, a2, a3, a4, a5, a6, a7, a8, a9, a10, a11, a12, a13, a14, a15].drop 14).take (Tryz.prog.cellsOf 9)) := hf 14 _ rfl
    have f15 : HasTy Tryz.prog k 3 (([a0, a1, a2, a3, a4, a5, a6, a7, a8, a9, a10, a11, a12, a13, a14, a15].drop 15).take (Tryz.prog.cellsOf 3)) := hf 15 _ rfl
    simp only [c9, c3, c4, c25, List.drop, List.take] at f0 f1 f2 f3 f4 f5 f6 f7 f8 f9 f10 f11 f12 f13 f14 f15
    obtain ⟨l0, e0, _⟩ := f0.str Tryz.underlying9
    obtain ⟨l1, e1, _⟩ := f1.str Tryz.underlying9
    obtain ⟨l2, e2, _⟩ := f2.int Tryz.underlying3
    obtain ⟨l3, e3, _⟩ := f3.int Tryz.underlying3
    obtain ⟨l4, e4⟩ := f4.bool Tryz.underlying4
    obtain ⟨l5, e5, g5⟩ := ty_els _ _ (Nat.le_refl _) f5
    obtain ⟨l6, e6, _⟩ := f6.int Tryz.underlying3
    obtain ⟨l7, e7, _⟩ := f7.int Tryz.underlying3
    obtain ⟨l8, e8, _⟩ := f8.int Tryz.underlying3
    obtain ⟨l9, e9⟩ := f9.bool Tryz.underlying4
    obtain ⟨l10, e10, g10⟩ := ty_els _ _ (Nat.le_refl _) f10
    obtain ⟨l11, e11⟩ := f11.bool Tryz.underlying4
    obtain ⟨l12, e12, _⟩ := f12.int Tryz.underlying3
    obtain ⟨l13, e13, _⟩ := f13.str Tryz.underlying9
    obtain ⟨l14, e14, _⟩ := f14.str Tryz.underlying9
    obtain ⟨l15, e15, _⟩ := f15.int Tryz.underlying3
    simp only [List.cons.injEq, and_true] at e0 e1 e2 e3 e4 e5 e6 e7 e8 e9 e10 e11 e12 e13 e14 e15
    subst e0; subst e1; subst e2; subst e3; subst e4; subst e5; subst e6; subst e7; subst e8; subst e9; subst e10; subst e11; subst e12; subst e13; subst e14; subst e15
    exact ⟨_, _, _, _, _, _, _, _, _, _, _, _, _, _, _, _, rfl, g5, g10⟩
end Go.Dn

