/- Walks of Single, Join of package bounds. -/
import Derived.Test.YtcngfmhhaleoaaaBdB
import Derived.Deep.RegionHeld3
import Derived.Deep.RegionWith
import Derived.Deep.DeepCutAuto
import Derived.Deep.CutBlock
set_option linter.unusedVariables false
set_option linter.unusedSimpArgs false
namespace Go.Proofs.Ytcngfmhhaleoaaa
open Go.RowKit Go.ChangeShapes Go.WideShapes

set_option maxRecDepth 100000 in
set_option maxHeartbeats 4000000 in
theorem b_single (a : Rg) (W w : World) (hx : Ext W w) :
    Calls Try.prog 15 #[.agg #[.int .u64 a.ul, .int .u64 a.uh, .int .i64 a.sl, .int .i64 a.sh]] w fun e w' => e = .returned (.tuple #[.int .u64 (bsingle a), .bool (bones a)]) ∧ Ext W w' := by
  obtain ⟨W3, hW3⟩ : ∃ W3, W3 = (w.alloc (.cells #[.int .u64 a.ul, .int .u64 a.uh, .int .i64 a.sl, .int .i64 a.sh] 24)) := ⟨_, rfl⟩
  have x3 : Ext w W3 := by rw [hW3]; exact ((Ext.refl w).alloc _)
  have MK := hide (fun w' (h : Ext W3 w') => bk1 (hW3 ▸ h))
  have hx' : Ext W3 W3 := Ext.refl _
  have hc : ((a.ul == a.uh) = false ∧ bones a = false) ∨ ((a.ul == a.uh) = true ∧ bhas a a.ul = false ∧ bones a = false) ∨ ((a.ul == a.uh) = true ∧ bhas a a.ul = true ∧ bones a = true) := by
    unfold bones
    by_cases h : a.ul = a.uh
    · rw [decide_eq_true h, Bool.true_and, h]
      cases bhas a a.uh <;> simp
    · rw [decide_eq_false h]
      exact .inl ⟨by simpa using h, rfl⟩
  rcases hc with ⟨h1, h2⟩ | ⟨h1, h3, h2⟩ | ⟨h1, h3, h2⟩
  all_goals
    unfold bsingle
    rw [h2]
    have e1 : (a.ul != a.uh) = !(a.ul == a.uh) := rfl
    rw [h1] at e1
    (try have H3 := hide h3)
    (try clear h3)
    clear h2
    go_enter Try.func15, Try.ntmps15
    go_wp2_with fail
    rw [← hW3]
    clear hW3
    (try clear c0_0 c0_1 c0_2 c0_3 c0_f c0_l); have mk := MK.out _ hx'; have c0_0 : _ = some _ := mk.1.cell 0; have c0_1 : _ = some _ := mk.1.cell 1; have c0_2 : _ = some _ := mk.1.cell 2; have c0_3 : _ = some _ := mk.1.cell 3; have c0_f := mk.1.free; have c0_l := mk.1.lt; clear mk
    go_wp2_with (first
      | (go_at_call 12; (with_reducible refine (b_has a a.ul _ H3.out W3 _ (by assumption)).mono ?_); rintro e w' ⟨rfl, hx'⟩; (try clear c0_0 c0_1 c0_2 c0_3 c0_f c0_l); have mk := MK.out _ hx'; have c0_0 : _ = some _ := mk.1.cell 0; have c0_1 : _ = some _ := mk.1.cell 1; have c0_2 : _ = some _ := mk.1.cell 2; have c0_3 : _ = some _ := mk.1.cell 3; have c0_f := mk.1.free; have c0_l := mk.1.lt; clear mk)
      | fail)
    first
      | (exact bodyPost_ret (v := .tuple #[.int .u64 0, .bool false]) (by simp [results, Try.results15, go_sem]) rfl ⟨rfl, by (refine hx.trans ?_; with_reducible repeat (first | assumption | exact x3.trans hx' | exact x3.trans (by assumption) | apply Ext.alloc | apply Ext.drew | (refine Ext.store1 ?_ (by omega) _)))⟩)
      | (exact bodyPost_ret (v := .tuple #[.int .u64 a.ul, .bool true]) (by simp [results, Try.results15, go_sem]) rfl ⟨rfl, by (refine hx.trans ?_; with_reducible repeat (first | assumption | exact x3.trans hx' | exact x3.trans (by assumption) | apply Ext.alloc | apply Ext.drew | (refine Ext.store1 ?_ (by omega) _)))⟩)

set_option maxRecDepth 100000 in
set_option maxHeartbeats 4000000 in
theorem b_join (a b : Rg) (W w : World) (hx : Ext W w) :
    Calls Try.prog 28 #[.agg #[.int .u64 a.ul, .int .u64 a.uh, .int .i64 a.sl, .int .i64 a.sh], .agg #[.int .u64 b.ul, .int .u64 b.uh, .int .i64 b.sl, .int .i64 b.sh]] w fun e w' => e = .returned (.agg #[.int .u64 (bjoin a b).ul, .int .u64 (bjoin a b).uh, .int .i64 (bjoin a b).sl, .int .i64 (bjoin a b).sh]) ∧ Ext W w' := by
  obtain ⟨W3, hW3⟩ : ∃ W3, W3 = (((w.alloc (.cells #[.int .u64 a.ul, .int .u64 a.uh, .int .i64 a.sl, .int .i64 a.sh] 24)).alloc (.cells #[.int .u64 b.ul, .int .u64 b.uh, .int .i64 b.sl, .int .i64 b.sh] 24)).alloc (.cells #[.int .u64 0, .int .u64 0, .int .i64 0, .int .i64 0] 24)) := ⟨_, rfl⟩
  have x3 : Ext w W3 := by rw [hW3]; exact ((((Ext.refl w).alloc _).alloc _).alloc _)
  have MK := hide (fun w' (h : Ext W3 w') => bk3 (hW3 ▸ h))
  have hx' : Ext W3 W3 := Ext.refl _
  have hc : (bmay a = false ∧ bjoin a b = ball) ∨ (bmay a = true ∧ bmay b = false ∧ bjoin a b = ball) ∨ (bmay a = true ∧ bmay b = true ∧ bjoin a b = bjoin0 a b) := by
    unfold bjoin
    cases bmay a <;> cases bmay b <;> simp
  rcases hc with ⟨h1, h2⟩ | ⟨h1, h3, h2⟩ | ⟨h1, h3, h2⟩
  · rw [h2]
    have H1 := hide h1
    (try have H3 := hide h3)
    (try clear h3)
    clear h1 h2
    go_enter Try.func28, Try.ntmps28
    go_wp2_with fail
    rw [← hW3]
    clear hW3
    (try clear c0_0 c0_1 c0_2 c0_3 c1_0 c1_1 c1_2 c1_3 c2_0 c2_1 c2_2 c2_3 c0_f c1_f c2_f c0_l c1_l c2_l); have mk := MK.out _ hx'; have c0_0 : _ = some _ := mk.1.cell 0; have c0_1 : _ = some _ := mk.1.cell 1; have c0_2 : _ = some _ := mk.1.cell 2; have c0_3 : _ = some _ := mk.1.cell 3; have c0_f := mk.1.free; have c0_l := mk.1.lt; have c1_0 : _ = some _ := mk.2.1.cell 0; have c1_1 : _ = some _ := mk.2.1.cell 1; have c1_2 : _ = some _ := mk.2.1.cell 2; have c1_3 : _ = some _ := mk.2.1.cell 3; have c1_f := mk.2.1.free; have c1_l := mk.2.1.lt; have c2_0 : _ = some _ := mk.2.2.1.cell 0; have c2_1 : _ = some _ := mk.2.2.1.cell 1; have c2_2 : _ = some _ := mk.2.2.1.cell 2; have c2_3 : _ = some _ := mk.2.2.1.cell 3; have c2_f := mk.2.2.1.free; have c2_l := mk.2.2.1.lt; clear mk
    go_wp2_with (first
      | (go_at_call 16; (with_reducible refine (b_may a _ H1.out W3 _ (by assumption)).mono ?_); rintro e w' ⟨rfl, hx'⟩; (try clear c0_0 c0_1 c0_2 c0_3 c1_0 c1_1 c1_2 c1_3 c2_0 c2_1 c2_2 c2_3 c0_f c1_f c2_f c0_l c1_l c2_l); have mk := MK.out _ hx'; have c0_0 : _ = some _ := mk.1.cell 0; have c0_1 : _ = some _ := mk.1.cell 1; have c0_2 : _ = some _ := mk.1.cell 2; have c0_3 : _ = some _ := mk.1.cell 3; have c0_f := mk.1.free; have c0_l := mk.1.lt; have c1_0 : _ = some _ := mk.2.1.cell 0; have c1_1 : _ = some _ := mk.2.1.cell 1; have c1_2 : _ = some _ := mk.2.1.cell 2; have c1_3 : _ = some _ := mk.2.1.cell 3; have c1_f := mk.2.1.free; have c1_l := mk.2.1.lt; have c2_0 : _ = some _ := mk.2.2.1.cell 0; have c2_1 : _ = some _ := mk.2.2.1.cell 1; have c2_2 : _ = some _ := mk.2.2.1.cell 2; have c2_3 : _ = some _ := mk.2.2.1.cell 3; have c2_f := mk.2.2.1.free; have c2_l := mk.2.2.1.lt; clear mk)
      | (go_at_call 16; (with_reducible refine (b_may b _ H3.out W3 _ (by assumption)).mono ?_); rintro e w' ⟨rfl, hx'⟩; (try clear c0_0 c0_1 c0_2 c0_3 c1_0 c1_1 c1_2 c1_3 c2_0 c2_1 c2_2 c2_3 c0_f c1_f c2_f c0_l c1_l c2_l); have mk := MK.out _ hx'; have c0_0 : _ = some _ := mk.1.cell 0; have c0_1 : _ = some _ := mk.1.cell 1; have c0_2 : _ = some _ := mk.1.cell 2; have c0_3 : _ = some _ := mk.1.cell 3; have c0_f := mk.1.free; have c0_l := mk.1.lt; have c1_0 : _ = some _ := mk.2.1.cell 0; have c1_1 : _ = some _ := mk.2.1.cell 1; have c1_2 : _ = some _ := mk.2.1.cell 2; have c1_3 : _ = some _ := mk.2.1.cell 3; have c1_f := mk.2.1.free; have c1_l := mk.2.1.lt; have c2_0 : _ = some _ := mk.2.2.1.cell 0; have c2_1 : _ = some _ := mk.2.2.1.cell 1; have c2_2 : _ = some _ := mk.2.2.1.cell 2; have c2_3 : _ = some _ := mk.2.2.1.cell 3; have c2_f := mk.2.2.1.free; have c2_l := mk.2.2.1.lt; clear mk)
      | (go_at_call 13; (with_reducible refine (b_all W3 _ (by assumption)).mono ?_); rintro e w' ⟨rfl, hx'⟩; (try clear c0_0 c0_1 c0_2 c0_3 c1_0 c1_1 c1_2 c1_3 c2_0 c2_1 c2_2 c2_3 c0_f c1_f c2_f c0_l c1_l c2_l); have mk := MK.out _ hx'; have c0_0 : _ = some _ := mk.1.cell 0; have c0_1 : _ = some _ := mk.1.cell 1; have c0_2 : _ = some _ := mk.1.cell 2; have c0_3 : _ = some _ := mk.1.cell 3; have c0_f := mk.1.free; have c0_l := mk.1.lt; have c1_0 : _ = some _ := mk.2.1.cell 0; have c1_1 : _ = some _ := mk.2.1.cell 1; have c1_2 : _ = some _ := mk.2.1.cell 2; have c1_3 : _ = some _ := mk.2.1.cell 3; have c1_f := mk.2.1.free; have c1_l := mk.2.1.lt; have c2_0 : _ = some _ := mk.2.2.1.cell 0; have c2_1 : _ = some _ := mk.2.2.1.cell 1; have c2_2 : _ = some _ := mk.2.2.1.cell 2; have c2_3 : _ = some _ := mk.2.2.1.cell 3; have c2_f := mk.2.2.1.free; have c2_l := mk.2.2.1.lt; clear mk)
      | fail)
    exact bodyPost_ret (by simp [results, Try.results28, go_sem, c2_0, c2_1, c2_2, c2_3, c2_l, Nat.ne_of_lt c2_l, Nat.ne_of_gt c2_l] <;> (first | exact ⟨rfl, rfl⟩ | exact ⟨rfl, rfl, rfl, rfl⟩ | rfl)) rfl ⟨rfl, by (refine hx.trans ?_; with_reducible repeat (first | assumption | exact x3.trans hx' | exact x3.trans (by assumption) | apply Ext.alloc | apply Ext.drew | (refine Ext.store1 ?_ (by omega) _)))⟩
  · rw [h2]
    have H1 := hide h1
    (try have H3 := hide h3)
    (try clear h3)
    clear h1 h2
    go_enter Try.func28, Try.ntmps28
    go_wp2_with fail
    rw [← hW3]
    clear hW3
    (try clear c0_0 c0_1 c0_2 c0_3 c1_0 c1_1 c1_2 c1_3 c2_0 c2_1 c2_2 c2_3 c0_f c1_f c2_f c0_l c1_l c2_l); have mk := MK.out _ hx'; have c0_0 : _ = some _ := mk.1.cell 0; have c0_1 : _ = some _ := mk.1.cell 1; have c0_2 : _ = some _ := mk.1.cell 2; have c0_3 : _ = some _ := mk.1.cell 3; have c0_f := mk.1.free; have c0_l := mk.1.lt; have c1_0 : _ = some _ := mk.2.1.cell 0; have c1_1 : _ = some _ := mk.2.1.cell 1; have c1_2 : _ = some _ := mk.2.1.cell 2; have c1_3 : _ = some _ := mk.2.1.cell 3; have c1_f := mk.2.1.free; have c1_l := mk.2.1.lt; have c2_0 : _ = some _ := mk.2.2.1.cell 0; have c2_1 : _ = some _ := mk.2.2.1.cell 1; have c2_2 : _ = some _ := mk.2.2.1.cell 2; have c2_3 : _ = some _ := mk.2.2.1.cell 3; have c2_f := mk.2.2.1.free; have c2_l := mk.2.2.1.lt; clear mk
    go_wp2_with (first
      | (go_at_call 16; (with_reducible refine (b_may a _ H1.out W3 _ (by assumption)).mono ?_); rintro e w' ⟨rfl, hx'⟩; (try clear c0_0 c0_1 c0_2 c0_3 c1_0 c1_1 c1_2 c1_3 c2_0 c2_1 c2_2 c2_3 c0_f c1_f c2_f c0_l c1_l c2_l); have mk := MK.out _ hx'; have c0_0 : _ = some _ := mk.1.cell 0; have c0_1 : _ = some _ := mk.1.cell 1; have c0_2 : _ = some _ := mk.1.cell 2; have c0_3 : _ = some _ := mk.1.cell 3; have c0_f := mk.1.free; have c0_l := mk.1.lt; have c1_0 : _ = some _ := mk.2.1.cell 0; have c1_1 : _ = some _ := mk.2.1.cell 1; have c1_2 : _ = some _ := mk.2.1.cell 2; have c1_3 : _ = some _ := mk.2.1.cell 3; have c1_f := mk.2.1.free; have c1_l := mk.2.1.lt; have c2_0 : _ = some _ := mk.2.2.1.cell 0; have c2_1 : _ = some _ := mk.2.2.1.cell 1; have c2_2 : _ = some _ := mk.2.2.1.cell 2; have c2_3 : _ = some _ := mk.2.2.1.cell 3; have c2_f := mk.2.2.1.free; have c2_l := mk.2.2.1.lt; clear mk)
      | (go_at_call 16; (with_reducible refine (b_may b _ H3.out W3 _ (by assumption)).mono ?_); rintro e w' ⟨rfl, hx'⟩; (try clear c0_0 c0_1 c0_2 c0_3 c1_0 c1_1 c1_2 c1_3 c2_0 c2_1 c2_2 c2_3 c0_f c1_f c2_f c0_l c1_l c2_l); have mk := MK.out _ hx'; have c0_0 : _ = some _ := mk.1.cell 0; have c0_1 : _ = some _ := mk.1.cell 1; have c0_2 : _ = some _ := mk.1.cell 2; have c0_3 : _ = some _ := mk.1.cell 3; have c0_f := mk.1.free; have c0_l := mk.1.lt; have c1_0 : _ = some _ := mk.2.1.cell 0; have c1_1 : _ = some _ := mk.2.1.cell 1; have c1_2 : _ = some _ := mk.2.1.cell 2; have c1_3 : _ = some _ := mk.2.1.cell 3; have c1_f := mk.2.1.free; have c1_l := mk.2.1.lt; have c2_0 : _ = some _ := mk.2.2.1.cell 0; have c2_1 : _ = some _ := mk.2.2.1.cell 1; have c2_2 : _ = some _ := mk.2.2.1.cell 2; have c2_3 : _ = some _ := mk.2.2.1.cell 3; have c2_f := mk.2.2.1.free; have c2_l := mk.2.2.1.lt; clear mk)
      | (go_at_call 13; (with_reducible refine (b_all W3 _ (by assumption)).mono ?_); rintro e w' ⟨rfl, hx'⟩; (try clear c0_0 c0_1 c0_2 c0_3 c1_0 c1_1 c1_2 c1_3 c2_0 c2_1 c2_2 c2_3 c0_f c1_f c2_f c0_l c1_l c2_l); have mk := MK.out _ hx'; have c0_0 : _ = some _ := mk.1.cell 0; have c0_1 : _ = some _ := mk.1.cell 1; have c0_2 : _ = some _ := mk.1.cell 2; have c0_3 : _ = some _ := mk.1.cell 3; have c0_f := mk.1.free; have c0_l := mk.1.lt; have c1_0 : _ = some _ := mk.2.1.cell 0; have c1_1 : _ = some _ := mk.2.1.cell 1; have c1_2 : _ = some _ := mk.2.1.cell 2; have c1_3 : _ = some _ := mk.2.1.cell 3; have c1_f := mk.2.1.free; have c1_l := mk.2.1.lt; have c2_0 : _ = some _ := mk.2.2.1.cell 0; have c2_1 : _ = some _ := mk.2.2.1.cell 1; have c2_2 : _ = some _ := mk.2.2.1.cell 2; have c2_3 : _ = some _ := mk.2.2.1.cell 3; have c2_f := mk.2.2.1.free; have c2_l := mk.2.2.1.lt; clear mk)
      | fail)
    exact bodyPost_ret (by simp [results, Try.results28, go_sem, c2_0, c2_1, c2_2, c2_3, c2_l, Nat.ne_of_lt c2_l, Nat.ne_of_gt c2_l] <;> (first | exact ⟨rfl, rfl⟩ | exact ⟨rfl, rfl, rfl, rfl⟩ | rfl)) rfl ⟨rfl, by (refine hx.trans ?_; with_reducible repeat (first | assumption | exact x3.trans hx' | exact x3.trans (by assumption) | apply Ext.alloc | apply Ext.drew | (refine Ext.store1 ?_ (by omega) _)))⟩
  · rw [h2]
    have H1 := hide h1
    (try have H3 := hide h3)
    (try clear h3)
    clear h1 h2
    go_enter Try.func28, Try.ntmps28
    go_wp2_with fail
    rw [← hW3]
    clear hW3
    (try clear c0_0 c0_1 c0_2 c0_3 c1_0 c1_1 c1_2 c1_3 c2_0 c2_1 c2_2 c2_3 c0_f c1_f c2_f c0_l c1_l c2_l); have mk := MK.out _ hx'; have c0_0 : _ = some _ := mk.1.cell 0; have c0_1 : _ = some _ := mk.1.cell 1; have c0_2 : _ = some _ := mk.1.cell 2; have c0_3 : _ = some _ := mk.1.cell 3; have c0_f := mk.1.free; have c0_l := mk.1.lt; have c1_0 : _ = some _ := mk.2.1.cell 0; have c1_1 : _ = some _ := mk.2.1.cell 1; have c1_2 : _ = some _ := mk.2.1.cell 2; have c1_3 : _ = some _ := mk.2.1.cell 3; have c1_f := mk.2.1.free; have c1_l := mk.2.1.lt; have c2_0 : _ = some _ := mk.2.2.1.cell 0; have c2_1 : _ = some _ := mk.2.2.1.cell 1; have c2_2 : _ = some _ := mk.2.2.1.cell 2; have c2_3 : _ = some _ := mk.2.2.1.cell 3; have c2_f := mk.2.2.1.free; have c2_l := mk.2.2.1.lt; clear mk
    go_wp2_with (first
      | (go_at_call 16; (with_reducible refine (b_may a _ H1.out W3 _ (by assumption)).mono ?_); rintro e w' ⟨rfl, hx'⟩; (try clear c0_0 c0_1 c0_2 c0_3 c1_0 c1_1 c1_2 c1_3 c2_0 c2_1 c2_2 c2_3 c0_f c1_f c2_f c0_l c1_l c2_l); have mk := MK.out _ hx'; have c0_0 : _ = some _ := mk.1.cell 0; have c0_1 : _ = some _ := mk.1.cell 1; have c0_2 : _ = some _ := mk.1.cell 2; have c0_3 : _ = some _ := mk.1.cell 3; have c0_f := mk.1.free; have c0_l := mk.1.lt; have c1_0 : _ = some _ := mk.2.1.cell 0; have c1_1 : _ = some _ := mk.2.1.cell 1; have c1_2 : _ = some _ := mk.2.1.cell 2; have c1_3 : _ = some _ := mk.2.1.cell 3; have c1_f := mk.2.1.free; have c1_l := mk.2.1.lt; have c2_0 : _ = some _ := mk.2.2.1.cell 0; have c2_1 : _ = some _ := mk.2.2.1.cell 1; have c2_2 : _ = some _ := mk.2.2.1.cell 2; have c2_3 : _ = some _ := mk.2.2.1.cell 3; have c2_f := mk.2.2.1.free; have c2_l := mk.2.2.1.lt; clear mk)
      | (go_at_call 16; (with_reducible refine (b_may b _ H3.out W3 _ (by assumption)).mono ?_); rintro e w' ⟨rfl, hx'⟩; (try clear c0_0 c0_1 c0_2 c0_3 c1_0 c1_1 c1_2 c1_3 c2_0 c2_1 c2_2 c2_3 c0_f c1_f c2_f c0_l c1_l c2_l); have mk := MK.out _ hx'; have c0_0 : _ = some _ := mk.1.cell 0; have c0_1 : _ = some _ := mk.1.cell 1; have c0_2 : _ = some _ := mk.1.cell 2; have c0_3 : _ = some _ := mk.1.cell 3; have c0_f := mk.1.free; have c0_l := mk.1.lt; have c1_0 : _ = some _ := mk.2.1.cell 0; have c1_1 : _ = some _ := mk.2.1.cell 1; have c1_2 : _ = some _ := mk.2.1.cell 2; have c1_3 : _ = some _ := mk.2.1.cell 3; have c1_f := mk.2.1.free; have c1_l := mk.2.1.lt; have c2_0 : _ = some _ := mk.2.2.1.cell 0; have c2_1 : _ = some _ := mk.2.2.1.cell 1; have c2_2 : _ = some _ := mk.2.2.1.cell 2; have c2_3 : _ = some _ := mk.2.2.1.cell 3; have c2_f := mk.2.2.1.free; have c2_l := mk.2.2.1.lt; clear mk)
      | fail)
    have MS : Hid (∀ w2, Ext W3 w2 → Ext w ((((w2.setCell ⟨w.heap.size + 1 + 1, 0, none⟩ (.int .u64 (min a.ul b.ul))).setCell ⟨w.heap.size + 1 + 1, 1, none⟩ (.int .u64 (max a.uh b.uh))).setCell ⟨w.heap.size + 1 + 1, 2, none⟩ (.int .i64 (min a.sl b.sl))).setCell ⟨w.heap.size + 1 + 1, 3, none⟩ (.int .i64 (max a.sh b.sh))) ∧ Bk ((((w2.setCell ⟨w.heap.size + 1 + 1, 0, none⟩ (.int .u64 (min a.ul b.ul))).setCell ⟨w.heap.size + 1 + 1, 1, none⟩ (.int .u64 (max a.uh b.uh))).setCell ⟨w.heap.size + 1 + 1, 2, none⟩ (.int .i64 (min a.sl b.sl))).setCell ⟨w.heap.size + 1 + 1, 3, none⟩ (.int .i64 (max a.sh b.sh))) (w.heap.size) #[.int .u64 a.ul, .int .u64 a.uh, .int .i64 a.sl, .int .i64 a.sh] 24 ∧ Bk ((((w2.setCell ⟨w.heap.size + 1 + 1, 0, none⟩ (.int .u64 (min a.ul b.ul))).setCell ⟨w.heap.size + 1 + 1, 1, none⟩ (.int .u64 (max a.uh b.uh))).setCell ⟨w.heap.size + 1 + 1, 2, none⟩ (.int .i64 (min a.sl b.sl))).setCell ⟨w.heap.size + 1 + 1, 3, none⟩ (.int .i64 (max a.sh b.sh))) (w.heap.size + 1) #[.int .u64 b.ul, .int .u64 b.uh, .int .i64 b.sl, .int .i64 b.sh] 24 ∧ Bk ((((w2.setCell ⟨w.heap.size + 1 + 1, 0, none⟩ (.int .u64 (min a.ul b.ul))).setCell ⟨w.heap.size + 1 + 1, 1, none⟩ (.int .u64 (max a.uh b.uh))).setCell ⟨w.heap.size + 1 + 1, 2, none⟩ (.int .i64 (min a.sl b.sl))).setCell ⟨w.heap.size + 1 + 1, 3, none⟩ (.int .i64 (max a.sh b.sh))) (w.heap.size + 1 + 1) #[.int .u64 (min a.ul b.ul), .int .u64 (max a.uh b.uh), .int .i64 (min a.sl b.sl), .int .i64 (max a.sh b.sh)] 24 ∧ True) := hide (fun w2 h => by
      have mk := MK.out _ h
      exact ⟨(Ext.store1 (Ext.store1 (Ext.store1 (Ext.store1 (x3.trans h) (by omega) _) (by omega) _) (by omega) _) (by omega) _), ((((mk.1.off (w.heap.size + 1 + 1) 0 (.int .u64 (min a.ul b.ul)) (by omega)).off (w.heap.size + 1 + 1) 1 (.int .u64 (max a.uh b.uh)) (by omega)).off (w.heap.size + 1 + 1) 2 (.int .i64 (min a.sl b.sl)) (by omega)).off (w.heap.size + 1 + 1) 3 (.int .i64 (max a.sh b.sh)) (by omega)), ((((mk.2.1.off (w.heap.size + 1 + 1) 0 (.int .u64 (min a.ul b.ul)) (by omega)).off (w.heap.size + 1 + 1) 1 (.int .u64 (max a.uh b.uh)) (by omega)).off (w.heap.size + 1 + 1) 2 (.int .i64 (min a.sl b.sl)) (by omega)).off (w.heap.size + 1 + 1) 3 (.int .i64 (max a.sh b.sh)) (by omega)), ((((mk.2.2.1.set 0 (.int .u64 (min a.ul b.ul))).set 1 (.int .u64 (max a.uh b.uh))).set 2 (.int .i64 (min a.sl b.sl))).set 3 (.int .i64 (max a.sh b.sh))), trivial⟩)
    have SK : Hid (∀ w', Ext W3 w' → Ext w w' ∧ w'.cell? ⟨w.heap.size, 0, none⟩ = some (.int .u64 a.ul) ∧ w'.cell? ⟨w.heap.size, 1, none⟩ = some (.int .u64 a.uh) ∧ w'.cell? ⟨w.heap.size, 2, none⟩ = some (.int .i64 a.sl) ∧ w'.cell? ⟨w.heap.size, 3, none⟩ = some (.int .i64 a.sh) ∧ w'.cell? ⟨w.heap.size + 1, 0, none⟩ = some (.int .u64 b.ul) ∧ w'.cell? ⟨w.heap.size + 1, 1, none⟩ = some (.int .u64 b.uh) ∧ w'.cell? ⟨w.heap.size + 1, 2, none⟩ = some (.int .i64 b.sl) ∧ w'.cell? ⟨w.heap.size + 1, 3, none⟩ = some (.int .i64 b.sh)) := hide (fun w' h => ⟨x3.trans h, (MK.out _ h).1.cell 0, (MK.out _ h).1.cell 1, (MK.out _ h).1.cell 2, (MK.out _ h).1.cell 3, (MK.out _ h).2.1.cell 0, (MK.out _ h).2.1.cell 1, (MK.out _ h).2.1.cell 2, (MK.out _ h).2.1.cell 3⟩)
    have SKb : Hid (∀ w2, Ext W3 w2 → (fun w' => Ext w w' ∧ w'.cell? ⟨w.heap.size, 0, none⟩ = some (.int .u64 a.ul) ∧ w'.cell? ⟨w.heap.size, 1, none⟩ = some (.int .u64 a.uh) ∧ w'.cell? ⟨w.heap.size, 2, none⟩ = some (.int .i64 a.sl) ∧ w'.cell? ⟨w.heap.size, 3, none⟩ = some (.int .i64 a.sh) ∧ w'.cell? ⟨w.heap.size + 1, 0, none⟩ = some (.int .u64 b.ul) ∧ w'.cell? ⟨w.heap.size + 1, 1, none⟩ = some (.int .u64 b.uh) ∧ w'.cell? ⟨w.heap.size + 1, 2, none⟩ = some (.int .i64 b.sl) ∧ w'.cell? ⟨w.heap.size + 1, 3, none⟩ = some (.int .i64 b.sh)) ((((w2.setCell ⟨w.heap.size + 1 + 1, 0, none⟩ (.int .u64 (min a.ul b.ul))).setCell ⟨w.heap.size + 1 + 1, 1, none⟩ (.int .u64 (max a.uh b.uh))).setCell ⟨w.heap.size + 1 + 1, 2, none⟩ (.int .i64 (min a.sl b.sl))).setCell ⟨w.heap.size + 1 + 1, 3, none⟩ (.int .i64 (max a.sh b.sh)))) := hide (fun w2 h => ⟨(MS.out _ h).1, (MS.out _ h).2.1.cell 0, (MS.out _ h).2.1.cell 1, (MS.out _ h).2.1.cell 2, (MS.out _ h).2.1.cell 3, (MS.out _ h).2.2.1.cell 0, (MS.out _ h).2.2.1.cell 1, (MS.out _ h).2.2.1.cell 2, (MS.out _ h).2.2.1.cell 3⟩)
    (try clear c0_0 c0_1 c0_2 c0_3 c1_0 c1_1 c1_2 c1_3 c2_0 c2_1 c2_2 c2_3 c0_f c1_f c2_f c0_l c1_l c2_l)
    go_region_held3 (fun w' => Ext w w' ∧ w'.cell? ⟨w.heap.size, 0, none⟩ = some (.int .u64 a.ul) ∧ w'.cell? ⟨w.heap.size, 1, none⟩ = some (.int .u64 a.uh) ∧ w'.cell? ⟨w.heap.size, 2, none⟩ = some (.int .i64 a.sl) ∧ w'.cell? ⟨w.heap.size, 3, none⟩ = some (.int .i64 a.sh) ∧ w'.cell? ⟨w.heap.size + 1, 0, none⟩ = some (.int .u64 b.ul) ∧ w'.cell? ⟨w.heap.size + 1, 1, none⟩ = some (.int .u64 b.uh) ∧ w'.cell? ⟨w.heap.size + 1, 2, none⟩ = some (.int .i64 b.sl) ∧ w'.cell? ⟨w.heap.size + 1, 3, none⟩ = some (.int .i64 b.sh))
      (first | exact SK.out _ hx' | exact SK.out _ hx'.drew | exact SKb.out _ hx')
      (first
      | (go_at_call 50; (with_reducible refine (b_uns a W3 _ (by first | assumption | exact hx'.drew)).mono ?_); rintro e w' ⟨rfl, hx'⟩; (try clear c2_0 c2_1 c2_2 c2_3 c2_f c2_l); have mk := MK.out _ hx'; have c2_0 : _ = some _ := mk.2.2.1.cell 0; have c2_1 : _ = some _ := mk.2.2.1.cell 1; have c2_2 : _ = some _ := mk.2.2.1.cell 2; have c2_3 : _ = some _ := mk.2.2.1.cell 3; have c2_f := mk.2.2.1.free; have c2_l := mk.2.2.1.lt; clear mk)
      | (go_at_call 50; (with_reducible refine (b_uns b W3 _ (by first | assumption | exact hx'.drew)).mono ?_); rintro e w' ⟨rfl, hx'⟩; (try clear c2_0 c2_1 c2_2 c2_3 c2_f c2_l); have mk := MK.out _ hx'; have c2_0 : _ = some _ := mk.2.2.1.cell 0; have c2_1 : _ = some _ := mk.2.2.1.cell 1; have c2_2 : _ = some _ := mk.2.2.1.cell 2; have c2_3 : _ = some _ := mk.2.2.1.cell 3; have c2_f := mk.2.2.1.free; have c2_l := mk.2.2.1.lt; clear mk)
      | (go_at_call 51; (with_reducible refine (b_sig a W3 _ (by first | assumption | exact hx'.drew)).mono ?_); rintro e w' ⟨rfl, hx'⟩; (try clear c2_0 c2_1 c2_2 c2_3 c2_f c2_l); have mk := MK.out _ hx'; have c2_0 : _ = some _ := mk.2.2.1.cell 0; have c2_1 : _ = some _ := mk.2.2.1.cell 1; have c2_2 : _ = some _ := mk.2.2.1.cell 2; have c2_3 : _ = some _ := mk.2.2.1.cell 3; have c2_f := mk.2.2.1.free; have c2_l := mk.2.2.1.lt; clear mk)
      | (go_at_call 51; (with_reducible refine (b_sig b W3 _ (by first | assumption | exact hx'.drew)).mono ?_); rintro e w' ⟨rfl, hx'⟩; (try clear c2_0 c2_1 c2_2 c2_3 c2_f c2_l); have mk := MK.out _ hx'; have c2_0 : _ = some _ := mk.2.2.1.cell 0; have c2_1 : _ = some _ := mk.2.2.1.cell 1; have c2_2 : _ = some _ := mk.2.2.1.cell 2; have c2_3 : _ = some _ := mk.2.2.1.cell 3; have c2_f := mk.2.2.1.free; have c2_l := mk.2.2.1.lt; clear mk)
      | (go_at_call 68; (with_reducible refine (b_ujoin _ _ _ _ W3 _ (by first | assumption | exact hx'.drew)).mono ?_); rintro e w' ⟨rfl, hx'⟩; (try clear c2_0 c2_1 c2_2 c2_3 c2_f c2_l); have mk := MK.out _ hx'; have c2_0 : _ = some _ := mk.2.2.1.cell 0; have c2_1 : _ = some _ := mk.2.2.1.cell 1; have c2_2 : _ = some _ := mk.2.2.1.cell 2; have c2_3 : _ = some _ := mk.2.2.1.cell 3; have c2_f := mk.2.2.1.free; have c2_l := mk.2.2.1.lt; clear mk)
      | (go_at_call 69; (with_reducible refine (b_ijoin _ _ _ _ W3 _ (by first | assumption | exact hx'.drew)).mono ?_); rintro e w' ⟨rfl, hx'⟩; (try clear c2_0 c2_1 c2_2 c2_3 c2_f c2_l); have mk := MK.out _ hx'; have c2_0 : _ = some _ := mk.2.2.1.cell 0; have c2_1 : _ = some _ := mk.2.2.1.cell 1; have c2_2 : _ = some _ := mk.2.2.1.cell 2; have c2_3 : _ = some _ := mk.2.2.1.cell 3; have c2_f := mk.2.2.1.free; have c2_l := mk.2.2.1.lt; clear mk)
      | (go_at_call 54; (with_reducible refine (b_of _ _ _ _ W3 _ (by first | assumption | exact hx'.drew)).mono ?_); rintro e w' ⟨rfl, hx'⟩; (try clear c2_0 c2_1 c2_2 c2_3 c2_f c2_l); have mk := MK.out _ hx'; have c2_0 : _ = some _ := mk.2.2.1.cell 0; have c2_1 : _ = some _ := mk.2.2.1.cell 1; have c2_2 : _ = some _ := mk.2.2.1.cell 2; have c2_3 : _ = some _ := mk.2.2.1.cell 3; have c2_f := mk.2.2.1.free; have c2_l := mk.2.2.1.lt; clear mk))
    all_goals
      go_wp2_with fail
      exact bodyPost_ret (by simp [results, Try.results28, go_sem, c2_0, c2_1, c2_2, c2_3, c2_l, Nat.ne_of_lt c2_l, Nat.ne_of_gt c2_l] <;> (first | exact ⟨rfl, rfl⟩ | exact ⟨rfl, rfl, rfl, rfl⟩ | rfl)) rfl ⟨rfl, by (refine hx.trans ?_; with_reducible repeat (first | assumption | exact x3.trans hx' | exact x3.trans (by assumption) | apply Ext.alloc | apply Ext.drew | (refine Ext.store1 ?_ (by omega) _)))⟩
end Go.Proofs.Ytcngfmhhaleoaaa
