/- Walks of All, One, May, Has of package bounds. -/
import Derived.Test.YtcfnglbcgkappaaGreatBdA
import Derived.Deep.RegionHeld3
import Derived.Deep.RegionWith
import Derived.Deep.DeepCutAuto
import Derived.Deep.CutBlock
set_option linter.unusedVariables false
set_option linter.unusedSimpArgs false
namespace Go.Proofs.YtcfnglbcgkappaaGreat
open Go.RowKit Go.ChangeShapes Go.WideShapes

set_option maxRecDepth 100000 in
set_option maxHeartbeats 4000000 in
theorem b_all  (W w : World) (hx : Ext W w) :
    Calls Tryz.prog 29 #[] w fun e w' => e = .returned (.agg #[.int .u64 ball.ul, .int .u64 ball.uh, .int .i64 ball.sl, .int .i64 ball.sh]) ∧ Ext W w' := by
  obtain ⟨W3, hW3⟩ : ∃ W3, W3 = (w.alloc (.cells #[.int .u64 0, .int .u64 0, .int .i64 0, .int .i64 0] 25)) := ⟨_, rfl⟩
  have x3 : Ext w W3 := by rw [hW3]; exact ((Ext.refl w).alloc _)
  have MK := hide (fun w' (h : Ext W3 w') => bk1 (hW3 ▸ h))
  have hx' : Ext W3 W3 := Ext.refl _
  go_enter Tryz.func29, Tryz.ntmps29
  go_wp2_with fail
  rw [← hW3]
  clear hW3
  (try clear c0_0 c0_1 c0_2 c0_3 c0_f c0_l); have mk := MK.out _ hx'; have c0_0 : _ = some _ := mk.1.cell 0; have c0_1 : _ = some _ := mk.1.cell 1; have c0_2 : _ = some _ := mk.1.cell 2; have c0_3 : _ = some _ := mk.1.cell 3; have c0_f := mk.1.free; have c0_l := mk.1.lt; clear mk
  go_wp2_with (first
    | (go_at_call 80; (with_reducible refine (b_of _ _ _ _ W3 _ (by assumption)).mono ?_); rintro e w' ⟨rfl, hx'⟩; (try clear c0_0 c0_1 c0_2 c0_3 c0_f c0_l); have mk := MK.out _ hx'; have c0_0 : _ = some _ := mk.1.cell 0; have c0_1 : _ = some _ := mk.1.cell 1; have c0_2 : _ = some _ := mk.1.cell 2; have c0_3 : _ = some _ := mk.1.cell 3; have c0_f := mk.1.free; have c0_l := mk.1.lt; clear mk)
    | fail)
  exact bodyPost_ret (by simp [results, Tryz.results29, go_sem, c0_0, c0_1, c0_2, c0_3, c0_l, Nat.ne_of_lt c0_l, Nat.ne_of_gt c0_l] <;> (first | exact ⟨rfl, rfl⟩ | exact ⟨rfl, rfl, rfl, rfl⟩ | rfl)) rfl ⟨rfl, by (refine hx.trans ?_; with_reducible repeat (first | assumption | exact x3.trans hx' | exact x3.trans (by assumption) | apply Ext.alloc | apply Ext.drew | (refine Ext.store1 ?_ (by omega) _)))⟩

set_option maxRecDepth 100000 in
set_option maxHeartbeats 4000000 in
theorem b_one (v : Int) (W w : World) (hx : Ext W w) :
    Calls Tryz.prog 46 #[.int .u64 v] w fun e w' => e = .returned (.agg #[.int .u64 (bone v).ul, .int .u64 (bone v).uh, .int .i64 (bone v).sl, .int .i64 (bone v).sh]) ∧ Ext W w' := by
  obtain ⟨W3, hW3⟩ : ∃ W3, W3 = (w.alloc (.cells #[.int .u64 0, .int .u64 0, .int .i64 0, .int .i64 0] 25)) := ⟨_, rfl⟩
  have x3 : Ext w W3 := by rw [hW3]; exact ((Ext.refl w).alloc _)
  have MK := hide (fun w' (h : Ext W3 w') => bk1 (hW3 ▸ h))
  have hx' : Ext W3 W3 := Ext.refl _
  go_enter Tryz.func46, Tryz.ntmps46
  go_wp2_with fail
  rw [← hW3]
  clear hW3
  (try clear c0_0 c0_1 c0_2 c0_3 c0_f c0_l); have mk := MK.out _ hx'; have c0_0 : _ = some _ := mk.1.cell 0; have c0_1 : _ = some _ := mk.1.cell 1; have c0_2 : _ = some _ := mk.1.cell 2; have c0_3 : _ = some _ := mk.1.cell 3; have c0_f := mk.1.free; have c0_l := mk.1.lt; clear mk
  go_wp2_with (first
    | (go_at_call 80; (with_reducible refine (b_of _ _ _ _ W3 _ (by assumption)).mono ?_); rintro e w' ⟨rfl, hx'⟩; (try clear c0_0 c0_1 c0_2 c0_3 c0_f c0_l); have mk := MK.out _ hx'; have c0_0 : _ = some _ := mk.1.cell 0; have c0_1 : _ = some _ := mk.1.cell 1; have c0_2 : _ = some _ := mk.1.cell 2; have c0_3 : _ = some _ := mk.1.cell 3; have c0_f := mk.1.free; have c0_l := mk.1.lt; clear mk)
    | fail)
  exact bodyPost_ret (by simp [results, Tryz.results46, go_sem, c0_0, c0_1, c0_2, c0_3, c0_l, Nat.ne_of_lt c0_l, Nat.ne_of_gt c0_l] <;> (first | exact ⟨rfl, rfl⟩ | exact ⟨rfl, rfl, rfl, rfl⟩ | rfl)) rfl ⟨rfl, by (refine hx.trans ?_; with_reducible repeat (first | assumption | exact x3.trans hx' | exact x3.trans (by assumption) | apply Ext.alloc | apply Ext.drew | (refine Ext.store1 ?_ (by omega) _)))⟩

set_option maxRecDepth 100000 in
set_option maxHeartbeats 4000000 in
theorem b_uhas (lo hi v : Int) (t : Bool) (h : (decide (lo ≤ v) && decide (v ≤ hi)) = t) (W w : World) (hx : Ext W w) :
    Calls Tryz.prog 100 #[.agg #[.int .u64 lo, .int .u64 hi], .int .u64 v] w fun e w' => e = .returned (.bool t) ∧ Ext W w' := by
  subst h
  have hc : (decide (lo ≤ v) = false ∧ (decide (lo ≤ v) && decide (v ≤ hi)) = false) ∨ (decide (lo ≤ v) = true ∧ (decide (lo ≤ v) && decide (v ≤ hi)) = decide (v ≤ hi)) := by
    cases decide (lo ≤ v) <;> simp
  rcases hc with ⟨h1, h2⟩ | ⟨h1, h2⟩
  all_goals
    rw [h2]
    clear h2
    have h3 := h1
    simp at h3
    go_enter Tryz.func100, Tryz.ntmps100
    go_wp2_with fail
    go_ret
    exact ⟨rfl, by (refine hx.trans ?_; with_reducible repeat (first | exact Ext.refl _ | assumption | apply Ext.alloc | (refine Ext.store1 ?_ (by simp) _)))⟩

set_option maxRecDepth 100000 in
set_option maxHeartbeats 4000000 in
theorem b_ihas (lo hi v : Int) (t : Bool) (h : (decide (lo ≤ v) && decide (v ≤ hi)) = t) (W w : World) (hx : Ext W w) :
    Calls Tryz.prog 101 #[.agg #[.int .i64 lo, .int .i64 hi], .int .i64 v] w fun e w' => e = .returned (.bool t) ∧ Ext W w' := by
  subst h
  have hc : (decide (lo ≤ v) = false ∧ (decide (lo ≤ v) && decide (v ≤ hi)) = false) ∨ (decide (lo ≤ v) = true ∧ (decide (lo ≤ v) && decide (v ≤ hi)) = decide (v ≤ hi)) := by
    cases decide (lo ≤ v) <;> simp
  rcases hc with ⟨h1, h2⟩ | ⟨h1, h2⟩
  all_goals
    rw [h2]
    clear h2
    have h3 := h1
    simp at h3
    go_enter Tryz.func101, Tryz.ntmps101
    go_wp2_with fail
    go_ret
    exact ⟨rfl, by (refine hx.trans ?_; with_reducible repeat (first | exact Ext.refl _ | assumption | apply Ext.alloc | (refine Ext.store1 ?_ (by simp) _)))⟩

set_option maxRecDepth 100000 in
set_option maxHeartbeats 4000000 in
theorem b_may (a : Rg) (t : Bool) (h : bmay a = t) (W w : World) (hx : Ext W w) :
    Calls Tryz.prog 39 #[.agg #[.int .u64 a.ul, .int .u64 a.uh, .int .i64 a.sl, .int .i64 a.sh]] w fun e w' => e = .returned (.bool t) ∧ Ext W w' := by
  subst h
  obtain ⟨W3, hW3⟩ : ∃ W3, W3 = (w.alloc (.cells #[.int .u64 a.ul, .int .u64 a.uh, .int .i64 a.sl, .int .i64 a.sh] 25)) := ⟨_, rfl⟩
  have x3 : Ext w W3 := by rw [hW3]; exact ((Ext.refl w).alloc _)
  have MK := hide (fun w' (h : Ext W3 w') => bk1 (hW3 ▸ h))
  have hx' : Ext W3 W3 := Ext.refl _
  have hc : (decide (a.ul ≤ a.uh) = false ∧ bmay a = false) ∨ (decide (a.ul ≤ a.uh) = true ∧ bmay a = decide (a.sl ≤ a.sh)) := by
    unfold bmay
    cases decide (a.ul ≤ a.uh) <;> simp
  rcases hc with ⟨h1, h2⟩ | ⟨h1, h2⟩
  all_goals
    rw [h2]
    have H1 := hide h1
    clear h1 h2
    go_enter Tryz.func39, Tryz.ntmps39
    go_wp2_with fail
    rw [← hW3]
    clear hW3
    (try clear c0_0 c0_1 c0_2 c0_3 c0_f c0_l); have mk := MK.out _ hx'; have c0_0 : _ = some _ := mk.1.cell 0; have c0_1 : _ = some _ := mk.1.cell 1; have c0_2 : _ = some _ := mk.1.cell 2; have c0_3 : _ = some _ := mk.1.cell 3; have c0_f := mk.1.free; have c0_l := mk.1.lt; clear mk
    go_wp2_with (first
      | (go_at_call 82; (with_reducible refine (b_uns a W3 _ (by assumption)).mono ?_); rintro e w' ⟨rfl, hx'⟩; (try clear c0_0 c0_1 c0_2 c0_3 c0_f c0_l); have mk := MK.out _ hx'; have c0_0 : _ = some _ := mk.1.cell 0; have c0_1 : _ = some _ := mk.1.cell 1; have c0_2 : _ = some _ := mk.1.cell 2; have c0_3 : _ = some _ := mk.1.cell 3; have c0_f := mk.1.free; have c0_l := mk.1.lt; clear mk)
      | (go_at_call 84; (with_reducible refine (b_sig a W3 _ (by assumption)).mono ?_); rintro e w' ⟨rfl, hx'⟩; (try clear c0_0 c0_1 c0_2 c0_3 c0_f c0_l); have mk := MK.out _ hx'; have c0_0 : _ = some _ := mk.1.cell 0; have c0_1 : _ = some _ := mk.1.cell 1; have c0_2 : _ = some _ := mk.1.cell 2; have c0_3 : _ = some _ := mk.1.cell 3; have c0_f := mk.1.free; have c0_l := mk.1.lt; clear mk)
      | (go_at_call 97; (with_reducible refine (b_umay _ _ _ H1.out W3 _ (by assumption)).mono ?_); rintro e w' ⟨rfl, hx'⟩; (try clear c0_0 c0_1 c0_2 c0_3 c0_f c0_l); have mk := MK.out _ hx'; have c0_0 : _ = some _ := mk.1.cell 0; have c0_1 : _ = some _ := mk.1.cell 1; have c0_2 : _ = some _ := mk.1.cell 2; have c0_3 : _ = some _ := mk.1.cell 3; have c0_f := mk.1.free; have c0_l := mk.1.lt; clear mk)
      | (go_at_call 98; (with_reducible refine (b_imay _ _ _ rfl W3 _ (by assumption)).mono ?_); rintro e w' ⟨rfl, hx'⟩; (try clear c0_0 c0_1 c0_2 c0_3 c0_f c0_l); have mk := MK.out _ hx'; have c0_0 : _ = some _ := mk.1.cell 0; have c0_1 : _ = some _ := mk.1.cell 1; have c0_2 : _ = some _ := mk.1.cell 2; have c0_3 : _ = some _ := mk.1.cell 3; have c0_f := mk.1.free; have c0_l := mk.1.lt; clear mk)
      | fail)
    go_ret
    exact ⟨rfl, by (refine hx.trans ?_; with_reducible repeat (first | assumption | exact x3.trans hx' | exact x3.trans (by assumption) | apply Ext.alloc | apply Ext.drew | (refine Ext.store1 ?_ (by omega) _)))⟩

set_option maxRecDepth 100000 in
set_option maxHeartbeats 4000000 in
theorem b_has (a : Rg) (v : Int) (t : Bool) (h : bhas a v = t) (W w : World) (hx : Ext W w) :
    Calls Tryz.prog 52 #[.agg #[.int .u64 a.ul, .int .u64 a.uh, .int .i64 a.sl, .int .i64 a.sh], .int .u64 v] w fun e w' => e = .returned (.bool t) ∧ Ext W w' := by
  subst h
  obtain ⟨W3, hW3⟩ : ∃ W3, W3 = (w.alloc (.cells #[.int .u64 a.ul, .int .u64 a.uh, .int .i64 a.sl, .int .i64 a.sh] 25)) := ⟨_, rfl⟩
  have x3 : Ext w W3 := by rw [hW3]; exact ((Ext.refl w).alloc _)
  have MK := hide (fun w' (h : Ext W3 w') => bk1 (hW3 ▸ h))
  have hx' : Ext W3 W3 := Ext.refl _
  have hc : (bmay a = false ∧ bhas a v = false) ∨ (bmay a = true ∧ (decide (a.ul ≤ v) && decide (v ≤ a.uh)) = false ∧ bhas a v = false) ∨ (bmay a = true ∧ (decide (a.ul ≤ v) && decide (v ≤ a.uh)) = true ∧ bhas a v = (decide (a.sl ≤ s64 v) && decide (s64 v ≤ a.sh))) := by
    unfold bhas
    cases bmay a <;> cases (decide (a.ul ≤ v) && decide (v ≤ a.uh)) <;> simp
  rcases hc with ⟨h1, h2⟩ | ⟨h1, h3, h2⟩ | ⟨h1, h3, h2⟩
  all_goals
    rw [h2]
    have H1 := hide h1
    (try have H3 := hide h3)
    (try clear h3)
    clear h1 h2
    go_enter Tryz.func52, Tryz.ntmps52
    go_wp2_with fail
    rw [← hW3]
    clear hW3
    (try clear c0_0 c0_1 c0_2 c0_3 c0_f c0_l); have mk := MK.out _ hx'; have c0_0 : _ = some _ := mk.1.cell 0; have c0_1 : _ = some _ := mk.1.cell 1; have c0_2 : _ = some _ := mk.1.cell 2; have c0_3 : _ = some _ := mk.1.cell 3; have c0_f := mk.1.free; have c0_l := mk.1.lt; clear mk
    go_wp2_with (first
      | (go_at_call 39; (with_reducible refine (b_may a _ H1.out W3 _ (by assumption)).mono ?_); rintro e w' ⟨rfl, hx'⟩; (try clear c0_0 c0_1 c0_2 c0_3 c0_f c0_l); have mk := MK.out _ hx'; have c0_0 : _ = some _ := mk.1.cell 0; have c0_1 : _ = some _ := mk.1.cell 1; have c0_2 : _ = some _ := mk.1.cell 2; have c0_3 : _ = some _ := mk.1.cell 3; have c0_f := mk.1.free; have c0_l := mk.1.lt; clear mk)
      | (go_at_call 82; (with_reducible refine (b_uns a W3 _ (by assumption)).mono ?_); rintro e w' ⟨rfl, hx'⟩; (try clear c0_0 c0_1 c0_2 c0_3 c0_f c0_l); have mk := MK.out _ hx'; have c0_0 : _ = some _ := mk.1.cell 0; have c0_1 : _ = some _ := mk.1.cell 1; have c0_2 : _ = some _ := mk.1.cell 2; have c0_3 : _ = some _ := mk.1.cell 3; have c0_f := mk.1.free; have c0_l := mk.1.lt; clear mk)
      | (go_at_call 84; (with_reducible refine (b_sig a W3 _ (by assumption)).mono ?_); rintro e w' ⟨rfl, hx'⟩; (try clear c0_0 c0_1 c0_2 c0_3 c0_f c0_l); have mk := MK.out _ hx'; have c0_0 : _ = some _ := mk.1.cell 0; have c0_1 : _ = some _ := mk.1.cell 1; have c0_2 : _ = some _ := mk.1.cell 2; have c0_3 : _ = some _ := mk.1.cell 3; have c0_f := mk.1.free; have c0_l := mk.1.lt; clear mk)
      | (go_at_call 100; (with_reducible refine (b_uhas _ _ _ _ H3.out W3 _ (by assumption)).mono ?_); rintro e w' ⟨rfl, hx'⟩; (try clear c0_0 c0_1 c0_2 c0_3 c0_f c0_l); have mk := MK.out _ hx'; have c0_0 : _ = some _ := mk.1.cell 0; have c0_1 : _ = some _ := mk.1.cell 1; have c0_2 : _ = some _ := mk.1.cell 2; have c0_3 : _ = some _ := mk.1.cell 3; have c0_f := mk.1.free; have c0_l := mk.1.lt; clear mk)
      | (go_at_call 101; (with_reducible refine (b_ihas _ _ _ _ rfl W3 _ (by assumption)).mono ?_); rintro e w' ⟨rfl, hx'⟩; (try clear c0_0 c0_1 c0_2 c0_3 c0_f c0_l); have mk := MK.out _ hx'; have c0_0 : _ = some _ := mk.1.cell 0; have c0_1 : _ = some _ := mk.1.cell 1; have c0_2 : _ = some _ := mk.1.cell 2; have c0_3 : _ = some _ := mk.1.cell 3; have c0_f := mk.1.free; have c0_l := mk.1.lt; clear mk)
      | fail)
    go_ret
    exact ⟨rfl, by (refine hx.trans ?_; with_reducible repeat (first | assumption | exact x3.trans hx' | exact x3.trans (by assumption) | apply Ext.alloc | apply Ext.drew | (refine Ext.store1 ?_ (by omega) _)))⟩
end Go.Proofs.YtcfnglbcgkappaaGreat
