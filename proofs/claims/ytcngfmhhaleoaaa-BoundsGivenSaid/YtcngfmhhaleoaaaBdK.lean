/- The walk of the laws' wakes (layer 07). -/
import Derived.Test.YtcngfmhhaleoaaaBdW
import Derived.Test.YtcngfmhhaleoaaaBdG4
import Derived.Deep.RegionHeld3
import Derived.Deep.RegionWith
import Derived.Deep.DeepCutAuto
import Derived.Deep.CutBlock
set_option linter.unusedVariables false
set_option linter.unusedSimpArgs false
namespace Go.Proofs.Ytcngfmhhaleoaaa
open Go.RowKit Go.ChangeShapes Go.WideShapes

theorem wk_small (x y : Int) (h1 : s64 x = x) (h2 : s64 y = y) (W w : World) (hx : Ext W w) : Calls Try.prog 57 #[.int .u64 x, .int .u64 y] w fun e w' => e = .returned (.agg #[.int .u64 x, .int .u64 y, .int .i64 x, .int .i64 y]) ∧ Ext W w' := by
  have h := b_small x y W w hx
  rw [h1, h2] at h
  exact h
theorem wk_one (W w : World) (hx : Ext W w) : Calls Try.prog 25 #[.int .u64 4] w fun e w' => e = .returned (.agg #[.int .u64 4, .int .u64 4, .int .i64 4, .int .i64 4]) ∧ Ext W w' := by
  have h := b_one 4 W w hx
  rw [show bone 4 = (⟨4, 4, 4, 4⟩ : Rg) from by decide +kernel] at h
  exact h
theorem wk_given (W w : World) (hx : Ext W w) : Calls Try.prog 19 #[.int .i8 4, .agg #[.int .u64 0, .int .u64 9, .int .i64 0, .int .i64 9], .agg #[.int .u64 4, .int .u64 4, .int .i64 4, .int .i64 4]] w fun e w' => e = .returned (.tuple #[.agg #[.int .u64 0, .int .u64 3, .int .i64 0, .int .i64 3], .bool true]) ∧ Ext W w' := by
  have h := b_given4 (⟨0, 9, 0, 9⟩ : Rg) (⟨4, 4, 4, 4⟩ : Rg) (by unfold Rg.wf; simp) (by unfold Rg.wf; simp) (by decide +kernel) (by decide +kernel) (by decide +kernel) W w hx
  rw [show bgiv 4 (⟨0, 9, 0, 9⟩ : Rg) (⟨4, 4, 4, 4⟩ : Rg) = (⟨0, 3, 0, 3⟩ : Rg) from by decide +kernel, show bgok 4 (⟨0, 9, 0, 9⟩ : Rg) (⟨4, 4, 4, 4⟩ : Rg) = true from by decide +kernel] at h
  exact h
theorem wk_do (W w : World) (hx : Ext W w) : Calls Try.prog 32 #[.int .i8 0, .agg #[.int .u64 1, .int .u64 5, .int .i64 1, .int .i64 5], .agg #[.int .u64 2, .int .u64 3, .int .i64 2, .int .i64 3]] w fun e w' => e = .returned (.agg #[.int .u64 3, .int .u64 8, .int .i64 3, .int .i64 8]) ∧ Ext W w' := by
  have h := b_do0 (⟨1, 5, 1, 5⟩ : Rg) (⟨2, 3, 2, 3⟩ : Rg) (by unfold Rg.wf; simp) (by unfold Rg.wf; simp) (by decide +kernel) (by decide +kernel) W w hx
  rw [show bdo 0 (⟨1, 5, 1, 5⟩ : Rg) (⟨2, 3, 2, 3⟩ : Rg) = (⟨3, 8, 3, 8⟩ : Rg) from by decide +kernel] at h
  exact h

set_option maxRecDepth 100000 in
set_option maxHeartbeats 8000000 in
theorem b_wakes  (W w : World) (hx : Ext W w) :
    Calls Try.prog 14 #[] w fun e w' => e = .returned (.bool true) ∧ Ext W w' := by
  have MK : Hid (∀ w2, Ext w w2 → True) := hide (fun _ _ => trivial)
  have hx' : Ext w w := Ext.refl _
  go_enter Try.func14, Try.ntmps14
  go_wp2_with (first
    | (go_at_call 57; (with_reducible refine (wk_small 0 9 (by decide +kernel) (by decide +kernel) w _ (by assumption)).mono ?_); rintro e w' ⟨rfl, hx'⟩; skip)
    | (go_at_call 25; (with_reducible refine (wk_one w _ (by assumption)).mono ?_); rintro e w' ⟨rfl, hx'⟩; skip)
    | (go_at_call 19; (with_reducible refine (wk_given w _ (by assumption)).mono ?_); rintro e w' ⟨rfl, hx'⟩; skip)
    | fail)
  obtain ⟨V1, hV1⟩ : ∃ V1, V1 = (w'.alloc (.cells #[.int .u64 0, .int .u64 3, .int .i64 0, .int .i64 3] 24)) := ⟨_, rfl⟩
  rw [← hV1]
  obtain ⟨b1, hb1⟩ : ∃ b1, b1 = w'.heap.size := ⟨_, rfl⟩
  rw [← hb1]
  have xV1 : Ext w V1 := by rw [hV1]; exact (((Ext.refl w).trans hx').alloc _)
  have xq : Ext w V1 := by rw [hV1]; exact (hx'.alloc _)
  have cn : ∀ w2, Ext V1 w2 → Bk w2 (b1) #[.int .u64 0, .int .u64 3, .int .i64 0, .int .i64 3] 24 := fun w2 h => by rw [hb1]; have hh := bk1 (hV1 ▸ h); exact hh.1
  have MV1 := hide (fun w2 (h : Ext V1 w2) => (⟨cn w2 h, MK.out w2 (xq.trans h)⟩ : Bk w2 (b1) #[.int .u64 0, .int .u64 3, .int .i64 0, .int .i64 3] 24 ∧ _))
  have lb1 : w.heap.size ≤ b1 := by rw [hb1]; exact ((Ext.refl w).trans hx').size
  clear hV1 hb1 xq cn hx'
  skip
  have hx' : Ext V1 V1 := Ext.refl _
  (try clear c0_0 c0_1 c0_2 c0_3 c0_f c0_l); have mk := MV1.out _ hx'; have c0_0 : _ = some _ := mk.1.cell 0; have c0_1 : _ = some _ := mk.1.cell 1; have c0_2 : _ = some _ := mk.1.cell 2; have c0_3 : _ = some _ := mk.1.cell 3; have c0_f := mk.1.free; have c0_l := mk.1.lt; clear mk
  have SK : Hid (∀ w', Ext V1 w' → Ext V1 w' ∧ w'.cell? ⟨b1, 0, none⟩ = some (.int .u64 0) ∧ w'.cell? ⟨b1, 1, none⟩ = some (.int .u64 3) ∧ w'.cell? ⟨b1, 2, none⟩ = some (.int .i64 0) ∧ w'.cell? ⟨b1, 3, none⟩ = some (.int .i64 3)) := hide (fun w' h => ⟨h, (MV1.out _ h).1.cell 0, (MV1.out _ h).1.cell 1, (MV1.out _ h).1.cell 2, (MV1.out _ h).1.cell 3⟩)
  (try clear c0_0 c0_1 c0_2 c0_3 c0_f c0_l)
  go_region_held3 (fun w' => Ext V1 w' ∧ w'.cell? ⟨b1, 0, none⟩ = some (.int .u64 0) ∧ w'.cell? ⟨b1, 1, none⟩ = some (.int .u64 3) ∧ w'.cell? ⟨b1, 2, none⟩ = some (.int .i64 0) ∧ w'.cell? ⟨b1, 3, none⟩ = some (.int .i64 3))
    (first | exact SK.out _ hx' | exact SK.out _ hx'.drew)
    (first
    | (go_at_call 57; have hq := And.left ‹Ext V1 _ ∧ _›; (with_reducible refine (wk_small 1 5 (by decide +kernel) (by decide +kernel) V1 _ hq).mono ?_); rintro e w' ⟨rfl, hx'⟩)
    | (go_at_call 57; have hq := And.left ‹Ext V1 _ ∧ _›; (with_reducible refine (wk_small 2 3 (by decide +kernel) (by decide +kernel) V1 _ hq).mono ?_); rintro e w' ⟨rfl, hx'⟩)
    | (go_at_call 32; have hq := And.left ‹Ext V1 _ ∧ _›; (with_reducible refine (wk_do V1 _ hq).mono ?_); rintro e w' ⟨rfl, hx'⟩)
    | (go_at_call 57; have hq := And.left ‹Ext V1 _ ∧ _›; (with_reducible refine (wk_small 3 8 (by decide +kernel) (by decide +kernel) V1 _ hq).mono ?_); rintro e w' ⟨rfl, hx'⟩)
    | (go_at_call 57; have hq := And.left ‹Ext V1 _ ∧ _›; (with_reducible refine (wk_small 0 3 (by decide +kernel) (by decide +kernel) V1 _ hq).mono ?_); rintro e w' ⟨rfl, hx'⟩))
  clear SK
  all_goals
    go_wp2_with fail
    go_ret
    exact ⟨rfl, hx.trans (xV1.trans (by assumption))⟩
end Go.Proofs.Ytcngfmhhaleoaaa
