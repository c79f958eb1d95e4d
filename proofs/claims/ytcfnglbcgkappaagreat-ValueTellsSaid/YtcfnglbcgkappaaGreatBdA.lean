/- Walks of the small functions of package bounds. -/
import Derived.Test.YtcfnglbcgkappaaGreatBx
import Derived.Test.YtcfnglbcgkappaaGreatBdG
import Derived.Deep.RegionHeld3
import Derived.Deep.RegionWith
import Derived.Deep.DeepCutAuto
import Derived.Deep.CutBlock
set_option linter.unusedVariables false
set_option linter.unusedSimpArgs false
namespace Go.Proofs.YtcfnglbcgkappaaGreat
open Go.RowKit Go.ChangeShapes Go.WideShapes

theorem agg2 {k j : IntKind} {a b c d : Int} (h1 : a = c) (h2 : b = d) : Ending.returned (.agg #[.int k a, .int j b]) = Ending.returned (.agg #[.int k c, .int j d]) := by rw [h1, h2]

set_option maxRecDepth 100000 in
set_option maxHeartbeats 4000000 in
theorem b_uns (a : Rg) (W w : World) (hx : Ext W w) :
    Calls Tryz.prog 82 #[.agg #[.int .u64 a.ul, .int .u64 a.uh, .int .i64 a.sl, .int .i64 a.sh]] w fun e w' => e = .returned (.agg #[.int .u64 a.ul, .int .u64 a.uh]) ∧ Ext W w' := by
  go_enter Tryz.func82, Tryz.ntmps82
  go_wp2_with fail
  exact bodyPost_ret (by simp [results, Tryz.results82, go_sem] <;> (first | exact ⟨rfl, rfl⟩ | exact ⟨rfl, rfl, rfl, rfl⟩ | rfl)) rfl ⟨rfl, by (refine hx.trans ?_; with_reducible repeat (first | exact Ext.refl _ | assumption | apply Ext.alloc | (refine Ext.store1 ?_ (by simp) _)))⟩

set_option maxRecDepth 100000 in
set_option maxHeartbeats 4000000 in
theorem b_sig (a : Rg) (W w : World) (hx : Ext W w) :
    Calls Tryz.prog 84 #[.agg #[.int .u64 a.ul, .int .u64 a.uh, .int .i64 a.sl, .int .i64 a.sh]] w fun e w' => e = .returned (.agg #[.int .i64 a.sl, .int .i64 a.sh]) ∧ Ext W w' := by
  go_enter Tryz.func84, Tryz.ntmps84
  go_wp2_with fail
  exact bodyPost_ret (by simp [results, Tryz.results84, go_sem] <;> (first | exact ⟨rfl, rfl⟩ | exact ⟨rfl, rfl, rfl, rfl⟩ | rfl)) rfl ⟨rfl, by (refine hx.trans ?_; with_reducible repeat (first | exact Ext.refl _ | assumption | apply Ext.alloc | (refine Ext.store1 ?_ (by simp) _)))⟩

set_option maxRecDepth 100000 in
set_option maxHeartbeats 4000000 in
theorem b_umay (lo hi : Int) (t : Bool) (h : decide (lo ≤ hi) = t) (W w : World) (hx : Ext W w) :
    Calls Tryz.prog 97 #[.agg #[.int .u64 lo, .int .u64 hi]] w fun e w' => e = .returned (.bool t) ∧ Ext W w' := by
  subst h
  go_enter Tryz.func97, Tryz.ntmps97
  go_wp2_with fail
  go_ret
  exact ⟨rfl, by (refine hx.trans ?_; with_reducible repeat (first | exact Ext.refl _ | assumption | apply Ext.alloc | (refine Ext.store1 ?_ (by simp) _)))⟩

set_option maxRecDepth 100000 in
set_option maxHeartbeats 4000000 in
theorem b_umeet (lo hi l h : Int) (W w : World) (hx : Ext W w) :
    Calls Tryz.prog 83 #[.agg #[.int .u64 lo, .int .u64 hi], .agg #[.int .u64 l, .int .u64 h]] w fun e w' => e = .returned (.agg #[.int .u64 (max lo l), .int .u64 (min hi h)]) ∧ Ext W w' := by
  go_enter Tryz.func83, Tryz.ntmps83
  go_wp2_with fail
  all_goals
    exact bodyPost_ret (by simp [results, Tryz.results83, go_sem] <;> (first | exact ⟨rfl, rfl⟩ | exact ⟨rfl, rfl, rfl, rfl⟩ | rfl)) rfl ⟨agg2 (by omega) (by omega), by (refine hx.trans ?_; with_reducible repeat (first | exact Ext.refl _ | assumption | apply Ext.alloc | (refine Ext.store1 ?_ (by simp) _)))⟩

set_option maxRecDepth 100000 in
set_option maxHeartbeats 4000000 in
theorem b_ujoin (lo hi l h : Int) (W w : World) (hx : Ext W w) :
    Calls Tryz.prog 102 #[.agg #[.int .u64 lo, .int .u64 hi], .agg #[.int .u64 l, .int .u64 h]] w fun e w' => e = .returned (.agg #[.int .u64 (min lo l), .int .u64 (max hi h)]) ∧ Ext W w' := by
  go_enter Tryz.func102, Tryz.ntmps102
  go_wp2_with fail
  all_goals
    exact bodyPost_ret (by simp [results, Tryz.results102, go_sem] <;> (first | exact ⟨rfl, rfl⟩ | exact ⟨rfl, rfl, rfl, rfl⟩ | rfl)) rfl ⟨agg2 (by omega) (by omega), by (refine hx.trans ?_; with_reducible repeat (first | exact Ext.refl _ | assumption | apply Ext.alloc | (refine Ext.store1 ?_ (by simp) _)))⟩

set_option maxRecDepth 100000 in
set_option maxHeartbeats 4000000 in
theorem b_imay (lo hi : Int) (t : Bool) (h : decide (lo ≤ hi) = t) (W w : World) (hx : Ext W w) :
    Calls Tryz.prog 98 #[.agg #[.int .i64 lo, .int .i64 hi]] w fun e w' => e = .returned (.bool t) ∧ Ext W w' := by
  subst h
  go_enter Tryz.func98, Tryz.ntmps98
  go_wp2_with fail
  go_ret
  exact ⟨rfl, by (refine hx.trans ?_; with_reducible repeat (first | exact Ext.refl _ | assumption | apply Ext.alloc | (refine Ext.store1 ?_ (by simp) _)))⟩

set_option maxRecDepth 100000 in
set_option maxHeartbeats 4000000 in
theorem b_imeet (lo hi l h : Int) (W w : World) (hx : Ext W w) :
    Calls Tryz.prog 85 #[.agg #[.int .i64 lo, .int .i64 hi], .agg #[.int .i64 l, .int .i64 h]] w fun e w' => e = .returned (.agg #[.int .i64 (max lo l), .int .i64 (min hi h)]) ∧ Ext W w' := by
  go_enter Tryz.func85, Tryz.ntmps85
  go_wp2_with fail
  all_goals
    exact bodyPost_ret (by simp [results, Tryz.results85, go_sem] <;> (first | exact ⟨rfl, rfl⟩ | exact ⟨rfl, rfl, rfl, rfl⟩ | rfl)) rfl ⟨agg2 (by omega) (by omega), by (refine hx.trans ?_; with_reducible repeat (first | exact Ext.refl _ | assumption | apply Ext.alloc | (refine Ext.store1 ?_ (by simp) _)))⟩

set_option maxRecDepth 100000 in
set_option maxHeartbeats 4000000 in
theorem b_ijoin (lo hi l h : Int) (W w : World) (hx : Ext W w) :
    Calls Tryz.prog 103 #[.agg #[.int .i64 lo, .int .i64 hi], .agg #[.int .i64 l, .int .i64 h]] w fun e w' => e = .returned (.agg #[.int .i64 (min lo l), .int .i64 (max hi h)]) ∧ Ext W w' := by
  go_enter Tryz.func103, Tryz.ntmps103
  go_wp2_with fail
  all_goals
    exact bodyPost_ret (by simp [results, Tryz.results103, go_sem] <;> (first | exact ⟨rfl, rfl⟩ | exact ⟨rfl, rfl, rfl, rfl⟩ | rfl)) rfl ⟨agg2 (by omega) (by omega), by (refine hx.trans ?_; with_reducible repeat (first | exact Ext.refl _ | assumption | apply Ext.alloc | (refine Ext.store1 ?_ (by simp) _)))⟩

set_option maxRecDepth 100000 in
set_option maxHeartbeats 4000000 in
theorem b_of (ul uh sl sh : Int) (W w : World) (hx : Ext W w) :
    Calls Tryz.prog 80 #[.agg #[.int .u64 ul, .int .u64 uh], .agg #[.int .i64 sl, .int .i64 sh]] w fun e w' => e = .returned (.agg #[.int .u64 ul, .int .u64 uh, .int .i64 sl, .int .i64 sh]) ∧ Ext W w' := by
  go_enter Tryz.func80, Tryz.ntmps80
  go_wp2_with fail
  exact bodyPost_ret (by simp [results, Tryz.results80, go_sem] <;> (first | exact ⟨rfl, rfl⟩ | exact ⟨rfl, rfl, rfl, rfl⟩ | rfl)) rfl ⟨rfl, by (refine hx.trans ?_; with_reducible repeat (first | exact Ext.refl _ | assumption | apply Ext.alloc | (refine Ext.store1 ?_ (by simp) _)))⟩
end Go.Proofs.YtcfnglbcgkappaaGreat
