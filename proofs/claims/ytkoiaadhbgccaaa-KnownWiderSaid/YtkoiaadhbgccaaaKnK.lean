/- Contracts of the small functions of layer known, with a letter for what they tell. -/
import Derived.Test.YtkoiaadhbgccaaaKnW
import Derived.Deep.RegionHeld3
import Derived.Deep.RegionWith
import Derived.Deep.DeepCutAuto
set_option linter.unusedVariables false
set_option linter.unusedSimpArgs false
namespace Go.Proofs.Ytkoiaadhbgccaaa
open Go.RowKit Go.ChangeShapes Go.WideShapes

theorem kc_may (k : Kn) (t : Bool) (h : kmay k = t) (W w : World) (hx : Ext W w) : Calls Try.prog 27 #[.agg #[.int .u64 k.v, .int .u64 k.m]] w fun e w' => e = .returned (.bool t) ∧ Ext W w' := by
  have g := kmay_any k W w hx
  rw [h] at g
  exact g
theorem kc_has (k : Kn) (x : Int) (t : Bool) (h : khas k x = t) (W w : World) (hx : Ext W w) : Calls Try.prog 33 #[.agg #[.int .u64 k.v, .int .u64 k.m], .int .u64 x] w fun e w' => e = .returned (.bool t) ∧ Ext W w' := by
  have g := khas_any k x W w hx
  rw [h] at g
  exact g
theorem kc_in (k j : Kn) (t : Bool) (h : kin k j = t) (W w : World) (hx : Ext W w) : Calls Try.prog 31 #[.agg #[.int .u64 k.v, .int .u64 k.m], .agg #[.int .u64 j.v, .int .u64 j.m]] w fun e w' => e = .returned (.bool t) ∧ Ext W w' := by
  have g := kin_any k j W w hx
  rw [h] at g
  exact g
theorem kc_meet (a b : Kn) (t : Bool) (h : kmeets a b = t) (W w : World) (hx : Ext W w) : Calls Try.prog 34 #[.agg #[.int .u64 a.v, .int .u64 a.m], .agg #[.int .u64 b.v, .int .u64 b.m]] w fun e w' => e = .returned (.tuple #[.agg #[.int .u64 (kmeet a b).v, .int .u64 (kmeet a b).m], .bool t]) ∧ Ext W w' := by
  have g := kmeet_any a b W w hx
  rw [h] at g
  exact g
theorem kc_cut (k : Kn) (x : Int) (j : Kn) (hk : k.wf) (h : kcut k x = j) (W w : World) (hx : Ext W w) : Calls Try.prog 28 #[.agg #[.int .u64 k.v, .int .u64 k.m], .int .i8 x] w fun e w' => e = .returned (.agg #[.int .u64 j.v, .int .u64 j.m]) ∧ Ext W w' := by
  have g := kkcut_any k x W w hx hk
  rw [h] at g
  exact g
theorem kc_do (op x : Int) (a b k : Kn) (ha : a.wf) (hb : b.wf) (h : kdo op x a b = k) (W w : World) (hx : Ext W w) : Calls Try.prog 24 #[.int .i8 op, .int .i8 x, .agg #[.int .u64 a.v, .int .u64 a.m], .agg #[.int .u64 b.v, .int .u64 b.m]] w fun e w' => e = .returned (.agg #[.int .u64 k.v, .int .u64 k.m]) ∧ Ext W w' := by
  have g := kdo_any op x a b W w hx ha hb
  rw [h] at g
  exact g
theorem kc_common (lo hi : Int) (b : 0 ≤ lo ∧ lo ≤ 18446744073709551615 ∧ 0 ≤ hi ∧ hi ≤ 18446744073709551615) (W w : World) (hx : Ext W w) : Calls Try.prog 35 #[.int .u64 lo, .int .u64 hi] w fun e w' => e = .returned (.agg #[.int .u64 (kcommon lo hi).v, .int .u64 (kcommon lo hi).m]) ∧ Ext W w' :=
  kcommon_any lo hi W w hx b.1 b.2.1 b.2.2.1 b.2.2.2
end Go.Proofs.Ytkoiaadhbgccaaa
