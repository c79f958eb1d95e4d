/- Walks of plus, minus, without, above, below of package bounds. -/
import Derived.Test.YtcfnglbcgkappaaBdB
import Derived.Deep.RegionHeld3
import Derived.Deep.RegionWith
import Derived.Deep.DeepCutAuto
import Derived.Deep.CutBlock
set_option linter.unusedVariables false
set_option linter.unusedSimpArgs false
namespace Go.Proofs.Ytcfnglbcgkappaa
open Go.RowKit Go.ChangeShapes Go.WideShapes

def pwlo (f : Int → Int) (lo hi v : Int) : Int := if (lo == v) = true ∧ (hi == v) = false then f (lo + 1) else lo
def pwhi (f : Int → Int) (lo hi v : Int) : Int := if (lo == v) = false ∧ (hi == v) = true then f (hi - 1) else hi
/-- A bound met with another one, strictly (l1, ahead of its wrap) or not (l); at the edge m it stays (o). -/
def pab (f g : Int → Int) (l1 l : Int) (s : Bool) (m o : Int) : Int := if s = true ∧ (l == m) = true then o else g (if s = true then f l1 else l)

theorem tup2 {k j : IntKind} {a b c d : Int} {s t : Bool} (h1 : a = c) (h2 : b = d) (h3 : s = t) : Ending.returned (.tuple #[.agg #[.int k a, .int j b], .bool s]) = Ending.returned (.tuple #[.agg #[.int k c, .int j d], .bool t]) := by rw [h1, h2, h3]

set_option maxRecDepth 100000 in
set_option maxHeartbeats 4000000 in
theorem b_plus (a b : Int) (a0 : -9223372036854775808 ≤ a) (a1 : a ≤ 9223372036854775807) (b0 : -9223372036854775808 ≤ b) (b1 : b ≤ 9223372036854775807) (W w : World) (hx : Ext W w) :
    Calls Try.prog 153 #[.int .i64 a, .int .i64 b] w fun e w' => e = .returned (.tuple #[.int .i64 (wrap64 (a + b)), .bool (decide (-9223372036854775808 ≤ a + b ∧ a + b ≤ 9223372036854775807))]) ∧ Ext W w' := by
  rw [← plus_fine a0 a1 b0 b1]
  go_enter Try.func153, Try.ntmps153
  go_wp2_with fail
  exact bodyPost_ret (v := .tuple #[.int .i64 (wrap64 (a + b)), .bool (decide (0 ≤ bits .and .i64 (bits .xor .i64 a (wrap64 (a + b))) (bits .xor .i64 b (wrap64 (a + b)))))]) (by simp [results, Try.results153, go_sem] <;> rfl) rfl ⟨rfl, hx⟩

set_option maxRecDepth 100000 in
set_option maxHeartbeats 4000000 in
theorem b_minus (a b : Int) (a0 : -9223372036854775808 ≤ a) (a1 : a ≤ 9223372036854775807) (b0 : -9223372036854775808 ≤ b) (b1 : b ≤ 9223372036854775807) (W w : World) (hx : Ext W w) :
    Calls Try.prog 154 #[.int .i64 a, .int .i64 b] w fun e w' => e = .returned (.tuple #[.int .i64 (wrap64 (a - b)), .bool (decide (-9223372036854775808 ≤ a - b ∧ a - b ≤ 9223372036854775807))]) ∧ Ext W w' := by
  rw [← minus_fine a0 a1 b0 b1]
  go_enter Try.func154, Try.ntmps154
  go_wp2_with fail
  exact bodyPost_ret (v := .tuple #[.int .i64 (wrap64 (a - b)), .bool (decide (0 ≤ bits .and .i64 (bits .xor .i64 a b) (bits .xor .i64 a (wrap64 (a - b)))))]) (by simp [results, Try.results154, go_sem] <;> rfl) rfl ⟨rfl, hx⟩

end Go.Proofs.Ytcfnglbcgkappaa
