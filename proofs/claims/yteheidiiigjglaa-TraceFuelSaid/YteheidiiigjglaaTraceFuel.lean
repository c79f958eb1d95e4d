/- The walk of the law TraceFuel. -/
import Derived.Test.YteheidiiigjglaaTrE
namespace Go.Proofs.Yteheidiiigjglaa
open Go.RowKit

theorem wf_i64' {a : Int} (h : (Lit.int .i64 a).wf = true) : -9223372036854775808 ≤ a ∧ a ≤ 9223372036854775807 := by
  simpa [Lit.wf, IntKind.min, IntKind.max, IntKind.signed, IntKind.bits] using h
theorem zfuel_cases (n : Int) : (n < 0 ∧ zfuel n ≤ 64 ∧ 64 ≤ zfuel n) ∨ (0 ≤ n ∧ n ≤ 10000 ∧ zfuel n ≤ 64 * n + 64 ∧ 64 * n + 64 ≤ zfuel n) ∨ (10000 < n ∧ zfuel n ≤ 640064 ∧ 640064 ≤ zfuel n) := by
  unfold zfuel; omega

set_option maxRecDepth 100000 in
set_option maxHeartbeats 2000000 in
theorem law_TraceFuel (a0 : Int) (w0 : (Lit.int .i64 a0).wf = true) (a1 : Int) (w1 : (Lit.int .i64 a1).wf = true) (W : World) :
    Calls Try.prog 4 #[.int .i64 a0, .int .i64 a1] W fun e W' => e = .returned (.bool true) ∧ Below W.heap.size W W' := by
  clear w0 w1
  have hx := Ext.refl W
  rcases zfuel_cases a0 with ⟨g1, g2, g3⟩ | ⟨g1, g1', g2, g3⟩ | ⟨g1, g2, g3⟩ <;> rcases zfuel_cases a1 with ⟨k1, k2, k3⟩ | ⟨k1, k1', k2, k3⟩ | ⟨k1, k2, k3⟩
  all_goals
    by_cases hp : 0 < a0
  all_goals first
    | (exfalso; omega; done)
    | (go_enter Try.func4, Try.ntmps4
       go_wp2_with (first
         | (go_at_call 19; refine (fuel_any _ _).mono ?_; rintro e w' ⟨rfl, rfl⟩)
         | (go_at_call 16; refine (twakes_any W _ (by assumption)).mono ?_; rintro e w' ⟨rfl, hx'⟩)
         | fail)
       go_ret
       first
       | exact ⟨rfl, by assumption⟩
       | exact ⟨ret_bool (by simp; omega), by assumption⟩)
end Go.Proofs.Yteheidiiigjglaa
