/- The walk of the bits laws' own wakes. -/
import Derived.Test.YteheidiiigjglaaBitsM
namespace Go.Proofs.Yteheidiiigjglaa
open Go.RowKit
set_option maxHeartbeats 1000000 in
theorem bwakes_any (W w : World) (hx : Ext W w) :
    Calls Try.prog 32 #[] w fun e w' => e = .returned (.bool true) ∧ Ext W w' := by
  have e1 : zdo 12 32 2147483648 4 = 4160749568 := by decide +kernel
  have e2 : zdo 3 64 5 0 = 0 := by decide +kernel
  have e3 : zdo 6 32 1 33 = 2 := by decide +kernel
  go_enter Try.func32, Try.ntmps32
  go_wp2_with (go_at_call 31; refine (Calls_ext (do_any _ _ _ _ _ (by omega) (by omega) (by omega) (by omega) (by omega) (by omega) (by decide)) (by assumption)).mono ?_; rintro e w' ⟨rfl, hx'⟩)

  all_goals go_ret

  exact ⟨rfl, by assumption⟩
end Go.Proofs.Yteheidiiigjglaa
