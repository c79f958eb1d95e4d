/- The walks of order, Holds and Not, and of the reference's Holds and Not. -/
import Derived.Test.YtcfnglbcgkappaaGreatBitsPm
set_option linter.unusedVariables false
set_option linter.unusedSimpArgs false
namespace Go.Proofs.YtcfnglbcgkappaaGreat
open Go.RowKit

def zord (a b : Int) : Int := if a < b then -1 else if b < a then 1 else 0
def zhold (cc w a b : Int) : Bool :=
  if cc = 0 then zcut a w == zcut b w
  else if cc = 1 then zcut a w != zcut b w
  else if cc = 2 then decide (zcut b w < zcut a w)
  else if cc = 3 then decide (zcut b w ≤ zcut a w)
  else if cc = 4 then decide (zcut a w < zcut b w)
  else if cc = 5 then decide (zcut a w ≤ zcut b w)
  else if cc = 6 then decide (zs b w < zs a w)
  else if cc = 7 then decide (zs b w ≤ zs a w)
  else if cc = 8 then decide (zs a w < zs b w)
  else if cc = 9 then decide (zs a w ≤ zs b w)
  else bits .and .u64 (zcut a w) (zcut b w) != 0

theorem cc_cases {op : Int} (h4 : 0 ≤ op) (h5 : op ≤ 10) : op = 0 ∨ op = 1 ∨ op = 2 ∨ op = 3 ∨ op = 4 ∨ op = 5 ∨ op = 6 ∨ op = 7 ∨ op = 8 ∨ op = 9 ∨ op = 10 := by omega
theorem ord_eq (a b : Int) : (zord a b == 0) = (a == b) := by unfold zord; rw [Bool.eq_iff_iff]; simp only [beq_iff_eq]; (repeat' split) <;> omega
theorem ord_ne (a b : Int) : (zord a b != 0) = (a != b) := by rw [bne, bne, ord_eq]
theorem ord_gt (a b : Int) : decide (0 < zord a b) = decide (b < a) := by unfold zord; rw [decide_eq_decide]; (repeat' split) <;> omega
theorem ord_ge (a b : Int) : decide (0 ≤ zord a b) = decide (b ≤ a) := by unfold zord; rw [decide_eq_decide]; (repeat' split) <;> omega
theorem ord_lt (a b : Int) : decide (zord a b < 0) = decide (a < b) := by unfold zord; rw [decide_eq_decide]; (repeat' split) <;> omega
theorem ord_le (a b : Int) : decide (zord a b ≤ 0) = decide (a ≤ b) := by unfold zord; rw [decide_eq_decide]; (repeat' split) <;> omega

end Go.Proofs.YtcfnglbcgkappaaGreat
