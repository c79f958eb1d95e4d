/- The plain law of StateAll: what is known of states of which little is known. No walk is in here. -/
import Derived.Test.YtgfghplnankgnaaSdW
import Derived.Test.YtgfghplnankgnaaKnZ
import Derived.Test.YtgfghplnankgnaaBdZ
set_option linter.unusedSimpArgs false
set_option linter.unusedVariables false
set_option linter.unusedVariables false
set_option linter.unusedSimpArgs false
namespace Go.Proofs.Ytgfghplnankgnaa
open Go Go.RowKit

theorem tok_scal : tok tscal = true := by decide
theorem tset_scal : tset tscal = true := by decide
theorem thold_scal {v : Int} (h0 : 0 ≤ v) (h1 : v ≤ 18446744073709551615) : thold tscal v = true := by
  rw [thold_1 tok_scal rfl]
  show vhas vall v = true
  exact vhas_mk (a := vall) (has_ball v h0 h1) (khas_all v)
theorem w8_u64 {b0 b1 b2 b3 b4 b5 b6 b7 : Int} (h0 : inK .u8 b0 = true) (h1 : inK .u8 b1 = true) (h2 : inK .u8 b2 = true) (h3 : inK .u8 b3 = true) (h4 : inK .u8 b4 = true) (h5 : inK .u8 b5 = true) (h6 : inK .u8 b6 = true) (h7 : inK .u8 b7 = true) :
    0 ≤ w8 b0 b1 b2 b3 b4 b5 b6 b7 ∧ w8 b0 b1 b2 b3 b4 b5 b6 b7 ≤ 18446744073709551615 := by
  have := inK_u8 h0; have := inK_u8 h1; have := inK_u8 h2; have := inK_u8 h3; have := inK_u8 h4; have := inK_u8 h5; have := inK_u8 h6; have := inK_u8 h7
  unfold w8; omega
end Go.Proofs.Ytgfghplnankgnaa

