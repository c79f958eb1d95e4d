/- Plain laws of 64-bit numbers and known bits. -/
import Derived.Test.YtcfnglbcgkappaaKn
set_option linter.unusedVariables false
set_option linter.unusedSimpArgs false
namespace Go.Proofs.Ytcfnglbcgkappaa
open Go.RowKit

theorem or_zero {x y : Int} (h1 : 0 ≤ x) (h2 : x ≤ 18446744073709551615) (h3 : 0 ≤ y) (h4 : y ≤ 18446744073709551615) : (bits .or .u64 x y == 0) = ((x == 0) && (y == 0)) := by
  obtain ⟨a, rfl⟩ := Int.eq_ofNat_of_zero_le h1
  obtain ⟨b, rfl⟩ := Int.eq_ofNat_of_zero_le h3
  rw [u64_or_nat a b (by omega) (by omega), Bool.eq_iff_iff]
  simp only [beq_iff_eq, Bool.and_eq_true]
  constructor
  · intro h
    have h5 : a ||| b = 0 := by exact_mod_cast h
    have h6 := Nat.or_eq_zero_iff.1 h5
    omega
  · rintro ⟨h, h'⟩
    obtain rfl : a = 0 := by omega
    obtain rfl : b = 0 := by omega
    rfl
theorem xor_comm' (x y : Int) : bits .xor .u64 x y = bits .xor .u64 y x := by
  show IntKind.u64.wrap ((BitVec.ofInt 64 x ^^^ BitVec.ofInt 64 y).toNat : Int) = IntKind.u64.wrap ((BitVec.ofInt 64 y ^^^ BitVec.ofInt 64 x).toNat : Int)
  rw [BitVec.xor_comm]
theorem radd_eq (a b : Kn) : radd a b = kadd a b := by unfold radd kadd; rw [xor_comm']

theorem zlong32 : zlong 32 = true := rfl
theorem zlong64 : zlong 64 = true := rfl
theorem low_eq (w1 : Int) (h1 : 32 ≤ w1) (h2 : w1 ≤ 64) : IntKind.u64.wrap (IntKind.u64.wrap w1 - 1) = w1 - 1 := by rw [w_u64, w_u64]; omega
end Go.Proofs.Ytcfnglbcgkappaa
