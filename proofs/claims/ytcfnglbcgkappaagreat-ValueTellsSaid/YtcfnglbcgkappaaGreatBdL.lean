/- Plain laws of ranges: sums, differences, bits, powers. No walk is in here. -/
import Derived.Test.YtcfnglbcgkappaaGreatBd
set_option linter.unusedVariables false
set_option linter.unusedSimpArgs false
namespace Go.Proofs.YtcfnglbcgkappaaGreat
open Go.RowKit

def tbB (x : Int) (i : Nat) : Bool := (BitVec.ofInt 64 x).getLsbD i
theorem bvB_nat (x : BitVec 64) : BitVec.ofInt 64 (x.toNat : Int) = x := by simp
theorem bv_wrapi (x : Int) : BitVec.ofInt 64 (IntKind.i64.wrap x) = BitVec.ofInt 64 x := by
  apply BitVec.eq_of_toNat_eq
  rw [BitVec.toNat_ofInt, BitVec.toNat_ofInt, w_i64]
  omega
theorem bvi_and (x y : Int) : BitVec.ofInt 64 (bits .and .i64 x y) = BitVec.ofInt 64 x &&& BitVec.ofInt 64 y := (bv_wrapi _).trans (bvB_nat _)
theorem bvi_xor (x y : Int) : BitVec.ofInt 64 (bits .xor .i64 x y) = BitVec.ofInt 64 x ^^^ BitVec.ofInt 64 y := (bv_wrapi _).trans (bvB_nat _)
theorem tbi_and (x y : Int) (i : Nat) : tbB (bits .and .i64 x y) i = (tbB x i && tbB y i) := by unfold tbB; rw [bvi_and, BitVec.getLsbD_and]
theorem tbi_xor (x y : Int) (i : Nat) : tbB (bits .xor .i64 x y) i = (tbB x i ^^ tbB y i) := by unfold tbB; rw [bvi_xor, BitVec.getLsbD_xor]
theorem neg_tb {x : Int} (h0 : -9223372036854775808 ≤ x) (h1 : x ≤ 9223372036854775807) : decide (x < 0) = tbB x 63 := by
  unfold tbB
  rw [BitVec.getLsbD, Nat.testBit_eq_decide_div_mod_eq, decide_eq_decide, BitVec.toNat_ofInt]
  omega
theorem i64_bits (op : BinOp) (x y : Int) : ∃ z, bits op .i64 x y = IntKind.i64.wrap z := ⟨_, rfl⟩
theorem i64_bd (op : BinOp) (x y : Int) : -9223372036854775808 ≤ bits op .i64 x y ∧ bits op .i64 x y ≤ 9223372036854775807 := by
  obtain ⟨z, h⟩ := i64_bits op x y
  rw [h, ← s64_wrap]; exact s64_bd z
theorem plus_fine {a b : Int} (a0 : -9223372036854775808 ≤ a) (a1 : a ≤ 9223372036854775807) (b0 : -9223372036854775808 ≤ b) (b1 : b ≤ 9223372036854775807) :
    decide (0 ≤ bits .and .i64 (bits .xor .i64 a (wrap64 (a + b))) (bits .xor .i64 b (wrap64 (a + b)))) = decide (-9223372036854775808 ≤ a + b ∧ a + b ≤ 9223372036854775807) := by
  have hs := s64_bd (a + b)
  have hw : s64 (a + b) = (a + b + 9223372036854775808) % 18446744073709551616 - 9223372036854775808 := by rw [s64_wrap]; exact w_i64 _
  have hb := i64_bd .and (bits .xor .i64 a (s64 (a + b))) (bits .xor .i64 b (s64 (a + b)))
  have e := neg_tb hb.1 hb.2
  rw [tbi_and, tbi_xor, tbi_xor, ← neg_tb a0 a1, ← neg_tb b0 b1, ← neg_tb hs.1 hs.2] at e
  show decide (0 ≤ bits .and .i64 (bits .xor .i64 a (s64 (a + b))) (bits .xor .i64 b (s64 (a + b)))) = _
  generalize bits .and .i64 (bits .xor .i64 a (s64 (a + b))) (bits .xor .i64 b (s64 (a + b))) = t at e hb
  generalize s64 (a + b) = s at *
  rw [decide_eq_decide]
  by_cases h1 : a < 0 <;> by_cases h2 : b < 0 <;> by_cases h3 : s < 0 <;> simp [h1, h2, h3] at e <;> omega
theorem minus_fine {a b : Int} (a0 : -9223372036854775808 ≤ a) (a1 : a ≤ 9223372036854775807) (b0 : -9223372036854775808 ≤ b) (b1 : b ≤ 9223372036854775807) :
    decide (0 ≤ bits .and .i64 (bits .xor .i64 a b) (bits .xor .i64 a (wrap64 (a - b)))) = decide (-9223372036854775808 ≤ a - b ∧ a - b ≤ 9223372036854775807) := by
  have hs := s64_bd (a - b)
  have hw : s64 (a - b) = (a - b + 9223372036854775808) % 18446744073709551616 - 9223372036854775808 := by rw [s64_wrap]; exact w_i64 _
  have hb := i64_bd .and (bits .xor .i64 a b) (bits .xor .i64 a (s64 (a - b)))
  have e := neg_tb hb.1 hb.2
  rw [tbi_and, tbi_xor, tbi_xor, ← neg_tb a0 a1, ← neg_tb b0 b1, ← neg_tb hs.1 hs.2] at e
  show decide (0 ≤ bits .and .i64 (bits .xor .i64 a b) (bits .xor .i64 a (s64 (a - b)))) = _
  generalize bits .and .i64 (bits .xor .i64 a b) (bits .xor .i64 a (s64 (a - b))) = t at e hb
  generalize s64 (a - b) = s at *
  rw [decide_eq_decide]
  by_cases h1 : a < 0 <;> by_cases h2 : b < 0 <;> by_cases h3 : s < 0 <;> simp [h1, h2, h3] at e <;> omega
end Go.Proofs.YtcfnglbcgkappaaGreat
