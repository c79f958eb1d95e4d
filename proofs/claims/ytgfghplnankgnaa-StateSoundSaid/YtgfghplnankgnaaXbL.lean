/- What Do of package bounds comes to, operation by operation, as its run has it: plain laws. -/
import Derived.Test.YtgfghplnankgnaaXbB
set_option linter.unusedSectionVars false
set_option linter.unusedVariables false
set_option linter.unusedSimpArgs false
namespace Go.Proofs.Ytgfghplnankgnaa
open Go Go.RowKit
section
variable {a b : Rg} (ha : a.ok) (hb : b.ok)
include ha hb
omit ha hb
end
theorem eqz {x z : Int} (h : (x == z) = true) : x = z := by simpa using h
theorem fill_eq {m : Int} (h0 : 0 ≤ m) (h1 : m ≤ 18446744073709551615) : opI .sub .u64 (opI .shl .u64 1 (blenN m.toNat)) 1 = bfill m := by
  have hb : blenN m.toNat ≤ 64 := blen_le (by omega)
  have h2 := bfill_bd h1
  unfold bfill at h2 ⊢
  show IntKind.u64.wrap (IntKind.u64.wrap (1 * 2 ^ min ((blenN m.toNat : Int).toNat) 64) - 1) = _
  rw [Int.toNat_natCast, Nat.min_eq_left hb, Int.one_mul]
  generalize (2 : Int) ^ blenN m.toNat = t at *
  rw [w_u64, w_u64]
  omega
section
variable {op : Int} {a b : Rg} (ha : a.ok) (hb : b.ok) (ma : bmay a = true) (mb : bmay b = true)
include ha hb ma mb
end
section
variable {cc : Int} {a b X : Rg}
end
end Go.Proofs.Ytgfghplnankgnaa

