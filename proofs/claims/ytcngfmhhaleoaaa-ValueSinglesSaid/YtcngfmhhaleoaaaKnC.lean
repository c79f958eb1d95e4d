/- The walks of known.Common and of the reference's Common. -/
import Derived.Test.YtcngfmhhaleoaaaKnA
import Derived.Test.YtcngfmhhaleoaaaKnR
set_option linter.unusedVariables false
set_option linter.unusedSimpArgs false
namespace Go.Proofs.Ytcngfmhhaleoaaa
open Go.RowKit

/-- The least number of bits from n on that lo and hi differ within. -/
def cfrom (lo hi : Int) : Nat → Nat → Nat
  | 0, n => n
  | k + 1, n => if lo / 2 ^ n = hi / 2 ^ n then n else cfrom lo hi k (n + 1)
def kcn (lo hi : Int) : Nat := cfrom lo hi 64 0
def kcommon (lo hi : Int) : Kn := if hi < lo then kall else kmask lo (2 ^ kcn lo hi - 1)

theorem pow_bd0 {n : Nat} (h : n ≤ 64) : (1 : Int) ≤ 2 ^ n ∧ (2 : Int) ^ n ≤ 2 ^ 64 := by
  have h1 : (1 : Nat) ≤ 2 ^ n := Nat.one_le_two_pow
  have h2 : (2 : Nat) ^ n ≤ 2 ^ 64 := Nat.pow_le_pow_right (by omega) h
  exact ⟨by exact_mod_cast h1, by exact_mod_cast h2⟩
theorem mask_eq {n : Nat} (h : n ≤ 64) : IntKind.u64.wrap (IntKind.u64.wrap (2 ^ n) - 1) = 2 ^ n - 1 := by
  obtain ⟨h1, h2⟩ := pow_bd0 h
  rw [w_u64, w_u64]
  generalize (2 : Int) ^ n = x at *
  omega

theorem kmasked_to (v x m : Int) (h : x = m) (W w : World) (hx : Ext W w) : Calls Try.prog 125 #[.int .u64 v, .int .u64 x] w fun e w' => e = .returned (.agg #[.int .u64 (kmask v m).v, .int .u64 (kmask v m).m]) ∧ Ext W w' := by
  subst h; exact kmasked_any v x W w hx
end Go.Proofs.Ytcngfmhhaleoaaa
