/- Plain laws of shifts: what the law BitsParts needs of zdo. -/
import Derived.Test.YtcfnglbcgkappaaGreatBitsM
set_option linter.unusedVariables false
set_option linter.unusedSimpArgs false
namespace Go.Proofs.YtcfnglbcgkappaaGreat
open Go.RowKit

theorem shl_shl (v : Int) (n m : Nat) (M : Int) : (v * 2 ^ n % M) * 2 ^ m % M = v * 2 ^ (n + m) % M := by
  rw [Int.mul_emod (v * 2 ^ n % M), Int.emod_emod, ← Int.mul_emod, Int.mul_assoc, ← Int.pow_add]
theorem shr_shr (v : Int) (n m : Nat) : v / 2 ^ n / 2 ^ m = v / 2 ^ (n + m) := by
  rw [Int.pow_add, Int.ediv_ediv_of_nonneg (Int.le_of_lt (pow_nn n))]
/-- The signed number of a word. -/
def zs (v w : Int) : Int := wrap64 (zsign (zcut v w) w)
theorem zs_of (w z : Int) (hw : zlong w = true) (h0 : (if w = 32 then -2147483648 else -9223372036854775808) ≤ z) (h1 : z ≤ (if w = 32 then 2147483647 else 9223372036854775807)) : zs (z % 18446744073709551616) w = z := by
  rcases zlong_cases hw with rfl | rfl
  · simp at h0 h1
    simp only [zs, zcut_32, zsign, zsgn]; simp only [w_64]; simp; split <;> omega
  · simp at h0 h1
    simp only [zs, zcut_64, zsign]; simp only [w_64]; simp; omega
theorem zs_bd (v w : Int) (hw : zlong w = true) (h0 : 0 ≤ v) (h1 : v ≤ 18446744073709551615) : (if w = 32 then -2147483648 else -9223372036854775808) ≤ zs v w ∧ zs v w ≤ (if w = 32 then 2147483647 else 9223372036854775807) := by
  rcases zlong_cases hw with rfl | rfl
  · simp only [zs, zcut_32, zsign, zsgn]; simp only [w_64]; simp; split <;> omega
  · simp only [zs, zcut_64, zsign]; simp only [w_64]; simp; omega
theorem ediv_in (s : Int) (k : Nat) (L U : Int) (hL : L ≤ 0) (hU : 0 ≤ U) (h0 : L ≤ s) (h1 : s ≤ U) : L ≤ s / 2 ^ k ∧ s / 2 ^ k ≤ U := by
  have hp := pow_nn k
  constructor
  · refine (Int.le_ediv_iff_mul_le hp).2 ?_
    have : L * 2 ^ k ≤ L * 1 := Int.mul_le_mul_of_nonpos_left hL (by omega)
    omega
  · refine Int.le_of_lt_add_one ((Int.ediv_lt_iff_lt_mul hp).2 ?_)
    have : (U + 1) * 1 ≤ (U + 1) * 2 ^ k := Int.mul_le_mul_of_nonneg_left (by omega) (by omega)
    omega
theorem zs_cut (v w : Int) : zs (zcut v w) w = zs v w := by unfold zs; rw [zcut_zcut]
theorem zdo12 (w v n : Int) (hn : zcut n w % w = n) : zdo 12 w v n = zcut ((zs v w / 2 ^ n.toNat) % 18446744073709551616) w := by
  simp only [zdo, zop, zs, hn]; simp
theorem amt (w n : Int) (hw : zlong w = true) (h0 : 0 ≤ n) (h1 : n < w) : zcut n w % w = n := by
  rcases zlong_cases hw with rfl | rfl
  · rw [zcut_32]; omega
  · rw [zcut_64]; omega
theorem parts_any (op w v n m : Int) (hop : op = 6 ∨ op = 7 ∨ op = 12) (hw : zlong w = true) (h0 : 0 ≤ v) (h1 : v ≤ 18446744073709551615) (hn : 0 ≤ n) (hm : 0 ≤ m) (hs : n + m < w) :
    zdo op w (zdo op w v n) m = zdo op w v (n + m) := by
  have en := amt w n hw hn (by omega)
  have em := amt w m hw hm (by omega)
  have es := amt w (n + m) hw (by omega) hs
  have et : (n + m).toNat = n.toNat + m.toNat := by omega
  rcases hop with rfl | rfl | rfl
  · rcases zlong_cases hw with rfl | rfl
    · simp only [zdo, zop, en, em, es, et]; simp only [zcut_32]
      simp
      exact shl_shl _ _ _ _
    · simp only [zdo, zop, en, em, es, et]; simp only [zcut_64]
      simp
      exact shl_shl _ _ _ _
  · simp only [zdo, zop, en, em, es, et]
    simp
    rw [zcut_zcut, ← shr_shr]
    congr 1
    have hc := zcut_bd v w h0 h1
    have hl := zcut_le' hw v h0 h1
    have := ediv_in (zcut v w) n.toNat 0 _ (by omega) (by split <;> omega) hc.1 hl
    rw [zcut_id hw this.1 this.2]
  · rw [zdo12 w v n en, zdo12 w _ m em, zdo12 w v (n + m) es, et, ← shr_shr, zs_cut]
    have hb := zs_bd v w hw h0 h1
    have := ediv_in (zs v w) n.toNat _ _ (by split <;> omega) (by split <;> omega) hb.1 hb.2
    rw [zs_of w _ hw this.1 this.2]
theorem nat_shlr (v n k : Nat) (h : n ≤ k) : v * 2 ^ n % 2 ^ k / 2 ^ n = v % 2 ^ (k - n) := by
  have : 2 ^ k = 2 ^ (k - n) * 2 ^ n := by rw [← Nat.pow_add]; congr 1; omega
  rw [this, Nat.mul_mod_mul_right, Nat.mul_div_cancel _ (Nat.two_pow_pos n)]
theorem nat_ones (n k : Nat) (h : n ≤ k) : (2 ^ k - 1) / 2 ^ n = 2 ^ (k - n) - 1 := by
  have e : 2 ^ k = 2 ^ (k - n) * 2 ^ n := by rw [← Nat.pow_add]; congr 1; omega
  have hp := Nat.two_pow_pos n
  have hq := Nat.two_pow_pos (k - n)
  refine Nat.div_eq_of_lt_le ?_ ?_
  · rw [Nat.sub_mul, ← e, Nat.one_mul]; omega
  · have hk := Nat.two_pow_pos k
    rw [Nat.sub_add_cancel hq, ← e]; omega
theorem back_any (w v n : Int) (hw : zlong w = true) (h0 : 0 ≤ v) (h1 : v ≤ 18446744073709551615) (hn : 0 ≤ n) (hl : n < w) :
    zdo 7 w (zdo 6 w v n) n = bits .and .u64 v (zdo 7 w 18446744073709551615 n) := by
  have en := amt w n hw hn hl
  obtain ⟨x, rfl⟩ := Int.eq_ofNat_of_zero_le h0
  obtain ⟨k, rfl⟩ := Int.eq_ofNat_of_zero_le hn
  rcases zlong_cases hw with rfl | rfl
  · have a := nat_shlr x k 32 (by omega)
    have b := nat_ones k 32 (by omega)
    have l1 : zdo 7 32 18446744073709551615 (k : Int) = ((2 ^ (32 - k) - 1 : Nat) : Int) := by
      rw [← b]
      simp only [zdo, zop, en]; simp only [zcut_32]
      simp
      have : (4294967295 : Nat) / 2 ^ k ≤ 4294967295 := Nat.div_le_self _ _
      have e : ((4294967295 : Int) / 2 ^ k) = ((4294967295 / 2 ^ k : Nat) : Int) := by simp
      rw [e]
      generalize (4294967295 / 2 ^ k : Nat) = Y at *
      omega
    have l2 : zdo 7 32 (zdo 6 32 (x : Int) (k : Int)) (k : Int) = ((x % 2 ^ (32 - k) : Nat) : Int) := by
      rw [← a]
      simp only [zdo, zop, en]; simp only [zcut_32]
      simp
      have : (x * 2 ^ k % 4294967296) / 2 ^ k ≤ x * 2 ^ k % 4294967296 := Nat.div_le_self _ _
      have e2 : ((x : Int) % 4294967296 * 2 ^ k) % 4294967296 = ((x * 2 ^ k % 4294967296 : Nat) : Int) := by
        rw [Int.mul_emod, Int.emod_emod, ← Int.mul_emod]; simp
      rw [e2]
      have e3 : ((x * 2 ^ k % 4294967296 : Nat) : Int) / 2 ^ k = ((x * 2 ^ k % 4294967296 / 2 ^ k : Nat) : Int) := by simp
      rw [e3]
      have e4 : (x : Int) * 2 ^ k % 4294967296 / 2 ^ k = ((x * 2 ^ k % 4294967296 / 2 ^ k : Nat) : Int) := by simp
      rw [e4]
      have e5 : x * 2 ^ k % 4294967296 ≤ 4294967295 := by omega
      generalize (x * 2 ^ k % 4294967296 / 2 ^ k : Nat) = Y at *
      omega
    have hp : 2 ^ (32 - k) ≤ 2 ^ 32 := Nat.pow_le_pow_right (by omega) (by omega)
    rw [l1, l2, u64_and_nat _ _ (by omega) (by omega), Nat.and_two_pow_sub_one_eq_mod]
  · have a := nat_shlr x k 64 (by omega)
    have b := nat_ones k 64 (by omega)
    have l1 : zdo 7 64 18446744073709551615 (k : Int) = ((2 ^ (64 - k) - 1 : Nat) : Int) := by
      rw [← b]
      simp only [zdo, zop, en]; simp only [zcut_64]
      simp
    have l2 : zdo 7 64 (zdo 6 64 (x : Int) (k : Int)) (k : Int) = ((x % 2 ^ (64 - k) : Nat) : Int) := by
      rw [← a]
      simp only [zdo, zop, en]; simp only [zcut_64]
      simp
    have hp : 2 ^ (64 - k) ≤ 2 ^ 64 := Nat.pow_le_pow_right (by omega) (by omega)
    rw [l1, l2, u64_and_nat _ _ (by omega) (by omega), Nat.and_two_pow_sub_one_eq_mod]
end Go.Proofs.YtcfnglbcgkappaaGreat
