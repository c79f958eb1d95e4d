/- Plain laws of masks: which bits two numbers differ in. No walk is in here. -/
import Derived.Test.YtkoiaadhbgccaaaKnC
set_option linter.unusedVariables false
set_option linter.unusedSimpArgs false
namespace Go.Proofs.Ytkoiaadhbgccaaa
open Go.RowKit

theorem and_high (x n : Nat) (hn : n ≤ 64) (hx : x < 2 ^ 64) : x &&& (18446744073709551615 - (2 ^ n - 1)) = 0 ↔ x / 2 ^ n = 0 := by
  have hp : (2 : Nat) ^ n ≤ 2 ^ 64 := Nat.pow_le_pow_right (by omega) hn
  have hq : 1 ≤ (2 : Nat) ^ n := Nat.one_le_two_pow
  have e : 18446744073709551615 - (2 ^ n - 1) = 2 ^ 64 - ((2 ^ n - 1) + 1) := by omega
  have hlt : 2 ^ n - 1 < 2 ^ 64 := by omega
  constructor
  · intro h
    rw [← Nat.shiftRight_eq_div_pow]
    apply Nat.eq_of_testBit_eq
    intro i
    rw [Nat.testBit_shiftRight, Nat.zero_testBit]
    have h1 := congrArg (fun y => Nat.testBit y (n + i)) h
    simp only [Nat.zero_testBit, Nat.testBit_and, e, Nat.testBit_two_pow_sub_succ hlt, Nat.testBit_two_pow_sub_one] at h1
    by_cases h64 : n + i < 64
    · by_cases hb : Nat.testBit x (n + i) = true
      · exfalso; simp [h64, hb] at h1; omega
      · simpa using hb
    · exact Nat.testBit_lt_two_pow (Nat.lt_of_lt_of_le hx (Nat.pow_le_pow_right (by omega) (by omega)))
  · intro h
    apply Nat.eq_of_testBit_eq
    intro i
    rw [Nat.zero_testBit, Nat.testBit_and, e, Nat.testBit_two_pow_sub_succ hlt, Nat.testBit_two_pow_sub_one]
    by_cases hi : i < n
    · simp [hi]
    · have h2 : Nat.testBit x i = false := by
        have := congrArg (fun y => Nat.testBit y (i - n)) (Nat.shiftRight_eq_div_pow x n ▸ h)
        simp only [Nat.testBit_shiftRight, Nat.zero_testBit] at this
        rwa [show n + (i - n) = i from by omega] at this
      simp [h2]
theorem xor_zero_iff {x y : Nat} : x ^^^ y = 0 ↔ x = y := by
  constructor
  · intro h
    apply Nat.eq_of_testBit_eq
    intro i
    have := congrArg (fun z => Nat.testBit z i) h
    simp only [Nat.testBit_xor, Nat.zero_testBit] at this
    cases hx : Nat.testBit x i <;> cases hy : Nat.testBit y i <;> simp_all
  · rintro rfl
    simp
theorem diff_iff (lo hi : Int) (n : Nat) (hn : n ≤ 64) (h1 : 0 ≤ lo) (h2 : lo ≤ 18446744073709551615) (h3 : 0 ≤ hi) (h4 : hi ≤ 18446744073709551615) :
    bits .andNot .u64 (bits .xor .u64 lo hi) (2 ^ n - 1) = 0 ↔ lo / 2 ^ n = hi / 2 ^ n := by
  obtain ⟨a, rfl⟩ := Int.eq_ofNat_of_zero_le h1
  obtain ⟨b, rfl⟩ := Int.eq_ofNat_of_zero_le h3
  have hp : (2 : Nat) ^ n ≤ 2 ^ 64 := Nat.pow_le_pow_right (by omega) hn
  have hq : 1 ≤ (2 : Nat) ^ n := Nat.one_le_two_pow
  have ha : a < 2 ^ 64 := by omega
  have hb : b < 2 ^ 64 := by omega
  have hxl : a ^^^ b < 2 ^ 64 := Nat.xor_lt_two_pow ha hb
  have hm : ((2 : Int) ^ n - 1) = ((2 ^ n - 1 : Nat) : Int) := by rw [Int.ofNat_sub hq]; simp
  rw [u64_xor_nat a b (by omega) (by omega), hm, u64_andNot_nat (a ^^^ b) (2 ^ n - 1) (by omega) (by omega)]
  rw [show ((2 : Int) ^ n) = ((2 ^ n : Nat) : Int) from by simp]
  constructor
  · intro h
    have h5 := (and_high (a ^^^ b) n hn hxl).1 (by exact_mod_cast h)
    rw [← Nat.shiftRight_eq_div_pow, Nat.shiftRight_xor_distrib, xor_zero_iff, Nat.shiftRight_eq_div_pow, Nat.shiftRight_eq_div_pow] at h5
    exact_mod_cast h5
  · intro h
    have h5 : a / 2 ^ n = b / 2 ^ n := by exact_mod_cast h
    have h6 := (and_high (a ^^^ b) n hn hxl).2 (by rw [← Nat.shiftRight_eq_div_pow, Nat.shiftRight_xor_distrib, xor_zero_iff, Nat.shiftRight_eq_div_pow, Nat.shiftRight_eq_div_pow]; exact h5)
    exact_mod_cast h6
theorem mask_step (n : Nat) (hn : n < 64) : bits .or .u64 (IntKind.u64.wrap ((2 ^ n - 1) * 2)) 1 = 2 ^ (n + 1) - 1 := by
  have hp : (2 : Nat) ^ (n + 1) ≤ 2 ^ 64 := Nat.pow_le_pow_right (by omega) hn
  have hq : 1 ≤ (2 : Nat) ^ n := Nat.one_le_two_pow
  have h2 : (2 : Nat) ^ (n + 1) = 2 ^ n * 2 := Nat.pow_succ 2 n
  have hm : IntKind.u64.wrap (((2 : Int) ^ n - 1) * 2) = (((2 ^ n - 1) * 2 : Nat) : Int) := by
    rw [show ((2 : Int) ^ n) = ((2 ^ n : Nat) : Int) from by simp, w_u64]
    generalize (2 : Nat) ^ n = x at *
    omega
  rw [hm, show (1 : Int) = ((1 : Nat) : Int) from rfl, u64_or_nat _ _ (by omega) (by omega)]
  have : (2 ^ n - 1) * 2 ||| 1 = 2 ^ (n + 1) - 1 := by
    rw [Nat.mul_comm, show 2 * (2 ^ n - 1) = (2 ^ n - 1) <<< 1 from by rw [Nat.shiftLeft_eq]; omega]
    apply Nat.eq_of_testBit_eq
    intro i
    rw [Nat.testBit_or, Nat.testBit_shiftLeft, Nat.testBit_two_pow_sub_one, Nat.testBit_two_pow_sub_one]
    cases i with
    | zero => simp
    | succ i =>
      have e : Nat.testBit 1 (i + 1) = false := by simp [Nat.testBit_succ]
      rw [e]; simp
  rw [this]
  generalize hX : (2 : Nat) ^ (n + 1) = X at *
  rw [show ((2 : Int) ^ (n + 1)) = ((2 ^ (n + 1) : Nat) : Int) from by simp, hX]
  omega

set_option maxHeartbeats 2000000 in
theorem rcommon_any (lo hi : Int) (W w : World) (hx : Ext W w) (h1 : 0 ≤ lo) (h2 : lo ≤ 18446744073709551615) (h3 : 0 ≤ hi) (h4 : hi ≤ 18446744073709551615) :
    Calls Try.prog 41 #[.int .u64 lo, .int .u64 hi] w fun e w' => e = .returned (.agg #[.int .u64 (kcommon lo hi).v, .int .u64 (kcommon lo hi).m]) ∧ Ext W w' := by
  obtain ⟨W3, hW3⟩ : ∃ W3, W3 = w.alloc (.cells #[.int .u64 0, .int .u64 0] 48) := ⟨_, rfl⟩
  have x3 : Ext w W3 := by rw [hW3]; exact (Ext.refl w).alloc _
  have MK := hide (fun w' (h : Ext W3 w') => new1 (hW3 ▸ h))
  have hx' : Ext W3 W3 := Ext.refl _
  by_cases hgt : hi < lo
  · have hz : kcommon lo hi = kall := by simp [kcommon, hgt]
    rw [hz]; clear hz
    go_enter Try.func41, Try.ntmps41
    go_wp2_with fail
    rw [← hW3]
    clear hW3
    go_wp2_with (first | (go_at_call 48; (with_reducible refine (rall_any W3 _ (by assumption)).mono ?_); rintro e w' ⟨rfl, hx'⟩; obtain ⟨⟨p0, p1, pf⟩, sz⟩ := MK.out _ hx') | fail)
    exact bodyPost_ret (by simp [results, Try.results41, go_sem, p0, p1] <;> (first | exact ⟨rfl, rfl⟩ | rfl)) rfl ⟨rfl, by (refine hx.trans ?_; with_reducible repeat (first | assumption | exact x3.trans hx' | apply Ext.alloc | (refine Ext.store1 ?_ (by omega) _)))⟩
  · have hz : kcommon lo hi = ⟨bits .andNot .u64 lo (2 ^ kcn lo hi - 1), 2 ^ kcn lo hi - 1⟩ := by simp [kcommon, hgt, kmask]
    rw [hz]; clear hz
    have HN : Hid (kcn lo hi = cfrom lo hi (64 - 0) 0) := hide rfl
    go_enter Try.func41, Try.ntmps41
    go_wp2_with fail
    rw [← hW3]
    clear hW3
    obtain ⟨⟨p0, p1, pf⟩, sz⟩ := MK.out _ hx'
    go_loop [5] (fun i => ∃ n : Nat, ∃ m : Int, i = .int .u64 m ∧ m = 2 ^ n - 1 ∧ n ≤ 64 ∧ Hid (kcn lo hi = cfrom lo hi (64 - n) n)) (fun i => 18446744073709551616 - (intOf i).toNat)
    case atStart => exact ⟨0, 0, rfl, by simp, by omega, HN⟩
    case round =>
      clear HN
      obtain ⟨n, m, rfl, hm, hn, HN⟩ := hrel
      have hd := diff_iff lo hi n hn h1 h2 h3 h4
      rw [← hm] at hd
      by_cases he : lo / 2 ^ n = hi / 2 ^ n
      · have ht : (bits .andNot .u64 (bits .xor .u64 lo hi) m != 0) = false := by rw [bne_eq_false_iff_eq]; exact hd.2 he
        have HR : Hid (kcn lo hi = n) := hide (by
          rw [HN.out]
          cases h : 64 - n with
          | zero => rfl
          | succ k => rw [cfrom, if_pos he])
        have HM := hide hm
        clear hd he hm
        go_wp2_with fail
        have hr : (2 : Int) ^ kcn lo hi - 1 = m := by rw [HR.out, HM.out]
        rw [hr]
        exact bodyPost_ret (by simp [results, Try.results41, go_sem, p0, p1] <;> (first | exact ⟨rfl, rfl⟩ | rfl)) rfl ⟨rfl, by (refine hx.trans ?_; with_reducible repeat (first | assumption | exact x3.trans hx' | apply Ext.alloc | (refine Ext.store1 ?_ (by omega) _)))⟩
      · have hlt : n < 64 := by
          rcases Nat.lt_or_ge n 64 with h | h
          · exact h
          · exfalso
            obtain rfl : n = 64 := by omega
            apply he
            omega
        have ht : (bits .andNot .u64 (bits .xor .u64 lo hi) m != 0) = true := by rw [bne_iff_ne]; exact fun h => he (hd.1 h)
        have HR : Hid (kcn lo hi = cfrom lo hi (64 - (n + 1)) (n + 1)) := hide (by rw [HN.out, show 64 - n = (64 - (n + 1)) + 1 from by omega, cfrom, if_neg he])
        have hs := mask_step n hlt
        rw [← hm] at hs
        have HM := hide hm
        have HS := hide hs
        clear hd he hm hs
        go_wp2_with fail
        go_round
        case rel => exact ⟨n + 1, _, rfl, HS.out, by omega, HR⟩
        case measure =>
          rw [HS.out]
          have h5 := HM.out
          have h6 := pow_bd0 hn
          have h7 := pow_bd0 (n := n + 1) (by omega)
          have h8 : (2 : Int) ^ (n + 1) = 2 ^ n * 2 := Int.pow_succ 2 n
          simp only [intOf]
          rw [h8] at h7 ⊢
          generalize (2 : Int) ^ n = x at *
          omega
end Go.Proofs.Ytkoiaadhbgccaaa
