/- The walks of known.Common and of the reference's Common. -/
import Derived.Test.YtkoiaadhbgccaaaKnA
import Derived.Test.YtkoiaadhbgccaaaKnR
set_option linter.unusedVariables false
set_option linter.unusedSimpArgs false
namespace Go.Proofs.Ytkoiaadhbgccaaa
open Go.RowKit

/-- The least number of bits from n on that lo and hi differ within. -/
def cfrom (lo hi : Int) : Nat → Nat → Nat
  | 0, n => n
  | k + 1, n => if lo / 2 ^ n = hi / 2 ^ n then n else cfrom lo hi k (n + 1)
def kcn (lo hi : Int) : Nat := cfrom lo hi 64 0
def kcommon (lo hi : Int) : Kn := if hi < lo then kall else kmask lo (2 ^ kcn lo hi - 1)

theorem pow_bd0 {n : Nat} (h : n ≤ 64) : (1 : Int) ≤ 2 ^ n ∧ (2 : Int) ^ n ≤ 2 ^ 64 := by
  have h1 : (1 : Nat) ≤ 2 ^ n := Nat.one_le_two_pow
  have h2 : (2 : Nat) ^ n ≤ 2 ^ 64 := Nat.pow_le_pow_right (by omega) h
  exact ⟨by exact_mod_cast h1, by exact_mod_cast h2⟩
theorem mask_eq {n : Nat} (h : n ≤ 64) : IntKind.u64.wrap (IntKind.u64.wrap (2 ^ n) - 1) = 2 ^ n - 1 := by
  obtain ⟨h1, h2⟩ := pow_bd0 h
  rw [w_u64, w_u64]
  generalize (2 : Int) ^ n = x at *
  omega

theorem kmasked_to (v x m : Int) (h : x = m) (W w : World) (hx : Ext W w) : Calls Try.prog 61 #[.int .u64 v, .int .u64 x] w fun e w' => e = .returned (.agg #[.int .u64 (kmask v m).v, .int .u64 (kmask v m).m]) ∧ Ext W w' := by
  subst h; exact kmasked_any v x W w hx
set_option maxHeartbeats 2000000 in
theorem kcommon_any (lo hi : Int) (W w : World) (hx : Ext W w) (h1 : 0 ≤ lo) (h2 : lo ≤ 18446744073709551615) (h3 : 0 ≤ hi) (h4 : hi ≤ 18446744073709551615) :
    Calls Try.prog 35 #[.int .u64 lo, .int .u64 hi] w fun e w' => e = .returned (.agg #[.int .u64 (kcommon lo hi).v, .int .u64 (kcommon lo hi).m]) ∧ Ext W w' := by
  obtain ⟨W3, hW3⟩ : ∃ W3, W3 = w.alloc (.cells #[.int .u64 0, .int .u64 0] 48) := ⟨_, rfl⟩
  have x3 : Ext w W3 := by rw [hW3]; exact (Ext.refl w).alloc _
  have MK := hide (fun w' (h : Ext W3 w') => new1 (hW3 ▸ h))
  have hx' : Ext W3 W3 := Ext.refl _
  by_cases hgt : hi < lo
  · have hz : kcommon lo hi = kall := by simp [kcommon, hgt]
    rw [hz]; clear hz
    go_enter Try.func35, Try.ntmps35
    go_wp2_with fail
    rw [← hW3]
    clear hW3
    go_wp2_with (first | (go_at_call 29; (with_reducible refine (kall_any W3 _ (by assumption)).mono ?_); rintro e w' ⟨rfl, hx'⟩; obtain ⟨⟨p0, p1, pf⟩, sz⟩ := MK.out _ hx') | fail)
    exact bodyPost_ret (by simp [results, Try.results35, go_sem, p0, p1] <;> (first | exact ⟨rfl, rfl⟩ | rfl)) rfl ⟨rfl, by (refine hx.trans ?_; with_reducible repeat (first | assumption | exact x3.trans hx' | apply Ext.alloc | (refine Ext.store1 ?_ (by omega) _)))⟩
  · have hz : kcommon lo hi = kmask lo (2 ^ kcn lo hi - 1) := by simp [kcommon, hgt]
    rw [hz]; clear hz
    have HN : Hid (kcn lo hi = cfrom lo hi (64 - 0) 0) := hide rfl
    go_enter Try.func35, Try.ntmps35
    go_wp2_with fail
    rw [← hW3]
    clear hW3
    obtain ⟨⟨p0, p1, pf⟩, sz⟩ := MK.out _ hx'
    go_loop [5] (fun i => ∃ n : Nat, i = .int .u64 n ∧ n ≤ 64 ∧ Hid (kcn lo hi = cfrom lo hi (64 - n) n)) (fun i => 64 - (intOf i).toNat)
    case atStart => exact ⟨0, rfl, by omega, HN⟩
    case round =>
      clear HN
      obtain ⟨n, rfl, hn, HN⟩ := hrel
      by_cases hlt : n < 64
      · by_cases he : lo / 2 ^ n = hi / 2 ^ n
        · have he' : (lo / 2 ^ n == hi / 2 ^ n) = true := by simp [he]
          have hm : min n 64 = n := Nat.min_eq_left hn
          have HR : Hid (kcn lo hi = n) := hide (by rw [HN.out, show 64 - n = (63 - n) + 1 from by omega, cfrom, if_pos he])
          have HE := hide he
          clear he
          have HM := hide (mask_eq hn)
          go_wp2_with (first | (go_at_call 61; refine (kmasked_to _ _ (2 ^ kcn lo hi - 1) (by rw [HR.out]; exact HM.out) W3 _ (by assumption)).mono ?_; rintro e w' ⟨rfl, hx'⟩; (try clear p0 p1 pf sz); obtain ⟨⟨p0, p1, pf⟩, sz⟩ := MK.out _ hx') | fail)
          exact bodyPost_ret (by simp [results, Try.results35, go_sem, p0, p1] <;> (first | exact ⟨rfl, rfl⟩ | rfl)) rfl ⟨rfl, by (refine hx.trans ?_; with_reducible repeat (first | assumption | exact x3.trans hx' | apply Ext.alloc | (refine Ext.store1 ?_ (by omega) _)))⟩
        · have hm : min n 64 = n := Nat.min_eq_left hn
          have HR : Hid (kcn lo hi = cfrom lo hi (64 - (n + 1)) (n + 1)) := hide (by rw [HN.out, show 64 - n = (64 - (n + 1)) + 1 from by omega, cfrom, if_neg he])
          go_wp2_with fail
          go_round
          case rel => exact ⟨n + 1, by go_num, by omega, HR⟩
          case measure => simp [intOf]; omega
      · obtain rfl : n = 64 := by omega
        have HR : Hid (kcn lo hi = 64) := hide (by rw [HN.out]; rfl)
        have HM : Hid (IntKind.u64.wrap (IntKind.u64.wrap 18446744073709551616 - 1) = 2 ^ 64 - 1) := hide (by decide +kernel)
        go_wp2_with (first | (go_at_call 61; refine (kmasked_to _ _ (2 ^ kcn lo hi - 1) (by rw [HR.out]; exact HM.out) W3 _ (by assumption)).mono ?_; rintro e w' ⟨rfl, hx'⟩; (try clear p0 p1 pf sz); obtain ⟨⟨p0, p1, pf⟩, sz⟩ := MK.out _ hx') | fail)
        exact bodyPost_ret (by simp [results, Try.results35, go_sem, p0, p1] <;> (first | exact ⟨rfl, rfl⟩ | rfl)) rfl ⟨rfl, by (refine hx.trans ?_; with_reducible repeat (first | assumption | exact x3.trans hx' | apply Ext.alloc | (refine Ext.store1 ?_ (by omega) _)))⟩
end Go.Proofs.Ytkoiaadhbgccaaa
