/- The walk of bits.Do and of the reference's Do: both compute zdo. -/
import Derived.Test.YtcfnglbcgkappaaGreatBitsB
set_option linter.unusedVariables false
set_option linter.unusedSimpArgs false
namespace Go.Proofs.YtcfnglbcgkappaaGreat
open Go.RowKit
attribute [local go_sem] ix0 ix1 ix2 ix3 ix4 ix5 ix6 ix7 ix8 ix9 ix10 ix11 ix12
theorem op_cases {op : Int} (h4 : 0 ≤ op) (h5 : op ≤ 12) : op = 0 ∨ op = 1 ∨ op = 2 ∨ op = 3 ∨ op = 4 ∨ op = 5 ∨ op = 6 ∨ op = 7 ∨ op = 8 ∨ op = 9 ∨ op = 10 ∨ op = 11 ∨ op = 12 := by omega
theorem pow_nn (k : Nat) : (0 : Int) < 2 ^ k := Int.pow_pos (by omega)
theorem zop_bd (op w a b y : Int) (h0 : 0 ≤ a) (h1 : a ≤ 18446744073709551615) (h2 : 0 ≤ b) (h3 : b ≤ 18446744073709551615) : 0 ≤ zop op w a b y ∧ zop op w a b y ≤ 18446744073709551615 := by
  have e1 := Int.ediv_nonneg h0 h2
  have e2 := Int.ediv_le_self b h0
  have e3 := Nat.or_lt_two_pow (n := 64) (x := a.toNat) (y := b.toNat) (by omega) (by omega)
  have e4 := Nat.and_le_left (n := a.toNat) (m := b.toNat)
  have e5 := Nat.xor_lt_two_pow (n := 64) (x := a.toNat) (y := b.toNat) (by omega) (by omega)
  have e6 := Int.ediv_nonneg h0 (Int.le_of_lt (pow_nn y.toNat))
  have e7 := Int.ediv_le_self (2 ^ y.toNat) h0
  have e8 : b ≠ 0 → 0 ≤ a % b ∧ a % b < b := fun h => ⟨Int.emod_nonneg a h, Int.emod_lt_of_pos a (by omega)⟩
  unfold zop
  repeat' split
  all_goals omega
theorem ymod (w b : Int) (h2 : 0 ≤ b) (h3 : b ≤ 18446744073709551615) (hw : zlong w = true) : bits .and .u64 b (w - 1) = b % w ∧ 32 ≤ w ∧ w ≤ 64 ∧ 0 ≤ b % w ∧ b % w ≤ 63 := by
  simp [zlong] at hw
  rcases hw with rfl | rfl
  · exact ⟨and31 b h2 h3, by omega, by omega, by omega, by omega⟩
  · exact ⟨and63 b h2 h3, by omega, by omega, by omega, by omega⟩

set_option maxHeartbeats 4000000 in
theorem do_any (op w1 a b : Int) (w : World) (h0 : 0 ≤ a) (h1 : a ≤ 18446744073709551615) (h2 : 0 ≤ b) (h3 : b ≤ 18446744073709551615) (h4 : 0 ≤ op) (h5 : op ≤ 12) (hw : zlong w1 = true) :
    Calls Tryz.prog 66 #[.int .i8 op, .int .i8 w1, .int .u64 a, .int .u64 b] w fun e w' => e = .returned (.tuple #[.int .u64 (zdo op w1 a b), .int .i64 0]) ∧ Below w.heap.size w w' := by
  obtain ⟨ha1, ha2⟩ := zcut_bd a w1 h0 h1
  obtain ⟨hb1, hb2⟩ := zcut_bd b w1 h2 h3
  obtain ⟨hy, hw1, hw2, hy1, hy2⟩ := ymod w1 (zcut b w1) hb1 hb2 hw
  obtain ⟨hz1, hz2⟩ := zop_bd op w1 (zcut a w1) (zcut b w1) (zcut b w1 % w1) ha1 ha2 hb1 hb2
  rcases op_cases h4 h5 with rfl | rfl | rfl | rfl | rfl | rfl | rfl | rfl | rfl | rfl | rfl | rfl | rfl
  all_goals
    go_enter Tryz.func66, Tryz.ntmps66
    go_wp2_with (first
      | (go_at_call 104; refine (long_any _ _).mono ?_; rintro e w' ⟨rfl, rfl⟩)
      | (go_at_call 105; refine (cut_any _ _ _ (by omega) (by omega)).mono ?_; rintro e w' ⟨rfl, rfl⟩)
      | (go_at_call 106; refine (ops_any _).mono ?_; rintro e w1 ⟨rfl, hb1⟩)
      | (go_at_call 131; refine (op0_any _ _ _ _ _ (by omega) (by omega) (by omega) (by omega) (by omega) (by omega)).mono ?_; rintro e w' ⟨rfl, rfl⟩)
      | (go_at_call 132; refine (op1_any _ _ _ _ _ (by omega) (by omega) (by omega) (by omega) (by omega) (by omega)).mono ?_; rintro e w' ⟨rfl, rfl⟩)
      | (go_at_call 133; refine (op2_any _ _ _ _ _ (by omega) (by omega) (by omega) (by omega) (by omega) (by omega)).mono ?_; rintro e w' ⟨rfl, rfl⟩)
      | (go_at_call 134; refine (op3_any _ _ _ _ _ (by omega) (by omega) (by omega) (by omega) (by omega) (by omega)).mono ?_; rintro e w' ⟨rfl, rfl⟩)
      | (go_at_call 135; refine (op4_any _ _ _ _ _ (by omega) (by omega) (by omega) (by omega) (by omega) (by omega)).mono ?_; rintro e w' ⟨rfl, rfl⟩)
      | (go_at_call 136; refine (op5_any _ _ _ _ _ (by omega) (by omega) (by omega) (by omega) (by omega) (by omega)).mono ?_; rintro e w' ⟨rfl, rfl⟩)
      | (go_at_call 137; refine (op6_any _ _ _ _ _ (by omega) (by omega) (by omega) (by omega) (by omega) (by omega)).mono ?_; rintro e w' ⟨rfl, rfl⟩)
      | (go_at_call 138; refine (op7_any _ _ _ _ _ (by omega) (by omega) (by omega) (by omega) (by omega) (by omega)).mono ?_; rintro e w' ⟨rfl, rfl⟩)
      | (go_at_call 139; refine (op8_any _ _ _ _ _ (by omega) (by omega) (by omega) (by omega) (by omega) (by omega)).mono ?_; rintro e w' ⟨rfl, rfl⟩)
      | (go_at_call 140; refine (op9_any _ _ _ _ _ (by omega) (by omega) (by omega) (by omega) (by omega) (by omega)).mono ?_; rintro e w' ⟨rfl, rfl⟩)
      | (go_at_call 141; refine (op10_any _ _ _ _ _ (by omega) (by omega) (by omega) (by omega) (by omega) (by omega)).mono ?_; rintro e w' ⟨rfl, rfl⟩)
      | (go_at_call 142; refine (op11_any _ _ _ _ _ (by omega) (by omega) (by omega) (by omega) (by omega) (by omega)).mono ?_; rintro e w' ⟨rfl, rfl⟩)
      | (go_at_call 143; refine (op12_any _ _ _ _ _ (by omega) (by omega) (by omega) (by omega) (by omega) (by omega)).mono ?_; rintro e w' ⟨rfl, rfl⟩))
    go_ret2
    exact ⟨rfl, ‹_›⟩

set_option maxHeartbeats 1000000 in
theorem do_bad (op w1 a b : Int) (w : World) (hbad : (decide (op < 0) || decide (12 < op) || !zlong w1) = true) :
    Calls Tryz.prog 66 #[.int .i8 op, .int .i8 w1, .int .u64 a, .int .u64 b] w fun e w' => e = .returned (.tuple #[.int .u64 0, .int .i64 2]) ∧ w = w' := by
  have hc : op < 0 ∨ (0 ≤ op ∧ 12 < op) ∨ (0 ≤ op ∧ op ≤ 12 ∧ zlong w1 = false) := by
    by_cases h1 : op < 0
    · exact .inl h1
    · by_cases h2 : 12 < op
      · exact .inr (.inl ⟨by omega, h2⟩)
      · exact .inr (.inr ⟨by omega, by omega, by simpa [h1, h2] using hbad⟩)
  clear hbad
  rcases hc with h | ⟨h, h'⟩ | ⟨h, h', hw⟩
  all_goals
    go_enter Tryz.func66, Tryz.ntmps66
    go_wp2_with (go_at_call 104; refine (long_any _ _).mono ?_; rintro e w' ⟨rfl, rfl⟩)
    go_ret2
    exact ⟨rfl, rfl⟩

set_option maxHeartbeats 1000000 in
theorem rdo_bad (op w1 a b : Int) (w : World) (hbad : (decide (op < 0) || decide (12 < op) || !zlong w1) = true) :
    Calls Tryz.prog 72 #[.int .i8 op, .int .i8 w1, .int .u64 a, .int .u64 b] w fun e w' => e = .returned (.tuple #[.int .u64 0, .int .i64 2]) ∧ w = w' := by
  have hc : op < 0 ∨ (0 ≤ op ∧ 12 < op) ∨ (0 ≤ op ∧ op ≤ 12 ∧ zlong w1 = false) := by
    by_cases h1 : op < 0
    · exact .inl h1
    · by_cases h2 : 12 < op
      · exact .inr (.inl ⟨by omega, h2⟩)
      · exact .inr (.inr ⟨by omega, by omega, by simpa [h1, h2] using hbad⟩)
  clear hbad
  rcases hc with h | ⟨h, h'⟩ | ⟨h, h', hw⟩
  all_goals
    go_enter Tryz.func72, Tryz.ntmps72
    go_wp2_with (go_at_call 119; refine (rlong_any _ _).mono ?_; rintro e w' ⟨rfl, rfl⟩)
    go_ret2
    exact ⟨rfl, rfl⟩

theorem rcut_to (x v a : Int) (w : World) (hx : x = v) (h0 : 0 ≤ v) (h1 : v ≤ 18446744073709551615) :
    Calls Tryz.prog 99 #[.int .u64 x, .int .i8 a] w fun e w' => e = .returned (.int .u64 (zcut v a)) ∧ w = w' := by
  subst hx; exact rcut_any x a w h0 h1

set_option maxHeartbeats 4000000 in
theorem rdo_any (op w1 a b : Int) (w : World) (h0 : 0 ≤ a) (h1 : a ≤ 18446744073709551615) (h2 : 0 ≤ b) (h3 : b ≤ 18446744073709551615) (h4 : 0 ≤ op) (h5 : op ≤ 12) (hw : zlong w1 = true) :
    Calls Tryz.prog 72 #[.int .i8 op, .int .i8 w1, .int .u64 a, .int .u64 b] w fun e w' => e = .returned (.tuple #[.int .u64 (zdo op w1 a b), .int .i64 0]) ∧ w = w' := by
  obtain ⟨ha1, ha2⟩ := zcut_bd a w1 h0 h1
  obtain ⟨hb1, hb2⟩ := zcut_bd b w1 h2 h3
  obtain ⟨hy, hw1, hw2, hy1, hy2⟩ := ymod w1 (zcut b w1) hb1 hb2 hw
  obtain ⟨hz1, hz2⟩ := zop_bd op w1 (zcut a w1) (zcut b w1) (zcut b w1 % w1) ha1 ha2 hb1 hb2
  rcases op_cases h4 h5 with rfl | rfl | rfl | rfl | rfl | rfl | rfl | rfl | rfl | rfl | rfl | rfl | rfl
  all_goals
    go_enter Tryz.func72, Tryz.ntmps72
    go_wp2_with (first
      | (go_at_call 119; refine (rlong_any _ _).mono ?_; rintro e w' ⟨rfl, rfl⟩)
      | (go_at_call 120; refine (rsign_any _ _ _ (by omega) (by omega)).mono ?_; rintro e w' ⟨rfl, rfl⟩)
      | (go_at_call 99; with_reducible refine (rcut_any a _ _ (by omega) (by omega)).mono ?_; rintro e w' ⟨rfl, rfl⟩)
      | (go_at_call 99; with_reducible refine (rcut_any b _ _ (by omega) (by omega)).mono ?_; rintro e w' ⟨rfl, rfl⟩)
      | (go_at_call 99; refine Calls.mono (rcut_to _ _ _ _ ?_ hz1 hz2) ?_; rotate_left 1; rintro e w' ⟨rfl, rfl⟩))
  all_goals first
    | (go_ret2; exact ⟨rfl, rfl⟩)
    | (rw [u64_or _ _ ha1 (by omega) hb1 (by omega)]; simp [zop]; done)
    | (rw [u64_and _ _ ha1 (by omega) hb1 (by omega)]; simp [zop]; done)
    | (rw [u64_xor _ _ ha1 (by omega) hb1 (by omega)]; simp [zop]; done)
    | (simp [zop, w_u64]; done)
    | (have : zcut b w1 = 0 := by omega
       simp [zop, this]; done)
    | (have : zcut b w1 ≠ 0 := by omega
       simp [zop, this]; done)
end Go.Proofs.YtcfnglbcgkappaaGreat
