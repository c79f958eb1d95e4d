/- The walks of package bits: widths, cuts and signs, on integers. -/
import Derived.Test.YtcfnglbcgkappaaGreatRows
import Derived.Test.YtcfnglbcgkappaaGreatLib
import Derived.WalkKit
import Derived.WalkSpells
import Derived.WalkLawsBesides
set_option linter.unusedVariables false
set_option linter.unusedSimpArgs false
namespace Go.Proofs.YtcfnglbcgkappaaGreat
open Go.RowKit

def zlong (a : Int) : Bool := a == 32 || a == 64
def zwidth (a : Int) : Bool := a == 8 || a == 16 || a == 32 || a == 64
def zcut (v a : Int) : Int := if a = 8 then v % 256 else if a = 16 then v % 65536 else if a = 32 then v % 4294967296 else v
def zsgn (v b : Int) : Int := if v % (2 * b) < b then v % (2 * b) else 18446744073709551616 - 2 * b + v % (2 * b)
def zsign (v a : Int) : Int := if a = 8 then zsgn v 128 else if a = 16 then zsgn v 32768 else if a = 32 then zsgn v 2147483648 else v

set_option maxHeartbeats 400000 in
theorem long_any (a : Int) (w : World) :
    Calls Tryz.prog 104 #[.int .i8 a] w fun e w' => e = .returned (.bool (zlong a)) ∧ w = w' := by
  go_enter Tryz.func104, Tryz.ntmps104
  go_wp2
  all_goals go_ret
  all_goals (refine ⟨ret_bool ?_, rfl⟩; simp_all [zlong])

set_option maxHeartbeats 400000 in
theorem rlong_any (a : Int) (w : World) :
    Calls Tryz.prog 119 #[.int .i8 a] w fun e w' => e = .returned (.bool (zlong a)) ∧ w = w' := by
  go_enter Tryz.func119, Tryz.ntmps119
  go_wp2
  all_goals go_ret
  all_goals (refine ⟨ret_bool ?_, rfl⟩; simp_all [zlong])

set_option maxHeartbeats 400000 in
theorem rwidth_any (a : Int) (w : World) :
    Calls Tryz.prog 130 #[.int .i8 a] w fun e w' => e = .returned (.bool (zwidth a)) ∧ w = w' := by
  go_enter Tryz.func130, Tryz.ntmps130
  go_wp2
  all_goals go_ret
  all_goals (refine ⟨ret_bool ?_, rfl⟩; simp_all [zwidth])

set_option maxHeartbeats 400000 in
theorem cut_any (v a : Int) (w : World) (h0 : 0 ≤ v) (h1 : v ≤ 18446744073709551615) :
    Calls Tryz.prog 105 #[.int .u64 v, .int .i8 a] w fun e w' => e = .returned (.int .u64 (zcut v a)) ∧ w = w' := by
  go_enter Tryz.func105, Tryz.ntmps105
  go_wp2
  all_goals go_ret
  all_goals (refine ⟨ret_int ?_, rfl⟩)
  all_goals (simp only [beq_iff_eq, beq_eq_false_iff_ne] at *; simp only [zcut, w_u16, w_u64, *]; first | rfl | (simp; done) | (simp; omega))

set_option maxHeartbeats 400000 in
theorem sign_any (v a : Int) (w : World) (h0 : 0 ≤ v) (h1 : v ≤ 18446744073709551615) :
    Calls Tryz.prog 144 #[.int .u64 v, .int .i8 a] w fun e w' => e = .returned (.int .u64 (zsign v a)) ∧ w = w' := by
  go_enter Tryz.func144, Tryz.ntmps144
  go_wp2
  all_goals go_ret
  all_goals (refine ⟨ret_int ?_, rfl⟩)
  all_goals (simp only [beq_iff_eq, beq_eq_false_iff_ne] at *; simp only [zsign, zsgn, w_u16, w_u64, w_i8, w_i16, w_32, w_64, *]; first | rfl | (simp; done) | (simp; split <;> omega))

set_option maxHeartbeats 400000 in
theorem rcut_any (v a : Int) (w : World) (h0 : 0 ≤ v) (h1 : v ≤ 18446744073709551615) :
    Calls Tryz.prog 99 #[.int .u64 v, .int .i8 a] w fun e w' => e = .returned (.int .u64 (zcut v a)) ∧ w = w' := by
  go_enter Tryz.func99, Tryz.ntmps99
  go_wp2_with (go_at_call 130; refine (rwidth_any _ _).mono ?_; rintro e w' ⟨rfl, rfl⟩)
  all_goals go_ret
  all_goals (refine ⟨ret_int ?_, rfl⟩)
  · rename_i h; simp at h; subst h; simp [zcut]
  · rename_i hw h
    simp [zwidth] at hw h
    rcases hw with ((rfl | rfl) | rfl) | rfl
    · simp only [w_u64, zcut]; simp; exact and255 v h0 h1
    · simp only [w_u64, zcut]; simp; exact andMask 16 (by omega) v h0 h1
    · simp only [w_u64, zcut]; simp; exact andMask 32 (by omega) v h0 h1
    · omega
  · rename_i hw
    simp [zwidth] at hw
    simp [zcut, hw]

theorem zcut_bd (v a : Int) (h0 : 0 ≤ v) (h1 : v ≤ 18446744073709551615) : 0 ≤ zcut v a ∧ zcut v a ≤ 18446744073709551615 := by
  unfold zcut; split <;> (try split) <;> (try split) <;> omega
theorem zcut_le (v a : Int) (h0 : 0 ≤ v) : zcut v a ≤ v := by
  unfold zcut; split <;> (try split) <;> (try split) <;> omega
theorem zsign_bd (v a : Int) (h0 : 0 ≤ v) (h1 : v ≤ 18446744073709551615) : 0 ≤ zsign v a ∧ zsign v a ≤ 18446744073709551615 := by
  unfold zsign zsgn; split <;> (try split) <;> (try split) <;> (try split) <;> omega

set_option maxHeartbeats 1000000 in
theorem rsign_any (v a : Int) (w : World) (h0 : 0 ≤ v) (h1 : v ≤ 18446744073709551615) :
    Calls Tryz.prog 120 #[.int .u64 v, .int .i8 a] w fun e w' => e = .returned (.int .u64 (zsign v a)) ∧ w = w' := by
  obtain ⟨hc1, hc2⟩ := zcut_bd v a h0 h1
  by_cases hw : zwidth a = true
  · have hw' := hw
    simp [zwidth] at hw'
    rcases hw' with ((rfl | rfl) | rfl) | rfl
    all_goals
      go_enter Tryz.func120, Tryz.ntmps120
      go_wp2_with (first | (go_at_call 130; refine (rwidth_any _ _).mono ?_; rintro e w' ⟨rfl, rfl⟩) | (go_at_call 99; refine (rcut_any _ _ _ (by omega) (by omega)).mono ?_; rintro e w' ⟨rfl, rfl⟩))
      all_goals go_ret
      all_goals (refine ⟨ret_int ?_, rfl⟩)
    all_goals (rename_i hb; rw [and1 _ (by omega) (by omega)] at hb; simp [zcut] at hc1 hc2 hb; simp [zcut, zsign, zsgn, w_u64]; try (first | (split <;> omega) | omega))
  · go_enter Tryz.func120, Tryz.ntmps120
    go_wp2_with (first | (go_at_call 130; refine (rwidth_any _ _).mono ?_; rintro e w' ⟨rfl, rfl⟩) | (go_at_call 99; refine (rcut_any _ _ _ (by omega) (by omega)).mono ?_; rintro e w' ⟨rfl, rfl⟩))
    go_ret
    refine ⟨ret_int ?_, rfl⟩
    simp [zwidth] at hw
    simp [zsign, hw]
end Go.Proofs.YtcfnglbcgkappaaGreat
