/- The walks of order, Holds and Not, and of the reference's Holds and Not. -/
import Derived.Test.YtcngfmhhaleoaaaBitsPm
set_option linter.unusedVariables false
set_option linter.unusedSimpArgs false
namespace Go.Proofs.Ytcngfmhhaleoaaa
open Go.RowKit

def zord (a b : Int) : Int := if a < b then -1 else if b < a then 1 else 0
def zhold (cc w a b : Int) : Bool :=
  if cc = 0 then zcut a w == zcut b w
  else if cc = 1 then zcut a w != zcut b w
  else if cc = 2 then decide (zcut b w < zcut a w)
  else if cc = 3 then decide (zcut b w ≤ zcut a w)
  else if cc = 4 then decide (zcut a w < zcut b w)
  else if cc = 5 then decide (zcut a w ≤ zcut b w)
  else if cc = 6 then decide (zs b w < zs a w)
  else if cc = 7 then decide (zs b w ≤ zs a w)
  else if cc = 8 then decide (zs a w < zs b w)
  else if cc = 9 then decide (zs a w ≤ zs b w)
  else bits .and .u64 (zcut a w) (zcut b w) != 0

set_option maxHeartbeats 400000 in
theorem ordu_any (a b : Int) (w : World) :
    Calls Try.prog 80 #[.int .u64 a, .int .u64 b] w fun e w' => e = .returned (.int .i64 (zord a b)) ∧ w = w' := by
  go_enter Try.func80, Try.ntmps80
  go_wp2
  all_goals go_ret
  all_goals (refine ⟨ret_int ?_, rfl⟩; simp only [zord])
  all_goals (repeat' split) <;> first | rfl | omega

set_option maxHeartbeats 400000 in
theorem ords_any (a b : Int) (w : World) :
    Calls Try.prog 81 #[.int .i64 a, .int .i64 b] w fun e w' => e = .returned (.int .i64 (zord a b)) ∧ w = w' := by
  go_enter Try.func81, Try.ntmps81
  go_wp2
  all_goals go_ret
  all_goals (refine ⟨ret_int ?_, rfl⟩; simp only [zord])
  all_goals (repeat' split) <;> first | rfl | omega

theorem ic0 (W : World) (x0 x1 x2 x3 x4 x5 x6 x7 x8 x9 : Value) : (Instr.index 95 (.agg #[x0, x1, x2, x3, x4, x5, x6, x7, x8, x9]) (.int .i8 0)).run Try.prog W = .ok x0 W := by kernel_rfl
theorem ic1 (W : World) (x0 x1 x2 x3 x4 x5 x6 x7 x8 x9 : Value) : (Instr.index 95 (.agg #[x0, x1, x2, x3, x4, x5, x6, x7, x8, x9]) (.int .i8 1)).run Try.prog W = .ok x1 W := by kernel_rfl
theorem ic2 (W : World) (x0 x1 x2 x3 x4 x5 x6 x7 x8 x9 : Value) : (Instr.index 95 (.agg #[x0, x1, x2, x3, x4, x5, x6, x7, x8, x9]) (.int .i8 2)).run Try.prog W = .ok x2 W := by kernel_rfl
theorem ic3 (W : World) (x0 x1 x2 x3 x4 x5 x6 x7 x8 x9 : Value) : (Instr.index 95 (.agg #[x0, x1, x2, x3, x4, x5, x6, x7, x8, x9]) (.int .i8 3)).run Try.prog W = .ok x3 W := by kernel_rfl
theorem ic4 (W : World) (x0 x1 x2 x3 x4 x5 x6 x7 x8 x9 : Value) : (Instr.index 95 (.agg #[x0, x1, x2, x3, x4, x5, x6, x7, x8, x9]) (.int .i8 4)).run Try.prog W = .ok x4 W := by kernel_rfl
theorem ic5 (W : World) (x0 x1 x2 x3 x4 x5 x6 x7 x8 x9 : Value) : (Instr.index 95 (.agg #[x0, x1, x2, x3, x4, x5, x6, x7, x8, x9]) (.int .i8 5)).run Try.prog W = .ok x5 W := by kernel_rfl
theorem ic6 (W : World) (x0 x1 x2 x3 x4 x5 x6 x7 x8 x9 : Value) : (Instr.index 95 (.agg #[x0, x1, x2, x3, x4, x5, x6, x7, x8, x9]) (.int .i8 6)).run Try.prog W = .ok x6 W := by kernel_rfl
theorem ic7 (W : World) (x0 x1 x2 x3 x4 x5 x6 x7 x8 x9 : Value) : (Instr.index 95 (.agg #[x0, x1, x2, x3, x4, x5, x6, x7, x8, x9]) (.int .i8 7)).run Try.prog W = .ok x7 W := by kernel_rfl
theorem ic8 (W : World) (x0 x1 x2 x3 x4 x5 x6 x7 x8 x9 : Value) : (Instr.index 95 (.agg #[x0, x1, x2, x3, x4, x5, x6, x7, x8, x9]) (.int .i8 8)).run Try.prog W = .ok x8 W := by kernel_rfl
theorem ic9 (W : World) (x0 x1 x2 x3 x4 x5 x6 x7 x8 x9 : Value) : (Instr.index 95 (.agg #[x0, x1, x2, x3, x4, x5, x6, x7, x8, x9]) (.int .i8 9)).run Try.prog W = .ok x9 W := by kernel_rfl

theorem cc_cases {op : Int} (h4 : 0 ≤ op) (h5 : op ≤ 10) : op = 0 ∨ op = 1 ∨ op = 2 ∨ op = 3 ∨ op = 4 ∨ op = 5 ∨ op = 6 ∨ op = 7 ∨ op = 8 ∨ op = 9 ∨ op = 10 := by omega
attribute [local go_sem] ic0 ic1 ic2 ic3 ic4 ic5 ic6 ic7 ic8 ic9
theorem ord_eq (a b : Int) : (zord a b == 0) = (a == b) := by unfold zord; rw [Bool.eq_iff_iff]; simp only [beq_iff_eq]; (repeat' split) <;> omega
theorem ord_ne (a b : Int) : (zord a b != 0) = (a != b) := by rw [bne, bne, ord_eq]
theorem ord_gt (a b : Int) : decide (0 < zord a b) = decide (b < a) := by unfold zord; rw [decide_eq_decide]; (repeat' split) <;> omega
theorem ord_ge (a b : Int) : decide (0 ≤ zord a b) = decide (b ≤ a) := by unfold zord; rw [decide_eq_decide]; (repeat' split) <;> omega
theorem ord_lt (a b : Int) : decide (zord a b < 0) = decide (a < b) := by unfold zord; rw [decide_eq_decide]; (repeat' split) <;> omega
theorem ord_le (a b : Int) : decide (zord a b ≤ 0) = decide (a ≤ b) := by unfold zord; rw [decide_eq_decide]; (repeat' split) <;> omega

set_option maxRecDepth 100000 in
set_option maxHeartbeats 4000000 in
theorem holds_any (cc w1 a b : Int) (w : World) (h0 : 0 ≤ a) (h1 : a ≤ 18446744073709551615) (h2 : 0 ≤ b) (h3 : b ≤ 18446744073709551615) (h4 : 0 ≤ cc) (h5 : cc ≤ 10) (hw : zlong w1 = true) :
    Calls Try.prog 36 #[.int .i8 cc, .int .i8 w1, .int .u64 a, .int .u64 b] w fun e w' => e = .returned (.tuple #[.bool (zhold cc w1 a b), .int .i64 0]) ∧ w = w' := by
  obtain ⟨ha1, ha2⟩ := zcut_bd a w1 h0 h1
  obtain ⟨hb1, hb2⟩ := zcut_bd b w1 h2 h3
  rcases cc_cases h4 h5 with rfl | rfl | rfl | rfl | rfl | rfl | rfl | rfl | rfl | rfl | rfl
  all_goals
    go_enter Try.func36, Try.ntmps36
    go_wp2_with (first
      | (go_at_call 78; refine (long_any _ _).mono ?_; rintro e w' ⟨rfl, rfl⟩)
      | (go_at_call 79; with_reducible refine (cut_any a _ _ (by omega) (by omega)).mono ?_; rintro e w' ⟨rfl, rfl⟩)
      | (go_at_call 79; with_reducible refine (cut_any b _ _ (by omega) (by omega)).mono ?_; rintro e w' ⟨rfl, rfl⟩)
      | (go_at_call 82; refine (sign_any _ _ _ (by omega) (by omega)).mono ?_; rintro e w' ⟨rfl, rfl⟩)
      | (go_at_call 80; refine (ordu_any _ _ _).mono ?_; rintro e w' ⟨rfl, rfl⟩)
      | (go_at_call 81; refine (ords_any _ _ _).mono ?_; rintro e w' ⟨rfl, rfl⟩)
      | fail)
    go_ret2
    refine ⟨?_, rfl⟩
    first
      | (simp [zhold, zs, ord_eq, ord_ne, ord_gt, ord_ge, ord_lt, ord_le]; done)
      | (simp [zhold, zs, ord_gt, ord_ge, ord_lt, ord_le]; rw [Bool.eq_iff_iff]; simp; exact decide_eq_true_iff.symm)

set_option maxHeartbeats 1000000 in
theorem holds_bad (op w1 a b : Int) (w : World) (hbad : (decide (op < 0) || decide (10 < op) || !zlong w1) = true) :
    Calls Try.prog 36 #[.int .i8 op, .int .i8 w1, .int .u64 a, .int .u64 b] w fun e w' => e = .returned (.tuple #[.bool false, .int .i64 2]) ∧ w = w' := by
  have hc : op < 0 ∨ (0 ≤ op ∧ 10 < op) ∨ (0 ≤ op ∧ op ≤ 10 ∧ zlong w1 = false) := by
    by_cases h1 : op < 0
    · exact .inl h1
    · by_cases h2 : 10 < op
      · exact .inr (.inl ⟨by omega, h2⟩)
      · exact .inr (.inr ⟨by omega, by omega, by simpa [h1, h2] using hbad⟩)
  clear hbad
  rcases hc with h | ⟨h, h'⟩ | ⟨h, h', hw⟩
  all_goals
    go_enter Try.func36, Try.ntmps36
    go_wp2_with (go_at_call 78; refine (long_any _ _).mono ?_; rintro e w' ⟨rfl, rfl⟩)
    go_ret2
    exact ⟨rfl, rfl⟩
end Go.Proofs.Ytcngfmhhaleoaaa
