/- The walk of bits.Do and of the reference's Do: both compute zdo. -/
import Derived.Test.YtkoiaadhbgccaaaBitsA
import Derived.Laws.EntriesVeiled
set_option linter.unusedVariables false
set_option linter.unusedSimpArgs false
namespace Go.Proofs.Ytkoiaadhbgccaaa
open Go.RowKit

def opsArr : Array Value := #[.func (.func 73) #[] #[], .func (.func 74) #[] #[], .func (.func 75) #[] #[], .func (.func 76) #[] #[], .func (.func 77) #[] #[], .func (.func 78) #[] #[], .func (.func 79) #[] #[], .func (.func 80) #[] #[], .func (.func 81) #[] #[], .func (.func 82) #[] #[], .func (.func 83) #[] #[], .func (.func 84) #[] #[], .func (.func 85) #[] #[]]
set_option maxHeartbeats 400000 in
theorem ops_any (w : World) :
    Calls Try.prog 70 #[] w fun e w' => e = .returned (.agg opsArr) ∧ Below w.heap.size w w' := by
  go_enter Try.func70, Try.ntmps70
  go_wp2
  exact bodyPost_ret (by simp [results, Try.results70, go_sem]; rfl) rfl ⟨rfl, (Below.refl _ _).alloc (Nat.le_refl _) _⟩

theorem ix0 (W : World) : (Instr.index 88 (.agg opsArr) (.int .i8 0)).run Try.prog W = .ok (.func (.func 73) #[] #[]) W := by kernel_rfl
theorem ix1 (W : World) : (Instr.index 88 (.agg opsArr) (.int .i8 1)).run Try.prog W = .ok (.func (.func 74) #[] #[]) W := by kernel_rfl
theorem ix2 (W : World) : (Instr.index 88 (.agg opsArr) (.int .i8 2)).run Try.prog W = .ok (.func (.func 75) #[] #[]) W := by kernel_rfl
theorem ix3 (W : World) : (Instr.index 88 (.agg opsArr) (.int .i8 3)).run Try.prog W = .ok (.func (.func 76) #[] #[]) W := by kernel_rfl
theorem ix4 (W : World) : (Instr.index 88 (.agg opsArr) (.int .i8 4)).run Try.prog W = .ok (.func (.func 77) #[] #[]) W := by kernel_rfl
theorem ix5 (W : World) : (Instr.index 88 (.agg opsArr) (.int .i8 5)).run Try.prog W = .ok (.func (.func 78) #[] #[]) W := by kernel_rfl
theorem ix6 (W : World) : (Instr.index 88 (.agg opsArr) (.int .i8 6)).run Try.prog W = .ok (.func (.func 79) #[] #[]) W := by kernel_rfl
theorem ix7 (W : World) : (Instr.index 88 (.agg opsArr) (.int .i8 7)).run Try.prog W = .ok (.func (.func 80) #[] #[]) W := by kernel_rfl
theorem ix8 (W : World) : (Instr.index 88 (.agg opsArr) (.int .i8 8)).run Try.prog W = .ok (.func (.func 81) #[] #[]) W := by kernel_rfl
theorem ix9 (W : World) : (Instr.index 88 (.agg opsArr) (.int .i8 9)).run Try.prog W = .ok (.func (.func 82) #[] #[]) W := by kernel_rfl
theorem ix10 (W : World) : (Instr.index 88 (.agg opsArr) (.int .i8 10)).run Try.prog W = .ok (.func (.func 83) #[] #[]) W := by kernel_rfl
theorem ix11 (W : World) : (Instr.index 88 (.agg opsArr) (.int .i8 11)).run Try.prog W = .ok (.func (.func 84) #[] #[]) W := by kernel_rfl
theorem ix12 (W : World) : (Instr.index 88 (.agg opsArr) (.int .i8 12)).run Try.prog W = .ok (.func (.func 85) #[] #[]) W := by kernel_rfl

def zop (op w a b y : Int) : Int :=
  if op = 0 then (a + b) % 18446744073709551616
  else if op = 1 then (a - b) % 18446744073709551616
  else if op = 2 then (a * b) % 18446744073709551616
  else if op = 3 then (if b = 0 then 0 else a / b)
  else if op = 4 then ((a.toNat ||| b.toNat : Nat) : Int)
  else if op = 5 then ((a.toNat &&& b.toNat : Nat) : Int)
  else if op = 6 then (a * 2 ^ y.toNat) % 18446744073709551616
  else if op = 7 then a / 2 ^ y.toNat
  else if op = 8 then (0 - a) % 18446744073709551616
  else if op = 9 then (if b = 0 then a else a % b)
  else if op = 10 then ((a.toNat ^^^ b.toNat : Nat) : Int)
  else if op = 11 then b
  else (wrap64 (zsign a w) / 2 ^ y.toNat) % 18446744073709551616
def zdo (op w a b : Int) : Int := zcut (zop op w (zcut a w) (zcut b w) (zcut b w % w)) w

set_option maxHeartbeats 1000000 in
theorem op0_any (a b y a1 : Int) (w : World) (h0 : 0 ≤ a) (h1 : a ≤ 18446744073709551615) (h2 : 0 ≤ b) (h3 : b ≤ 18446744073709551615) (h4 : 0 ≤ y) (h5 : y ≤ 63) :
    Calls Try.prog 73 #[.int .u64 a, .int .u64 b, .int .u64 y, .int .i8 a1] w fun e w' => e = .returned (.int .u64 (zop 0 a1 a b y)) ∧ w = w' := by
  go_enter Try.func73, Try.ntmps73
  go_wp2
  all_goals go_ret
  all_goals (refine ⟨ret_int ?_, rfl⟩)
  all_goals simp [zop, w_u64]

set_option maxHeartbeats 1000000 in
theorem op1_any (a b y a1 : Int) (w : World) (h0 : 0 ≤ a) (h1 : a ≤ 18446744073709551615) (h2 : 0 ≤ b) (h3 : b ≤ 18446744073709551615) (h4 : 0 ≤ y) (h5 : y ≤ 63) :
    Calls Try.prog 74 #[.int .u64 a, .int .u64 b, .int .u64 y, .int .i8 a1] w fun e w' => e = .returned (.int .u64 (zop 1 a1 a b y)) ∧ w = w' := by
  go_enter Try.func74, Try.ntmps74
  go_wp2
  all_goals go_ret
  all_goals (refine ⟨ret_int ?_, rfl⟩)
  all_goals simp [zop, w_u64]

set_option maxHeartbeats 1000000 in
theorem op2_any (a b y a1 : Int) (w : World) (h0 : 0 ≤ a) (h1 : a ≤ 18446744073709551615) (h2 : 0 ≤ b) (h3 : b ≤ 18446744073709551615) (h4 : 0 ≤ y) (h5 : y ≤ 63) :
    Calls Try.prog 75 #[.int .u64 a, .int .u64 b, .int .u64 y, .int .i8 a1] w fun e w' => e = .returned (.int .u64 (zop 2 a1 a b y)) ∧ w = w' := by
  go_enter Try.func75, Try.ntmps75
  go_wp2
  all_goals go_ret
  all_goals (refine ⟨ret_int ?_, rfl⟩)
  all_goals simp [zop, w_u64]

set_option maxHeartbeats 1000000 in
theorem op3_any (a b y a1 : Int) (w : World) (h0 : 0 ≤ a) (h1 : a ≤ 18446744073709551615) (h2 : 0 ≤ b) (h3 : b ≤ 18446744073709551615) (h4 : 0 ≤ y) (h5 : y ≤ 63) :
    Calls Try.prog 76 #[.int .u64 a, .int .u64 b, .int .u64 y, .int .i8 a1] w fun e w' => e = .returned (.int .u64 (zop 3 a1 a b y)) ∧ w = w' := by
  by_cases hz : b = 0
  · subst hz
    go_enter Try.func76, Try.ntmps76
    go_wp2
    all_goals go_ret
    all_goals (refine ⟨ret_int ?_, rfl⟩)
    all_goals simp [zop]
  · go_enter Try.func76, Try.ntmps76
    go_wp2
    all_goals go_ret
    all_goals (refine ⟨ret_int ?_, rfl⟩)
    all_goals simp [zop, hz]
set_option maxHeartbeats 1000000 in
theorem op4_any (a b y a1 : Int) (w : World) (h0 : 0 ≤ a) (h1 : a ≤ 18446744073709551615) (h2 : 0 ≤ b) (h3 : b ≤ 18446744073709551615) (h4 : 0 ≤ y) (h5 : y ≤ 63) :
    Calls Try.prog 77 #[.int .u64 a, .int .u64 b, .int .u64 y, .int .i8 a1] w fun e w' => e = .returned (.int .u64 (zop 4 a1 a b y)) ∧ w = w' := by
  go_enter Try.func77, Try.ntmps77
  go_wp2
  all_goals go_ret
  all_goals (refine ⟨ret_int ?_, rfl⟩)
  all_goals (rw [u64_or _ _ h0 (by omega) h2 (by omega)]; simp [zop])

set_option maxHeartbeats 1000000 in
theorem op5_any (a b y a1 : Int) (w : World) (h0 : 0 ≤ a) (h1 : a ≤ 18446744073709551615) (h2 : 0 ≤ b) (h3 : b ≤ 18446744073709551615) (h4 : 0 ≤ y) (h5 : y ≤ 63) :
    Calls Try.prog 78 #[.int .u64 a, .int .u64 b, .int .u64 y, .int .i8 a1] w fun e w' => e = .returned (.int .u64 (zop 5 a1 a b y)) ∧ w = w' := by
  go_enter Try.func78, Try.ntmps78
  go_wp2
  all_goals go_ret
  all_goals (refine ⟨ret_int ?_, rfl⟩)
  all_goals (rw [u64_and _ _ h0 (by omega) h2 (by omega)]; simp [zop])

set_option maxHeartbeats 1000000 in
theorem op6_any (a b y a1 : Int) (w : World) (h0 : 0 ≤ a) (h1 : a ≤ 18446744073709551615) (h2 : 0 ≤ b) (h3 : b ≤ 18446744073709551615) (h4 : 0 ≤ y) (h5 : y ≤ 63) :
    Calls Try.prog 79 #[.int .u64 a, .int .u64 b, .int .u64 y, .int .i8 a1] w fun e w' => e = .returned (.int .u64 (zop 6 a1 a b y)) ∧ w = w' := by
  go_enter Try.func79, Try.ntmps79
  go_wp2
  all_goals go_ret
  all_goals (refine ⟨ret_int ?_, rfl⟩)
  all_goals simp [zop, w_u64]

set_option maxHeartbeats 1000000 in
theorem op7_any (a b y a1 : Int) (w : World) (h0 : 0 ≤ a) (h1 : a ≤ 18446744073709551615) (h2 : 0 ≤ b) (h3 : b ≤ 18446744073709551615) (h4 : 0 ≤ y) (h5 : y ≤ 63) :
    Calls Try.prog 80 #[.int .u64 a, .int .u64 b, .int .u64 y, .int .i8 a1] w fun e w' => e = .returned (.int .u64 (zop 7 a1 a b y)) ∧ w = w' := by
  go_enter Try.func80, Try.ntmps80
  go_wp2
  all_goals go_ret
  all_goals (refine ⟨ret_int ?_, rfl⟩)
  all_goals simp [zop]

set_option maxHeartbeats 1000000 in
theorem op8_any (a b y a1 : Int) (w : World) (h0 : 0 ≤ a) (h1 : a ≤ 18446744073709551615) (h2 : 0 ≤ b) (h3 : b ≤ 18446744073709551615) (h4 : 0 ≤ y) (h5 : y ≤ 63) :
    Calls Try.prog 81 #[.int .u64 a, .int .u64 b, .int .u64 y, .int .i8 a1] w fun e w' => e = .returned (.int .u64 (zop 8 a1 a b y)) ∧ w = w' := by
  go_enter Try.func81, Try.ntmps81
  go_wp2
  all_goals go_ret
  all_goals (refine ⟨ret_int ?_, rfl⟩)
  all_goals simp [zop, w_u64]

set_option maxHeartbeats 1000000 in
theorem op9_any (a b y a1 : Int) (w : World) (h0 : 0 ≤ a) (h1 : a ≤ 18446744073709551615) (h2 : 0 ≤ b) (h3 : b ≤ 18446744073709551615) (h4 : 0 ≤ y) (h5 : y ≤ 63) :
    Calls Try.prog 82 #[.int .u64 a, .int .u64 b, .int .u64 y, .int .i8 a1] w fun e w' => e = .returned (.int .u64 (zop 9 a1 a b y)) ∧ w = w' := by
  by_cases hz : b = 0
  · subst hz
    go_enter Try.func82, Try.ntmps82
    go_wp2
    all_goals go_ret
    all_goals (refine ⟨ret_int ?_, rfl⟩)
    all_goals simp [zop]
  · go_enter Try.func82, Try.ntmps82
    go_wp2
    all_goals go_ret
    all_goals (refine ⟨ret_int ?_, rfl⟩)
    all_goals simp [zop, hz]
set_option maxHeartbeats 1000000 in
theorem op10_any (a b y a1 : Int) (w : World) (h0 : 0 ≤ a) (h1 : a ≤ 18446744073709551615) (h2 : 0 ≤ b) (h3 : b ≤ 18446744073709551615) (h4 : 0 ≤ y) (h5 : y ≤ 63) :
    Calls Try.prog 83 #[.int .u64 a, .int .u64 b, .int .u64 y, .int .i8 a1] w fun e w' => e = .returned (.int .u64 (zop 10 a1 a b y)) ∧ w = w' := by
  go_enter Try.func83, Try.ntmps83
  go_wp2
  all_goals go_ret
  all_goals (refine ⟨ret_int ?_, rfl⟩)
  all_goals (rw [u64_xor _ _ h0 (by omega) h2 (by omega)]; simp [zop])

set_option maxHeartbeats 1000000 in
theorem op11_any (a b y a1 : Int) (w : World) (h0 : 0 ≤ a) (h1 : a ≤ 18446744073709551615) (h2 : 0 ≤ b) (h3 : b ≤ 18446744073709551615) (h4 : 0 ≤ y) (h5 : y ≤ 63) :
    Calls Try.prog 84 #[.int .u64 a, .int .u64 b, .int .u64 y, .int .i8 a1] w fun e w' => e = .returned (.int .u64 (zop 11 a1 a b y)) ∧ w = w' := by
  go_enter Try.func84, Try.ntmps84
  go_wp2
  all_goals go_ret
  all_goals (refine ⟨ret_int ?_, rfl⟩)
  all_goals simp [zop]

set_option maxHeartbeats 1000000 in
theorem op12_any (a b y a1 : Int) (w : World) (h0 : 0 ≤ a) (h1 : a ≤ 18446744073709551615) (h2 : 0 ≤ b) (h3 : b ≤ 18446744073709551615) (h4 : 0 ≤ y) (h5 : y ≤ 63) :
    Calls Try.prog 85 #[.int .u64 a, .int .u64 b, .int .u64 y, .int .i8 a1] w fun e w' => e = .returned (.int .u64 (zop 12 a1 a b y)) ∧ w = w' := by
  go_enter Try.func85, Try.ntmps85
  go_wp2_with (go_at_call 86; refine (sign_any _ _ _ (by omega) (by omega)).mono ?_; rintro e w' ⟨rfl, rfl⟩)
  all_goals go_ret
  all_goals (refine ⟨ret_int ?_, rfl⟩)
  all_goals simp [zop, w_u64]

end Go.Proofs.Ytkoiaadhbgccaaa
