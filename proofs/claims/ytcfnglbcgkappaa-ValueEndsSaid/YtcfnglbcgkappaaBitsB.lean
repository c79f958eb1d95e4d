/- The walk of bits.Do and of the reference's Do: both compute zdo. -/
import Derived.Test.YtcfnglbcgkappaaBitsA
import Derived.Laws.EntriesVeiled
set_option linter.unusedVariables false
set_option linter.unusedSimpArgs false
namespace Go.Proofs.Ytcfnglbcgkappaa
open Go.RowKit

def opsArr : Array Value := #[.func (.func 139) #[] #[], .func (.func 140) #[] #[], .func (.func 141) #[] #[], .func (.func 142) #[] #[], .func (.func 143) #[] #[], .func (.func 144) #[] #[], .func (.func 145) #[] #[], .func (.func 146) #[] #[], .func (.func 147) #[] #[], .func (.func 148) #[] #[], .func (.func 149) #[] #[], .func (.func 150) #[] #[], .func (.func 151) #[] #[]]
set_option maxHeartbeats 400000 in
theorem ops_any (w : World) :
    Calls Try.prog 113 #[] w fun e w' => e = .returned (.agg opsArr) ∧ Below w.heap.size w w' := by
  go_enter Try.func113, Try.ntmps113
  go_wp2
  exact bodyPost_ret (by simp [results, Try.results113, go_sem]; rfl) rfl ⟨rfl, (Below.refl _ _).alloc (Nat.le_refl _) _⟩

theorem ix0 (W : World) : (Instr.index 119 (.agg opsArr) (.int .i8 0)).run Try.prog W = .ok (.func (.func 139) #[] #[]) W := by kernel_rfl
theorem ix1 (W : World) : (Instr.index 119 (.agg opsArr) (.int .i8 1)).run Try.prog W = .ok (.func (.func 140) #[] #[]) W := by kernel_rfl
theorem ix2 (W : World) : (Instr.index 119 (.agg opsArr) (.int .i8 2)).run Try.prog W = .ok (.func (.func 141) #[] #[]) W := by kernel_rfl
theorem ix3 (W : World) : (Instr.index 119 (.agg opsArr) (.int .i8 3)).run Try.prog W = .ok (.func (.func 142) #[] #[]) W := by kernel_rfl
theorem ix4 (W : World) : (Instr.index 119 (.agg opsArr) (.int .i8 4)).run Try.prog W = .ok (.func (.func 143) #[] #[]) W := by kernel_rfl
theorem ix5 (W : World) : (Instr.index 119 (.agg opsArr) (.int .i8 5)).run Try.prog W = .ok (.func (.func 144) #[] #[]) W := by kernel_rfl
theorem ix6 (W : World) : (Instr.index 119 (.agg opsArr) (.int .i8 6)).run Try.prog W = .ok (.func (.func 145) #[] #[]) W := by kernel_rfl
theorem ix7 (W : World) : (Instr.index 119 (.agg opsArr) (.int .i8 7)).run Try.prog W = .ok (.func (.func 146) #[] #[]) W := by kernel_rfl
theorem ix8 (W : World) : (Instr.index 119 (.agg opsArr) (.int .i8 8)).run Try.prog W = .ok (.func (.func 147) #[] #[]) W := by kernel_rfl
theorem ix9 (W : World) : (Instr.index 119 (.agg opsArr) (.int .i8 9)).run Try.prog W = .ok (.func (.func 148) #[] #[]) W := by kernel_rfl
theorem ix10 (W : World) : (Instr.index 119 (.agg opsArr) (.int .i8 10)).run Try.prog W = .ok (.func (.func 149) #[] #[]) W := by kernel_rfl
theorem ix11 (W : World) : (Instr.index 119 (.agg opsArr) (.int .i8 11)).run Try.prog W = .ok (.func (.func 150) #[] #[]) W := by kernel_rfl
theorem ix12 (W : World) : (Instr.index 119 (.agg opsArr) (.int .i8 12)).run Try.prog W = .ok (.func (.func 151) #[] #[]) W := by kernel_rfl

def zop (op w a b y : Int) : Int :=
  if op = 0 then (a + b) % 18446744073709551616
  else if op = 1 then (a - b) % 18446744073709551616
  else if op = 2 then (a * b) % 18446744073709551616
  else if op = 3 then (if b = 0 then 0 else a / b)
  else if op = 4 then ((a.toNat ||| b.toNat : Nat) : Int)
  else if op = 5 then ((a.toNat &&& b.toNat : Nat) : Int)
  else if op = 6 then (a * 2 ^ y.toNat) % 18446744073709551616
  else if op = 7 then a / 2 ^ y.toNat
  else if op = 8 then (0 - a) % 18446744073709551616
  else if op = 9 then (if b = 0 then a else a % b)
  else if op = 10 then ((a.toNat ^^^ b.toNat : Nat) : Int)
  else if op = 11 then b
  else (wrap64 (zsign a w) / 2 ^ y.toNat) % 18446744073709551616
def zdo (op w a b : Int) : Int := zcut (zop op w (zcut a w) (zcut b w) (zcut b w % w)) w

set_option maxHeartbeats 1000000 in
theorem op0_any (a b y a1 : Int) (w : World) (h0 : 0 ≤ a) (h1 : a ≤ 18446744073709551615) (h2 : 0 ≤ b) (h3 : b ≤ 18446744073709551615) (h4 : 0 ≤ y) (h5 : y ≤ 63) :
    Calls Try.prog 139 #[.int .u64 a, .int .u64 b, .int .u64 y, .int .i8 a1] w fun e w' => e = .returned (.int .u64 (zop 0 a1 a b y)) ∧ w = w' := by
  go_enter Try.func139, Try.ntmps139
  go_wp2
  all_goals go_ret
  all_goals (refine ⟨ret_int ?_, rfl⟩)
  all_goals simp [zop, w_u64]

set_option maxHeartbeats 1000000 in
theorem op1_any (a b y a1 : Int) (w : World) (h0 : 0 ≤ a) (h1 : a ≤ 18446744073709551615) (h2 : 0 ≤ b) (h3 : b ≤ 18446744073709551615) (h4 : 0 ≤ y) (h5 : y ≤ 63) :
    Calls Try.prog 140 #[.int .u64 a, .int .u64 b, .int .u64 y, .int .i8 a1] w fun e w' => e = .returned (.int .u64 (zop 1 a1 a b y)) ∧ w = w' := by
  go_enter Try.func140, Try.ntmps140
  go_wp2
  all_goals go_ret
  all_goals (refine ⟨ret_int ?_, rfl⟩)
  all_goals simp [zop, w_u64]

set_option maxHeartbeats 1000000 in
theorem op2_any (a b y a1 : Int) (w : World) (h0 : 0 ≤ a) (h1 : a ≤ 18446744073709551615) (h2 : 0 ≤ b) (h3 : b ≤ 18446744073709551615) (h4 : 0 ≤ y) (h5 : y ≤ 63) :
    Calls Try.prog 141 #[.int .u64 a, .int .u64 b, .int .u64 y, .int .i8 a1] w fun e w' => e = .returned (.int .u64 (zop 2 a1 a b y)) ∧ w = w' := by
  go_enter Try.func141, Try.ntmps141
  go_wp2
  all_goals go_ret
  all_goals (refine ⟨ret_int ?_, rfl⟩)
  all_goals simp [zop, w_u64]

set_option maxHeartbeats 1000000 in
theorem op3_any (a b y a1 : Int) (w : World) (h0 : 0 ≤ a) (h1 : a ≤ 18446744073709551615) (h2 : 0 ≤ b) (h3 : b ≤ 18446744073709551615) (h4 : 0 ≤ y) (h5 : y ≤ 63) :
    Calls Try.prog 142 #[.int .u64 a, .int .u64 b, .int .u64 y, .int .i8 a1] w fun e w' => e = .returned (.int .u64 (zop 3 a1 a b y)) ∧ w = w' := by
  by_cases hz : b = 0
  · subst hz
    go_enter Try.func142, Try.ntmps142
    go_wp2
    all_goals go_ret
    all_goals (refine ⟨ret_int ?_, rfl⟩)
    all_goals simp [zop]
  · go_enter Try.func142, Try.ntmps142
    go_wp2
    all_goals go_ret
    all_goals (refine ⟨ret_int ?_, rfl⟩)
    all_goals simp [zop, hz]
set_option maxHeartbeats 1000000 in
theorem op4_any (a b y a1 : Int) (w : World) (h0 : 0 ≤ a) (h1 : a ≤ 18446744073709551615) (h2 : 0 ≤ b) (h3 : b ≤ 18446744073709551615) (h4 : 0 ≤ y) (h5 : y ≤ 63) :
    Calls Try.prog 143 #[.int .u64 a, .int .u64 b, .int .u64 y, .int .i8 a1] w fun e w' => e = .returned (.int .u64 (zop 4 a1 a b y)) ∧ w = w' := by
  go_enter Try.func143, Try.ntmps143
  go_wp2
  all_goals go_ret
  all_goals (refine ⟨ret_int ?_, rfl⟩)
  all_goals (rw [u64_or _ _ h0 (by omega) h2 (by omega)]; simp [zop])

set_option maxHeartbeats 1000000 in
theorem op5_any (a b y a1 : Int) (w : World) (h0 : 0 ≤ a) (h1 : a ≤ 18446744073709551615) (h2 : 0 ≤ b) (h3 : b ≤ 18446744073709551615) (h4 : 0 ≤ y) (h5 : y ≤ 63) :
    Calls Try.prog 144 #[.int .u64 a, .int .u64 b, .int .u64 y, .int .i8 a1] w fun e w' => e = .returned (.int .u64 (zop 5 a1 a b y)) ∧ w = w' := by
  go_enter Try.func144, Try.ntmps144
  go_wp2
  all_goals go_ret
  all_goals (refine ⟨ret_int ?_, rfl⟩)
  all_goals (rw [u64_and _ _ h0 (by omega) h2 (by omega)]; simp [zop])

set_option maxHeartbeats 1000000 in
theorem op6_any (a b y a1 : Int) (w : World) (h0 : 0 ≤ a) (h1 : a ≤ 18446744073709551615) (h2 : 0 ≤ b) (h3 : b ≤ 18446744073709551615) (h4 : 0 ≤ y) (h5 : y ≤ 63) :
    Calls Try.prog 145 #[.int .u64 a, .int .u64 b, .int .u64 y, .int .i8 a1] w fun e w' => e = .returned (.int .u64 (zop 6 a1 a b y)) ∧ w = w' := by
  go_enter Try.func145, Try.ntmps145
  go_wp2
  all_goals go_ret
  all_goals (refine ⟨ret_int ?_, rfl⟩)
  all_goals simp [zop, w_u64]

set_option maxHeartbeats 1000000 in
theorem op7_any (a b y a1 : Int) (w : World) (h0 : 0 ≤ a) (h1 : a ≤ 18446744073709551615) (h2 : 0 ≤ b) (h3 : b ≤ 18446744073709551615) (h4 : 0 ≤ y) (h5 : y ≤ 63) :
    Calls Try.prog 146 #[.int .u64 a, .int .u64 b, .int .u64 y, .int .i8 a1] w fun e w' => e = .returned (.int .u64 (zop 7 a1 a b y)) ∧ w = w' := by
  go_enter Try.func146, Try.ntmps146
  go_wp2
  all_goals go_ret
  all_goals (refine ⟨ret_int ?_, rfl⟩)
  all_goals simp [zop]

set_option maxHeartbeats 1000000 in
theorem op8_any (a b y a1 : Int) (w : World) (h0 : 0 ≤ a) (h1 : a ≤ 18446744073709551615) (h2 : 0 ≤ b) (h3 : b ≤ 18446744073709551615) (h4 : 0 ≤ y) (h5 : y ≤ 63) :
    Calls Try.prog 147 #[.int .u64 a, .int .u64 b, .int .u64 y, .int .i8 a1] w fun e w' => e = .returned (.int .u64 (zop 8 a1 a b y)) ∧ w = w' := by
  go_enter Try.func147, Try.ntmps147
  go_wp2
  all_goals go_ret
  all_goals (refine ⟨ret_int ?_, rfl⟩)
  all_goals simp [zop, w_u64]

set_option maxHeartbeats 1000000 in
theorem op9_any (a b y a1 : Int) (w : World) (h0 : 0 ≤ a) (h1 : a ≤ 18446744073709551615) (h2 : 0 ≤ b) (h3 : b ≤ 18446744073709551615) (h4 : 0 ≤ y) (h5 : y ≤ 63) :
    Calls Try.prog 148 #[.int .u64 a, .int .u64 b, .int .u64 y, .int .i8 a1] w fun e w' => e = .returned (.int .u64 (zop 9 a1 a b y)) ∧ w = w' := by
  by_cases hz : b = 0
  · subst hz
    go_enter Try.func148, Try.ntmps148
    go_wp2
    all_goals go_ret
    all_goals (refine ⟨ret_int ?_, rfl⟩)
    all_goals simp [zop]
  · go_enter Try.func148, Try.ntmps148
    go_wp2
    all_goals go_ret
    all_goals (refine ⟨ret_int ?_, rfl⟩)
    all_goals simp [zop, hz]
set_option maxHeartbeats 1000000 in
theorem op10_any (a b y a1 : Int) (w : World) (h0 : 0 ≤ a) (h1 : a ≤ 18446744073709551615) (h2 : 0 ≤ b) (h3 : b ≤ 18446744073709551615) (h4 : 0 ≤ y) (h5 : y ≤ 63) :
    Calls Try.prog 149 #[.int .u64 a, .int .u64 b, .int .u64 y, .int .i8 a1] w fun e w' => e = .returned (.int .u64 (zop 10 a1 a b y)) ∧ w = w' := by
  go_enter Try.func149, Try.ntmps149
  go_wp2
  all_goals go_ret
  all_goals (refine ⟨ret_int ?_, rfl⟩)
  all_goals (rw [u64_xor _ _ h0 (by omega) h2 (by omega)]; simp [zop])

set_option maxHeartbeats 1000000 in
theorem op11_any (a b y a1 : Int) (w : World) (h0 : 0 ≤ a) (h1 : a ≤ 18446744073709551615) (h2 : 0 ≤ b) (h3 : b ≤ 18446744073709551615) (h4 : 0 ≤ y) (h5 : y ≤ 63) :
    Calls Try.prog 150 #[.int .u64 a, .int .u64 b, .int .u64 y, .int .i8 a1] w fun e w' => e = .returned (.int .u64 (zop 11 a1 a b y)) ∧ w = w' := by
  go_enter Try.func150, Try.ntmps150
  go_wp2
  all_goals go_ret
  all_goals (refine ⟨ret_int ?_, rfl⟩)
  all_goals simp [zop]

set_option maxHeartbeats 1000000 in
theorem op12_any (a b y a1 : Int) (w : World) (h0 : 0 ≤ a) (h1 : a ≤ 18446744073709551615) (h2 : 0 ≤ b) (h3 : b ≤ 18446744073709551615) (h4 : 0 ≤ y) (h5 : y ≤ 63) :
    Calls Try.prog 151 #[.int .u64 a, .int .u64 b, .int .u64 y, .int .i8 a1] w fun e w' => e = .returned (.int .u64 (zop 12 a1 a b y)) ∧ w = w' := by
  go_enter Try.func151, Try.ntmps151
  go_wp2_with (go_at_call 152; refine (sign_any _ _ _ (by omega) (by omega)).mono ?_; rintro e w' ⟨rfl, rfl⟩)
  all_goals go_ret
  all_goals (refine ⟨ret_int ?_, rfl⟩)
  all_goals simp [zop, w_u64]

end Go.Proofs.Ytcfnglbcgkappaa
