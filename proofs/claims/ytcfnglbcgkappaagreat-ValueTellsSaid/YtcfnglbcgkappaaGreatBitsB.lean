/- The walk of bits.Do and of the reference's Do: both compute zdo. -/
import Derived.Test.YtcfnglbcgkappaaGreatBitsA
import Derived.Laws.EntriesVeiled
set_option linter.unusedVariables false
set_option linter.unusedSimpArgs false
namespace Go.Proofs.YtcfnglbcgkappaaGreat
open Go.RowKit

def opsArr : Array Value := #[.func (.func 131) #[] #[], .func (.func 132) #[] #[], .func (.func 133) #[] #[], .func (.func 134) #[] #[], .func (.func 135) #[] #[], .func (.func 136) #[] #[], .func (.func 137) #[] #[], .func (.func 138) #[] #[], .func (.func 139) #[] #[], .func (.func 140) #[] #[], .func (.func 141) #[] #[], .func (.func 142) #[] #[], .func (.func 143) #[] #[]]
set_option maxHeartbeats 400000 in
theorem ops_any (w : World) :
    Calls Tryz.prog 106 #[] w fun e w' => e = .returned (.agg opsArr) ∧ Below w.heap.size w w' := by
  go_enter Tryz.func106, Tryz.ntmps106
  go_wp2
  exact bodyPost_ret (by simp [results, Tryz.results106, go_sem]; rfl) rfl ⟨rfl, (Below.refl _ _).alloc (Nat.le_refl _) _⟩

theorem ix0 (W : World) : (Instr.index 101 (.agg opsArr) (.int .i8 0)).run Tryz.prog W = .ok (.func (.func 131) #[] #[]) W := by kernel_rfl
theorem ix1 (W : World) : (Instr.index 101 (.agg opsArr) (.int .i8 1)).run Tryz.prog W = .ok (.func (.func 132) #[] #[]) W := by kernel_rfl
theorem ix2 (W : World) : (Instr.index 101 (.agg opsArr) (.int .i8 2)).run Tryz.prog W = .ok (.func (.func 133) #[] #[]) W := by kernel_rfl
theorem ix3 (W : World) : (Instr.index 101 (.agg opsArr) (.int .i8 3)).run Tryz.prog W = .ok (.func (.func 134) #[] #[]) W := by kernel_rfl
theorem ix4 (W : World) : (Instr.index 101 (.agg opsArr) (.int .i8 4)).run Tryz.prog W = .ok (.func (.func 135) #[] #[]) W := by kernel_rfl
theorem ix5 (W : World) : (Instr.index 101 (.agg opsArr) (.int .i8 5)).run Tryz.prog W = .ok (.func (.func 136) #[] #[]) W := by kernel_rfl
theorem ix6 (W : World) : (Instr.index 101 (.agg opsArr) (.int .i8 6)).run Tryz.prog W = .ok (.func (.func 137) #[] #[]) W := by kernel_rfl
theorem ix7 (W : World) : (Instr.index 101 (.agg opsArr) (.int .i8 7)).run Tryz.prog W = .ok (.func (.func 138) #[] #[]) W := by kernel_rfl
theorem ix8 (W : World) : (Instr.index 101 (.agg opsArr) (.int .i8 8)).run Tryz.prog W = .ok (.func (.func 139) #[] #[]) W := by kernel_rfl
theorem ix9 (W : World) : (Instr.index 101 (.agg opsArr) (.int .i8 9)).run Tryz.prog W = .ok (.func (.func 140) #[] #[]) W := by kernel_rfl
theorem ix10 (W : World) : (Instr.index 101 (.agg opsArr) (.int .i8 10)).run Tryz.prog W = .ok (.func (.func 141) #[] #[]) W := by kernel_rfl
theorem ix11 (W : World) : (Instr.index 101 (.agg opsArr) (.int .i8 11)).run Tryz.prog W = .ok (.func (.func 142) #[] #[]) W := by kernel_rfl
theorem ix12 (W : World) : (Instr.index 101 (.agg opsArr) (.int .i8 12)).run Tryz.prog W = .ok (.func (.func 143) #[] #[]) W := by kernel_rfl

def zop (op w a b y : Int) : Int :=
  if op = 0 then (a + b) % 18446744073709551616
  else if op = 1 then (a - b) % 18446744073709551616
  else if op = 2 then (a * b) % 18446744073709551616
  else if op = 3 then (if b = 0 then 0 else a / b)
  else if op = 4 then ((a.toNat ||| b.toNat : Nat) : Int)
  else if op = 5 then ((a.toNat &&& b.toNat : Nat) : Int)
  else if op = 6 then (a * 2 ^ y.toNat) % 18446744073709551616
  else if op = 7 then a / 2 ^ y.toNat
  else if op = 8 then (0 - a) % 18446744073709551616
  else if op = 9 then (if b = 0 then a else a % b)
  else if op = 10 then ((a.toNat ^^^ b.toNat : Nat) : Int)
  else if op = 11 then b
  else (wrap64 (zsign a w) / 2 ^ y.toNat) % 18446744073709551616
def zdo (op w a b : Int) : Int := zcut (zop op w (zcut a w) (zcut b w) (zcut b w % w)) w

set_option maxHeartbeats 1000000 in
theorem op0_any (a b y a1 : Int) (w : World) (h0 : 0 ≤ a) (h1 : a ≤ 18446744073709551615) (h2 : 0 ≤ b) (h3 : b ≤ 18446744073709551615) (h4 : 0 ≤ y) (h5 : y ≤ 63) :
    Calls Tryz.prog 131 #[.int .u64 a, .int .u64 b, .int .u64 y, .int .i8 a1] w fun e w' => e = .returned (.int .u64 (zop 0 a1 a b y)) ∧ w = w' := by
  go_enter Tryz.func131, Tryz.ntmps131
  go_wp2
  all_goals go_ret
  all_goals (refine ⟨ret_int ?_, rfl⟩)
  all_goals simp [zop, w_u64]

set_option maxHeartbeats 1000000 in
theorem op1_any (a b y a1 : Int) (w : World) (h0 : 0 ≤ a) (h1 : a ≤ 18446744073709551615) (h2 : 0 ≤ b) (h3 : b ≤ 18446744073709551615) (h4 : 0 ≤ y) (h5 : y ≤ 63) :
    Calls Tryz.prog 132 #[.int .u64 a, .int .u64 b, .int .u64 y, .int .i8 a1] w fun e w' => e = .returned (.int .u64 (zop 1 a1 a b y)) ∧ w = w' := by
  go_enter Tryz.func132, Tryz.ntmps132
  go_wp2
  all_goals go_ret
  all_goals (refine ⟨ret_int ?_, rfl⟩)
  all_goals simp [zop, w_u64]

set_option maxHeartbeats 1000000 in
theorem op2_any (a b y a1 : Int) (w : World) (h0 : 0 ≤ a) (h1 : a ≤ 18446744073709551615) (h2 : 0 ≤ b) (h3 : b ≤ 18446744073709551615) (h4 : 0 ≤ y) (h5 : y ≤ 63) :
    Calls Tryz.prog 133 #[.int .u64 a, .int .u64 b, .int .u64 y, .int .i8 a1] w fun e w' => e = .returned (.int .u64 (zop 2 a1 a b y)) ∧ w = w' := by
  go_enter Tryz.func133, Tryz.ntmps133
  go_wp2
  all_goals go_ret
  all_goals (refine ⟨ret_int ?_, rfl⟩)
  all_goals simp [zop, w_u64]

set_option maxHeartbeats 1000000 in
theorem op3_any (a b y a1 : Int) (w : World) (h0 : 0 ≤ a) (h1 : a ≤ 18446744073709551615) (h2 : 0 ≤ b) (h3 : b ≤ 18446744073709551615) (h4 : 0 ≤ y) (h5 : y ≤ 63) :
    Calls Tryz.prog 134 #[.int .u64 a, .int .u64 b, .int .u64 y, .int .i8 a1] w fun e w' => e = .returned (.int .u64 (zop 3 a1 a b y)) ∧ w = w' := by
  by_cases hz : b = 0
  · subst hz
    go_enter Tryz.func134, Tryz.ntmps134
    go_wp2
    all_goals go_ret
    all_goals (refine ⟨ret_int ?_, rfl⟩)
    all_goals simp [zop]
  · go_enter Tryz.func134, Tryz.ntmps134
    go_wp2
    all_goals go_ret
    all_goals (refine ⟨ret_int ?_, rfl⟩)
    all_goals simp [zop, hz]
set_option maxHeartbeats 1000000 in
theorem op4_any (a b y a1 : Int) (w : World) (h0 : 0 ≤ a) (h1 : a ≤ 18446744073709551615) (h2 : 0 ≤ b) (h3 : b ≤ 18446744073709551615) (h4 : 0 ≤ y) (h5 : y ≤ 63) :
    Calls Tryz.prog 135 #[.int .u64 a, .int .u64 b, .int .u64 y, .int .i8 a1] w fun e w' => e = .returned (.int .u64 (zop 4 a1 a b y)) ∧ w = w' := by
  go_enter Tryz.func135, Tryz.ntmps135
  go_wp2
  all_goals go_ret
  all_goals (refine ⟨ret_int ?_, rfl⟩)
  all_goals (rw [u64_or _ _ h0 (by omega) h2 (by omega)]; simp [zop])

set_option maxHeartbeats 1000000 in
theorem op5_any (a b y a1 : Int) (w : World) (h0 : 0 ≤ a) (h1 : a ≤ 18446744073709551615) (h2 : 0 ≤ b) (h3 : b ≤ 18446744073709551615) (h4 : 0 ≤ y) (h5 : y ≤ 63) :
    Calls Tryz.prog 136 #[.int .u64 a, .int .u64 b, .int .u64 y, .int .i8 a1] w fun e w' => e = .returned (.int .u64 (zop 5 a1 a b y)) ∧ w = w' := by
  go_enter Tryz.func136, Tryz.ntmps136
  go_wp2
  all_goals go_ret
  all_goals (refine ⟨ret_int ?_, rfl⟩)
  all_goals (rw [u64_and _ _ h0 (by omega) h2 (by omega)]; simp [zop])

set_option maxHeartbeats 1000000 in
theorem op6_any (a b y a1 : Int) (w : World) (h0 : 0 ≤ a) (h1 : a ≤ 18446744073709551615) (h2 : 0 ≤ b) (h3 : b ≤ 18446744073709551615) (h4 : 0 ≤ y) (h5 : y ≤ 63) :
    Calls Tryz.prog 137 #[.int .u64 a, .int .u64 b, .int .u64 y, .int .i8 a1] w fun e w' => e = .returned (.int .u64 (zop 6 a1 a b y)) ∧ w = w' := by
  go_enter Tryz.func137, Tryz.ntmps137
  go_wp2
  all_goals go_ret
  all_goals (refine ⟨ret_int ?_, rfl⟩)
  all_goals simp [zop, w_u64]

set_option maxHeartbeats 1000000 in
theorem op7_any (a b y a1 : Int) (w : World) (h0 : 0 ≤ a) (h1 : a ≤ 18446744073709551615) (h2 : 0 ≤ b) (h3 : b ≤ 18446744073709551615) (h4 : 0 ≤ y) (h5 : y ≤ 63) :
    Calls Tryz.prog 138 #[.int .u64 a, .int .u64 b, .int .u64 y, .int .i8 a1] w fun e w' => e = .returned (.int .u64 (zop 7 a1 a b y)) ∧ w = w' := by
  go_enter Tryz.func138, Tryz.ntmps138
  go_wp2
  all_goals go_ret
  all_goals (refine ⟨ret_int ?_, rfl⟩)
  all_goals simp [zop]

set_option maxHeartbeats 1000000 in
theorem op8_any (a b y a1 : Int) (w : World) (h0 : 0 ≤ a) (h1 : a ≤ 18446744073709551615) (h2 : 0 ≤ b) (h3 : b ≤ 18446744073709551615) (h4 : 0 ≤ y) (h5 : y ≤ 63) :
    Calls Tryz.prog 139 #[.int .u64 a, .int .u64 b, .int .u64 y, .int .i8 a1] w fun e w' => e = .returned (.int .u64 (zop 8 a1 a b y)) ∧ w = w' := by
  go_enter Tryz.func139, Tryz.ntmps139
  go_wp2
  all_goals go_ret
  all_goals (refine ⟨ret_int ?_, rfl⟩)
  all_goals simp [zop, w_u64]

set_option maxHeartbeats 1000000 in
theorem op9_any (a b y a1 : Int) (w : World) (h0 : 0 ≤ a) (h1 : a ≤ 18446744073709551615) (h2 : 0 ≤ b) (h3 : b ≤ 18446744073709551615) (h4 : 0 ≤ y) (h5 : y ≤ 63) :
    Calls Tryz.prog 140 #[.int .u64 a, .int .u64 b, .int .u64 y, .int .i8 a1] w fun e w' => e = .returned (.int .u64 (zop 9 a1 a b y)) ∧ w = w' := by
  by_cases hz : b = 0
  · subst hz
    go_enter Tryz.func140, Tryz.ntmps140
    go_wp2
    all_goals go_ret
    all_goals (refine ⟨ret_int ?_, rfl⟩)
    all_goals simp [zop]
  · go_enter Tryz.func140, Tryz.ntmps140
    go_wp2
    all_goals go_ret
    all_goals (refine ⟨ret_int ?_, rfl⟩)
    all_goals simp [zop, hz]
set_option maxHeartbeats 1000000 in
theorem op10_any (a b y a1 : Int) (w : World) (h0 : 0 ≤ a) (h1 : a ≤ 18446744073709551615) (h2 : 0 ≤ b) (h3 : b ≤ 18446744073709551615) (h4 : 0 ≤ y) (h5 : y ≤ 63) :
    Calls Tryz.prog 141 #[.int .u64 a, .int .u64 b, .int .u64 y, .int .i8 a1] w fun e w' => e = .returned (.int .u64 (zop 10 a1 a b y)) ∧ w = w' := by
  go_enter Tryz.func141, Tryz.ntmps141
  go_wp2
  all_goals go_ret
  all_goals (refine ⟨ret_int ?_, rfl⟩)
  all_goals (rw [u64_xor _ _ h0 (by omega) h2 (by omega)]; simp [zop])

set_option maxHeartbeats 1000000 in
theorem op11_any (a b y a1 : Int) (w : World) (h0 : 0 ≤ a) (h1 : a ≤ 18446744073709551615) (h2 : 0 ≤ b) (h3 : b ≤ 18446744073709551615) (h4 : 0 ≤ y) (h5 : y ≤ 63) :
    Calls Tryz.prog 142 #[.int .u64 a, .int .u64 b, .int .u64 y, .int .i8 a1] w fun e w' => e = .returned (.int .u64 (zop 11 a1 a b y)) ∧ w = w' := by
  go_enter Tryz.func142, Tryz.ntmps142
  go_wp2
  all_goals go_ret
  all_goals (refine ⟨ret_int ?_, rfl⟩)
  all_goals simp [zop]

set_option maxHeartbeats 1000000 in
theorem op12_any (a b y a1 : Int) (w : World) (h0 : 0 ≤ a) (h1 : a ≤ 18446744073709551615) (h2 : 0 ≤ b) (h3 : b ≤ 18446744073709551615) (h4 : 0 ≤ y) (h5 : y ≤ 63) :
    Calls Tryz.prog 143 #[.int .u64 a, .int .u64 b, .int .u64 y, .int .i8 a1] w fun e w' => e = .returned (.int .u64 (zop 12 a1 a b y)) ∧ w = w' := by
  go_enter Tryz.func143, Tryz.ntmps143
  go_wp2_with (go_at_call 144; refine (sign_any _ _ _ (by omega) (by omega)).mono ?_; rintro e w' ⟨rfl, rfl⟩)
  all_goals go_ret
  all_goals (refine ⟨ret_int ?_, rfl⟩)
  all_goals simp [zop, w_u64]

end Go.Proofs.YtcfnglbcgkappaaGreat
