/- Functions against nil: closed facts. -/
import Derived.Test.YtkoiaadhbgccaaaKnB
import Derived.Test.YtkoiaadhbgccaaaKnP
import Derived.Deep.RegionHeld3
import Derived.Deep.RegionWith
set_option linter.unusedVariables false
set_option linter.unusedSimpArgs false
namespace Go.Proofs.Ytkoiaadhbgccaaa
open Go.RowKit

theorem fneq_nil (w : World) : Sem.run Try.prog (binOp .neq 55 .nilFunc .nilFunc) w = .ok (.bool false) w := by kernel_rfl
theorem fneq_add (w : World) : Sem.run Try.prog (binOp .neq 55 (.func (.func 54) #[] #[]) .nilFunc) w = .ok (.bool true) w := by kernel_rfl
theorem fneq_sub (w : World) : Sem.run Try.prog (binOp .neq 55 (.func (.func 55) #[] #[]) .nilFunc) w = .ok (.bool true) w := by kernel_rfl
theorem fneq_and (w : World) : Sem.run Try.prog (binOp .neq 55 (.func (.func 57) #[] #[]) .nilFunc) w = .ok (.bool true) w := by kernel_rfl
theorem fneq_or (w : World) : Sem.run Try.prog (binOp .neq 55 (.func (.func 56) #[] #[]) .nilFunc) w = .ok (.bool true) w := by kernel_rfl
theorem fneq_xor (w : World) : Sem.run Try.prog (binOp .neq 55 (.func (.func 59) #[] #[]) .nilFunc) w = .ok (.bool true) w := by kernel_rfl
theorem fneq_neg (w : World) : Sem.run Try.prog (binOp .neq 55 (.func (.func 58) #[] #[]) .nilFunc) w = .ok (.bool true) w := by kernel_rfl
theorem fneq_second (w : World) : Sem.run Try.prog (binOp .neq 55 (.func (.func 60) #[] #[]) .nilFunc) w = .ok (.bool true) w := by kernel_rfl
end Go.Proofs.Ytkoiaadhbgccaaa
