/- Functions against nil: closed facts. -/
import Derived.Test.YtcngfmhhaleoaaaKnB
import Derived.Test.YtcngfmhhaleoaaaKnP
import Derived.Deep.RegionHeld3
import Derived.Deep.RegionWith
set_option linter.unusedVariables false
set_option linter.unusedSimpArgs false
namespace Go.Proofs.Ytcngfmhhaleoaaa
open Go.RowKit

theorem fneq_nil (w : World) : Sem.run Try.prog (binOp .neq 111 .nilFunc .nilFunc) w = .ok (.bool false) w := by kernel_rfl
theorem fneq_add (w : World) : Sem.run Try.prog (binOp .neq 111 (.func (.func 118) #[] #[]) .nilFunc) w = .ok (.bool true) w := by kernel_rfl
theorem fneq_sub (w : World) : Sem.run Try.prog (binOp .neq 111 (.func (.func 119) #[] #[]) .nilFunc) w = .ok (.bool true) w := by kernel_rfl
theorem fneq_and (w : World) : Sem.run Try.prog (binOp .neq 111 (.func (.func 121) #[] #[]) .nilFunc) w = .ok (.bool true) w := by kernel_rfl
theorem fneq_or (w : World) : Sem.run Try.prog (binOp .neq 111 (.func (.func 120) #[] #[]) .nilFunc) w = .ok (.bool true) w := by kernel_rfl
theorem fneq_xor (w : World) : Sem.run Try.prog (binOp .neq 111 (.func (.func 123) #[] #[]) .nilFunc) w = .ok (.bool true) w := by kernel_rfl
theorem fneq_neg (w : World) : Sem.run Try.prog (binOp .neq 111 (.func (.func 122) #[] #[]) .nilFunc) w = .ok (.bool true) w := by kernel_rfl
theorem fneq_second (w : World) : Sem.run Try.prog (binOp .neq 111 (.func (.func 124) #[] #[]) .nilFunc) w = .ok (.bool true) w := by kernel_rfl
end Go.Proofs.Ytcngfmhhaleoaaa
